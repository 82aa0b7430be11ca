/- - -/
import Derived.Test.YtekbmehgcofnkaaGreatMzq
open Go.Proofs.Tryz
open Go.IntKind (i64)
set_option maxRecDepth 100000
namespace Go.Proofs.YtekbmehgcofnkaaGreat
open Go.SX Go.SX.Told
variable {k:Nat}(pb:List Prop->Bool)(d:Puz)(E:ECt)(p:Nat)(w0:TwP)(q:Nat)(o:List Tw)(z:Nat)(l:List Lay)(z':Nat)(u:Nat->Nat->Int)(f':Nat)
def Xh(ac body:Code)(rec:List Lay->TJ->QZ TJ)(l:List Lay)(k:Nat×TJ)(e:Ex)(J:JSt):Prop:=match Qz (Km d E rec l) ((List.range d.ps.n).drop k.1) k.2 with
 | .go s'=>e = .exit 0/\J=GW d E w0 ac body (QD l) l s'.1
 | .stop s'=>e = .ret/\J=twF d E w0 ac body (QD l) l s'.1
set_option maxHeartbeats 1000000 in
theorem QYV(ac body:Code)(rec:List Lay->TJ->QZ TJ)(l:List Lay)(hn:d.ps.n<=1000):Jd (λk:Nat×TJ=>zX d E w0 ac body (QD l) l k.2.1 k.1) (λk=>k.1<=d.ps.n) (λk=>d.ps.n-k.1) (Xh d E w0 ac body rec l) 632 QJC Z3 (λk=>mkE prog (Wb QO d l.length k.1)) (λk=>QCP prog QO d E w0 ac body (QD l) l k.2.1 k.1 (QA9 d E w0 ac body rec l k.1 k.2)) (QJ f103 0):=by
 refine⟨λk g0 hk=>?_⟩;obtain⟨p,f,hq0⟩:=k;have hk:p<=d.ps.n:=hk;have wp:p<d.ps.n->i64.wrap ((p:Int)+1)=((p+1:Nat):Int):=λh=>Ju h hn;have step:=λh:p<d.ps.n=>Wp (f:=Km d E rec l) h ⟨f,hq0⟩
 have next:p<d.ps.n->∀{s2:TJ},Km d E rec l ⟨f,hq0⟩ p = .go s2->∀ e J,Xh d E w0 ac body rec l (p+1,s2) e J->Xh d E w0 ac body rec l (p,⟨f,hq0⟩) e J:=by
  intro h s2 he e J hr;unfold Xh at hr ⊢;simp only at hr ⊢;rw[step h,he];exact hr
 have stop:p<d.ps.n->∀{s2:TJ},Km d E rec l ⟨f,hq0⟩ p = .stop s2->Xh d E w0 ac body rec l (p,⟨f,hq0⟩) .ret (twF d E w0 ac body (QD l) l s2.1):=by
  intro h s2 he;unfold Xh;simp only[step h,he,and_self]
 have last:d.ps.n<=p->Xh d E w0 ac body rec l (p,⟨f,hq0⟩) (.exit 0) (GW d E w0 ac body (QD l) l f):=by
  intro h;unfold Xh;simp only[Wz h,and_self]
 have hpz:KG l p=false->Km d E rec l ⟨f,hq0⟩ p=inZ d E rec l p ⟨f,hq0⟩:=λh=>by unfold Km;rw[h];rfl
 have hpu:KG l p=true->Km d E rec l ⟨f,hq0⟩ p = .go ⟨f,hq0⟩:=λh=>by unfold Km;rw[h];rfl
 unfold QA9;simp only;cases hr:inZ d E rec l p ⟨f,hq0⟩with
 | go s'=>
  obtain⟨f',hq1⟩:=s';simp only[QZ.isGo,QZ.s,Bool.true_eq_false,Bool.false_eq_true];have et:=QKv QO d E w0 ac body (QD l) (QD l) l f p True False f' g0;refine Qf et ?_;clear et;refine QF (λb0=>?_) (λb0=>?_);have h:p<d.ps.n:=by have:=qdt b0;omega
  have hw:=wp h
  iterate 2 (refine QH ?_ ?_;rotate_left)
  refine QF (λb1=>?_) (λb1=>?_);have hub:KG l p=true:=Vd.symm.trans b1;refine⟨(p+1,⟨f,hq0⟩),h,by show d.ps.n-(p+1)<d.ps.n-p;omega,next h (hpu hub),rfl,rfl,_,QJy d E w0 ac body (QD l) l f p (p+1),?_⟩
  rotate_left
  have hub:KG l p=false:=Vd.symm.trans b1;have hu0:QD l p 0=0:=by unfold QD;rw[hub];rfl
  refine QH ?_ ?_;rotate_left
  iterate 143 refine Qt (by first|exact tv|exact⟨h,hu0⟩|with_reducible exact qRr|exact rfl) ?_
  refine Kl ?_ ?_;refine Qj λa0=>?_;refine Qk λg0=>?_;refine⟨(p+1,⟨f',hq1⟩),h,by show d.ps.n-(p+1)<d.ps.n-p;omega,next h ((hpz hub).trans hr),rfl,rfl,_,QZV d E w0 ac body (QD l) l p (p+1) f',?_⟩
  rotate_left
  refine Qj λa1=>?_;refine Qk λg1=>?_
  .exact a1.elim
  have h:d.ps.n<=p:=by have:=qdf b0;omega
  refine⟨_,last h,rfl,rfl,_,QOe d E w0 ac body (QD l) l f,?_⟩
  rotate_left
  all_goals first|((with_reducible show _=true);(first|(refine Q6.2 ?_;repeat' first|exact tv|with_reducible exact qRr|exact rfl|refine aI ?_ ?_)|(simp;omega)))|(repeat' first|with_reducible refine QP ?_ ?_|exact tv|with_reducible exact qRr|with_reducible exact hw|exact rfl|refine aI ?_ ?_)
 | stop s'=>
  obtain⟨f',hq1⟩:=s';simp only[QZ.isGo,QZ.s,Bool.true_eq_false,Bool.false_eq_true];have et:=QKv QO d E w0 ac body (QD l) (QD l) l f p False True f' g0;refine Qf et ?_;clear et;refine QF (λb0=>?_) (λb0=>?_);have h:p<d.ps.n:=by have:=qdt b0;omega
  have hw:=wp h
  iterate 2 (refine QH ?_ ?_;rotate_left)
  refine QF (λb1=>?_) (λb1=>?_);have hub:KG l p=true:=Vd.symm.trans b1;refine⟨(p+1,⟨f,hq0⟩),h,by show d.ps.n-(p+1)<d.ps.n-p;omega,next h (hpu hub),rfl,rfl,_,QJy d E w0 ac body (QD l) l f p (p+1),?_⟩
  rotate_left
  have hub:KG l p=false:=Vd.symm.trans b1;have hu0:QD l p 0=0:=by unfold QD;rw[hub];rfl
  refine QH ?_ ?_;rotate_left
  iterate 143 refine Qt (by first|exact tv|exact⟨h,hu0⟩|with_reducible exact qRr|exact rfl) ?_
  refine Kl ?_ ?_;refine Qj λa0=>?_;refine Qk λg0=>?_
  .exact a0.elim
  refine Qj λa1=>?_;refine Qk λg1=>?_;refine⟨_,stop h ((hpz hub).trans hr),rfl,rfl,_,QbT d E w0 ac body (QD l) l f',?_⟩
  rotate_left
  have h:d.ps.n<=p:=by have:=qdf b0;omega
  refine⟨_,last h,rfl,rfl,_,QOe d E w0 ac body (QD l) l f,?_⟩
  rotate_left
  all_goals first|((with_reducible show _=true);(first|(refine Q6.2 ?_;repeat' first|exact tv|with_reducible exact qRr|exact rfl|refine aI ?_ ?_)|(simp;omega)))|(repeat' first|with_reducible refine QP ?_ ?_|exact tv|with_reducible exact qRr|with_reducible exact hw|exact rfl|refine aI ?_ ?_)
noncomputable abbrev Zy:Code:=(Qw (QS (QJ f21 0))).1
noncomputable abbrev Z7:Code:=(Qw (QS (QJ f21 0))).2
theorem QO7(ac body:Code)(u:Nat->Nat->Int)(l:List Lay)(f:Nat)(f':Nat):(twU d E w0 ac body u l f f').Ok:=by
 refine⟨(by decide:592<=632),rfl,rfl,?_,rfl,λ_ _=>rfl,λnid h=>?_⟩
 .intro q hq;simp only[UC.po,twU,twW,rwY,rwU,rwT,bdZ,List.mem_cons,List.not_mem_nil,or_false]at hq;rcases hq with rfl|rfl|rfl|rfl|rfl|rfl|rfl|rfl|rfl|rfl|rfl<;>refine⟨rfl,rfl,rfl,?_⟩<;>first|exact λ_=>rfl|exact λh=>absurd (show 632<592 from h) (by decide)|exact λh=>absurd (show 633<592 from h) (by decide)|exact λh=>absurd (show 634<592 from h) (by decide)|exact λh=>absurd (show 635<592 from h) (by decide)
 .have e0:=KW 592 632 0 nid (by decide)
  have e1:=KW 592 632 1 nid (by decide)
  have e2:=KW 592 632 2 nid (by decide)
  have e3:=KW 592 632 3 nid (by decide)
  simp only[UC.po,twU,twW,rwY,rwU,rwT,bdZ,GF,twT,KR,Ql.val,List.cons_append,List.nil_append,List.map_cons,List.map_nil,Blk.mapId,AV.mapId,AV.mapIdL,Nat.add_zero]at e0 e1 e2 e3 ⊢;rw[e0,e1,e2,e3];rfl
theorem QK0(ac body:Code)(u:Nat->Nat->Int)(l:List Lay)(f:Nat)(f':Nat):(twV d E w0 ac body u l f f').Ok:=by
 refine⟨(by decide:592<=632),rfl,rfl,?_,rfl,λ_ _=>rfl,λnid h=>?_⟩
 .intro q hq;simp only[UC.po,twV,twW,rwY,rwU,rwT,bdZ,List.mem_cons,List.not_mem_nil,or_false]at hq;rcases hq with rfl|rfl|rfl|rfl|rfl|rfl|rfl|rfl|rfl|rfl|rfl<;>refine⟨rfl,rfl,rfl,?_⟩<;>first|exact λ_=>rfl|exact λh=>absurd (show 632<592 from h) (by decide)|exact λh=>absurd (show 633<592 from h) (by decide)|exact λh=>absurd (show 634<592 from h) (by decide)|exact λh=>absurd (show 635<592 from h) (by decide)
 .have e0:=KW 592 632 0 nid (by decide)
  have e1:=KW 592 632 1 nid (by decide)
  have e2:=KW 592 632 2 nid (by decide)
  have e3:=KW 592 632 3 nid (by decide)
  simp only[UC.po,twV,twW,rwY,rwU,rwT,bdZ,GF,twT,KR,Ql.val,List.cons_append,List.nil_append,List.map_cons,List.map_nil,Blk.mapId,AV.mapId,AV.mapIdL,Nat.add_zero]at e0 e1 e2 e3 ⊢;rw[e0,e1,e2,e3];rfl
def QAi(l v:List Lay)(p q:Int)(z:Nat)(vb:Bool)(z':Nat):Tab:=Qc (Qc QT 63 (KB pb (swU l p q v))) 62 (KB pb (iqU d E v z vb z'))
abbrev twM(P : Program)(T : Tab): Hnd := { hnd (mkE P T) 5 with loop := λ_ _ _=>.fail "a loop" }
noncomputable abbrev QMG:Nat×Blk:=
  (200,.cells 0 152 (List.append (waf d) ([.map 201,.slz 600 0 l.length cO])))
noncomputable abbrev QJ4:Nat×Blk:=
  (288,.cells 0 152 (List.append (waf d) ([.map 289,.slz 824 0 f' cO])))
noncomputable abbrev QQX:Nat×Blk:=
  (0,.frz (List.append (waa) ((List.append (waG) ((List.append (wbk) ([.int .i64])))))) d.ps.n λi=>QA.enc (d.ps.get i))
noncomputable abbrev QLH(d:Puz)(f':Nat)(l:List Lay)(u:Nat->Nat->Int)(w0:TwP):List (Nat×Blk):=
  [(QMG d l),(201,.mp E.1 E.2),(568,.cells 0 114 [.slz 608 0 d.ps.n cO]),(497,.lp LoopState.done (some (Code.exit 4)) (twT d w0) (Array.mk [31]) (Qw (QS (QJ
  f21 0))).1 (Qw (QS (QJ f21 0))).2),(120,.cells 0 36 [.slz 872 0 (w0.o.length+1) cO]),(QJ4 d f'),(289,.mp E.1 E.2),(QQX d),(600,.rowz true
  49 [.int .i64,.int .i64] l.length λi=>QA.enc (l.getD i (Lay.mk (0:Int) (0:Int)))),(608,.rowz true 4 [CK.bool] d.ps.n u),(296,.cellsR 0 90 [.ptr 288 0 0]),(400,
  .cellsR 0 3 [vi (w0.p:Int)]),(432,.cellsR 0 3 [vi (w0.q:Int)]),(456,.cellsR 0 90 [.ptr 200 0 0]),(464,.cellsR 0 96 [.nils]),(872,.rowz true 89 kB (w0.o.length+1) (KN w0.o.length (λi=>QA.enc (w0.o.getD i (Tw.mk (0:Int) (0:Int)))) (Kh [[vi (w0.q:Int),vi (w0.p
  : Int)]] 0)))]
noncomputable abbrev QJM(d:Puz)(f':Nat)(l:List Lay)(u:Nat->Nat->Int)(w0:TwP):List (Nat×Blk):=
  [(QMG d l),(201,.mp E.1 E.2),(568,.cells 0 114 [.slz 608 0 d.ps.n cO]),(497,.lp LoopState.ready none (twT d w0) (Array.mk [31]) (Qw (QS (QJ f21
  0))).1 (Qw (QS (QJ f21 0))).2),(120,.cells 0 36 [.slz 616 0 w0.o.length cO]),(QJ4 d f'),(289,.mp E.1 E.2),(QQX d),(600,.rowz true 49 kB l.length λi=>QA.enc (l.getD i (Lay.mk (0:Int) (0:Int)))),(608,.rowz true 4 [CK.bool] d.ps.n u),(296,.cellsR 0 90 [.ptr 288 0 0]),(400,.cellsR 0 3 [.int
  false .i64 (w0.p:Int)]),(432,.cellsR 0 3 [vi (w0.q:Int)]),(456,.cellsR 0 90 [.ptr 200 0 0]),(464,.cellsR 0 96 [.nils]),(616,.rowz true 89 [.int .i64,.int
  .i64] w0.o.length λi=>QA.enc (w0.o.getD i (Tw.mk (0:Int) (0:Int))))]
theorem QUt(l v:List Lay)(f:Nat)(vb:Bool)(f':Nat):(VR (mkE prog (QAi pb d E l v w0.p w0.q f vb f')) (twM prog (QAi pb d E l v w0.p w0.q f vb f')) f103 QGD (GF d E w0 (Qw (QS (QJ f21
  0))).1 (Qw (QS (QJ f21 0))).2 u l f).hp 632 λv h _=>ZE Z3 v h) = .br ((l.length:Int)==(d.ps.n:Int)) (.need (pb ([0=0,l.length=l.length,Cap.of
  0=Cap.of 0,(w0.p:Int)=(w0.p:Int),(w0.q:Int)=(w0.q:Int),l.length<=l.length,QB 2 l.length (λi=>QA.enc (l.getD i (Lay.mk (0:Int) (0:Int)))) λi=>
  QA.enc (l.getD i (Lay.mk (0:Int) (0:Int)))])) (.need (pb ([0=0,0=0,0=0,v.length=v.length,Cap.of 0=Cap.of 0,d.pK.length=d.pK.length,d.pK.aK =
  d.pK.aK,d.pK.oK=d.pK.oK,d.pK.dK.lo=d.pK.dK.lo,d.pK.dK.hi=d.pK.dK.hi,d.wide=d.wide,d.high=d.high,d.turn=d.turn,0=0,d.ps.n =
  d.ps.n,Cap.of 0=Cap.of 0,0=0,f=f,Cap.of 0=Cap.of 0,E.1=E.1,E.2=E.2,v.length<=v.length,QB 2 v.length (λi=>QA.enc (v.getD i (Lay.mk (0:Int) (0 :
  Int)))) λi=>QA.enc (v.getD i (Lay.mk (0:Int) (0:Int))),d.ps.n<=d.ps.n,QB 28 d.ps.n (λi=>QA.enc (d.ps.get i)) λi=>QA.enc (d.ps.get i)])) (.br (vb)
  (.need (decide (w0.o.length<=w0.o.length)&&(true&&decide ((w0.o.length+1+(w0.o.length+1) / 4+192)*16<=281474976710656/\w0.o.length+1<=9223372036854775807)))
  (.leaf (.bool true false) ((QLH E d f' l u w0)))) (.leaf (.bool true true) ((QJM E d f' l u w0)))))) (.fail ("a loop")) := by kernel_rfl
abbrev QD7:List Prop:=
  (wab d++[cO=cO,0=0])
abbrev QNQ(d:Puz)(l:List Lay):List Prop:=
  ((wcj E l)++wag l++(wcN d))
abbrev QJ3:List Prop:=
  ([Array.mk [31]=Array.mk [(31:Tmp)]]++wbN++[w0.g 0=w0.g 0])
abbrev GM:List Prop:=
  [0=0,0=0,0=0,0=0]
abbrev QNK:List Prop:=
  ([w0.g 10=w0.g 10]++wap d w0++(([true=true,(w0.q:Int)=(w0.q:Int),0=0,0=0]++wcS)++waq w0))
theorem QWT(l v:List Lay)(f f':Nat):QG 632 [(.bool true false)] ((QLH E d f' l u w0)) (KP (twV d E w0 (Qw (QS (QJ f21 0))).1 (Qw (QS (QJ f21 0))).2 u l f f'))=(some ([false=false]++(QD7 d)++(QNQ E d l)++[QB 1 d.ps.n u u,LoopState.done=LoopState.done,some (Code.exit 4)=some (Code.exit 4)]++(QJ3 w0)++GM++[w0.g 3=w0.g 3] ++ GM++GM++[w0.g 8=w0.g 8,w0.g 9=w0.g 9]++(QNK d w0)++(wbO w0++[0=0,w0.o.length+1=w0.o2.length,cO=cO,w0.o2.length<=w0.o.length+1,QB 2 w0.o2.length (KN w0.o.length (λi=>QA.enc (w0.o.getD i (Tw.mk (0:Int) (0:Int)))) (Kh [[vi (w0.q:Int),vi (w0.p:Int)]] 0)) λi=>QA.enc (w0.o2.getD i (Tw.mk (0:Int) (0:Int)))])++(QD7 d)++[f'=f',cO=cO,E.1=E.1,E.2=E.2])):=by kernel_rfl
theorem QXH(l v:List Lay)(f f':Nat):QG 632 [(.bool true true)] ((QJM E d f' l u w0)) (KP (twU d E w0 (Qw (QS (QJ f21 0))).1 (Qw (QS (QJ f21 0))).2 u l f f'))=(some ([true=true]++(QD7 d)++(QNQ E d l)++([QB 1 d.ps.n u u]++waj)++(QJ3 w0)++GM++[w0.g 3=w0.g 3]++GM++GM ++ [w0.g 8=w0.g 8,w0.g 9=w0.g 9]++(QNK d w0)++((wbO w0++[0=0,w0.o.length=w0.o.length,cO=cO])++waw w0)++(QD7 d)++[f'=f',cO=cO,E.1=E.1,E.2=E.2])):=by kernel_rfl
def twA(s:TJ):QZ TJ:=cond (Vw d E (l.map (swS p q))) (.stop ⟨iqZ d E (l.map (swS p q)) s.1,trivial⟩) (.go ⟨iqZ d E (l.map (swS p q)) s.1,trivial⟩)
abbrev twY:List Lay->TJ->QZ TJ:=twA d E w0.p w0.q
theorem QRV(T:Tab)(hT:Qe T)(G:Ctx)(hrd:G.rd=none):Qu (mkE prog T) G (twM prog T) (Qp f103):=
 KM (body:=QJ f103 0) (QQ hT) hrd (by kernel_rfl) (λ_ _ _ _ _ _ _ h _ _=>h.elim)
theorem QWb(l:List Tw)(x:Tw):QB 2 (l++[x]).length (KN l.length (λi=>QA.enc (l.getD i ⟨0,0⟩)) (Kh [[.int false .i64 x.a,.int false .i64 x.b]] 0)) λi=>QA.enc ((l++[x]).getD i ⟨0,0⟩):=by
 intro i hi;rw[List.length_append,List.length_singleton]at hi;show eqF 2 0 _ (QA.enc ((l++[x]).getD i ⟨0,0⟩))
 by_cases h:i<l.length
 .have e:(l++[x]).getD i ⟨0,0⟩=l.getD i ⟨0,0⟩:=by
   rw[List.getD_eq_getElem?_getD,List.getD_eq_getElem?_getD,List.getElem?_append_left h]
  rw[e];refine⟨?_,?_,trivial⟩<;>(rw[X3,if_pos h])
 .obtain rfl:i=l.length:=by omega
  have e:(l++[x]).getD l.length ⟨0,0⟩=x:=by
   rw[List.getD_eq_getElem?_getD,List.getElem?_append_right (qlr _)];simp
  rw[e];refine⟨?_,?_,trivial⟩<;>(rw[X3,if_neg h,Nat.sub_self];rfl)
theorem QTX{d:Puz}{p q:Nat}(hp:p<d.ps.n)(hq:q<d.ps.n){l:List Lay}(hL:∀ y∈l,KC d y):∀ y∈l.map (swS p q),KC d y:=by
 intro y hy;obtain⟨x,hx,rfl⟩:=List.mem_map.1 hy;obtain⟨h1,h2⟩:=hL x hx;unfold swS;cases (x.piece==(p:Int))
 .cases (x.piece==(q:Int))
  .exact⟨h1,h2⟩
  .exact⟨⟨by show(0:Int)<=p;omega,by show(p:Int)<_;omega⟩,h2⟩
 .exact⟨⟨by show(0:Int)<=q;omega,by show(q:Int)<_;omega⟩,h2⟩
set_option maxHeartbeats 1000000 in
theorem QdC{d:Puz}(hd:KI d){E:ECt}(hE:WfE E){w0:TwP}(hw:w0.o2=w0.o++[⟨w0.q,w0.p⟩])(hol:w0.o.length<=1000000)(hp:w0.p<d.ps.n)(hq:w0.q<d.ps.n)(hpos:0<d.ps.n)(l:List Lay)(s:TJ)(hk:l.length=d.ps.n)(hL:∀ y∈l,KC d y):QR prog 103 (uFC (V1 d E w0 Zy Z7 l s (twY d E w0 l s))):=by
 have hll:l.length<=1000:=by rw[hk];exact hd.n
 have hvl:(l.map (swS w0.p w0.q)).length<=1000:=by rw[List.length_map];exact hll
 have hT:Qe (QAi QO d E l (l.map (swS w0.p w0.q)) w0.p w0.q s.1 (Vw d E (l.map (swS w0.p w0.q))) (iqZ d E (l.map (swS w0.p w0.q)) s.1)):=(Qd.add (QXe l w0.p w0.q (by omega) hll)).add (QWj hd hE hvl (QTX hp hq hL) s.1)
 have et:=QUt QO d E w0 (QD l) l (l.map (swS w0.p w0.q)) s.1 (Vw d E (l.map (swS w0.p w0.q))) (iqZ d E (l.map (swS w0.p w0.q)) s.1);have hlen:((l.length:Int)==(d.ps.n:Int))=true:=by rw[hk];simp
 have ho2:w0.o2.length=w0.o.length+1:=by rw[hw];simp
 have hr:=QWb w0.o ⟨w0.q,w0.p⟩;rw[<-hw]at hr;unfold twY twA;cases h0:Vw d E (l.map (swS w0.p w0.q))with
 | true=>
  rw[h0]at hT et;simp only[cond_true,V1];refine Ks (E:=mkE prog (QAi QO d E l (l.map (swS w0.p w0.q)) w0.p w0.q s.1 true (iqZ d E (l.map (swS w0.p w0.q)) s.1))) (QQ hT) func103 (by kernel_rfl) (by kernel_rfl) (QK0 ..) (λG hG _=>QRV _ hT G hG) ⟨?_⟩
  refine Qf et ?_;clear et;refine QF ?_ ?_<;>intro b0
  iterate 2 (refine QH ?_ ?_;rotate_left)
  refine QF (λb1=>?_) (λb1=>?_);refine QH ?_ ?_;rotate_left;refine⟨rfl,rfl,_,QWT d E w0 (QD l) l (l.map (swS w0.p w0.q)) s.1 (iqZ d E (l.map (swS w0.p w0.q)) s.1),?_⟩
  rotate_left
  .cases b1
  .exact Bool.noConfusion (hlen.symm.trans b0)
  all_goals first|((with_reducible show _=true);(first|(refine Q6.2 ?_;repeat' first|with_reducible refine QP ?_ ?_|exact tv|with_reducible exact qRr|exact rfl|refine aI ?_ ?_)|(simp;omega)))|(repeat' first|with_reducible refine QP ?_ ?_|exact tv|with_reducible exact qRr|with_reducible exact hr|exact ho2.symm|exact Nat.le_of_eq ho2|exact rfl|refine aI ?_ ?_)
 | false=>
  rw[h0]at hT et;simp only[cond_false,V1];refine Ks (E:=mkE prog (QAi QO d E l (l.map (swS w0.p w0.q)) w0.p w0.q s.1 false (iqZ d E (l.map (swS w0.p w0.q)) s.1))) (QQ hT) func103 (by kernel_rfl) (by kernel_rfl) (QO7 ..) (λG hG _=>QRV _ hT G hG) ⟨?_⟩
  refine Qf et ?_;clear et;refine QF ?_ ?_<;>intro b0
  iterate 2 (refine QH ?_ ?_;rotate_left)
  refine QF ?_ ?_<;>intro b1
  .cases b1
  refine⟨rfl,rfl,_,QXH d E w0 (QD l) l (l.map (swS w0.p w0.q)) s.1 (iqZ d E (l.map (swS w0.p w0.q)) s.1),?_⟩
  rotate_left
  .exact Bool.noConfusion (hlen.symm.trans b0)
  all_goals first|((with_reducible show _=true);(first|(refine Q6.2 ?_;repeat' first|with_reducible refine QP ?_ ?_|exact tv|with_reducible exact qRr|exact rfl|refine aI ?_ ?_)|(simp;omega)))|(repeat' first|with_reducible refine QP ?_ ?_|exact tv|with_reducible exact qRr|exact rfl|refine aI ?_ ?_)
theorem QPy{d:Puz}{E:ECt}{w0:TwP}{ac body:Code}{rec:List Lay->TJ->QZ TJ}{l:List Lay}(hd:KI d)(hE:WfE E)(hl:l.length<=1000)(hL:∀ y∈l,KC d y)(s:TJ)(IH:∀ p,p<d.ps.n->QCG d E w0 ac body rec l p){X:List (Prop×Ex×JSt)}(hX:∀ e J,Xh d E w0 ac body rec l (0,s) e J->∃ y∈X,y.1/\y.2.1=e/\y.2.2=J)(G:Ctx)(hrd:G.rd=none)(hG:G.n=632):
  Qu (mkE prog QT) G (twX prog (zX d E w0 ac body (QD l) l s.1 0) X) (Qp f103):=by
 refine KM (body:=QJ f103 0) (QQ Qd) hrd (by kernel_rfl) ?_
 have hEnv:∀ k:Nat×TJ,(mkE prog (Wb QO d l.length k.1)).Sound:=λk=>QQ (Qd.add (YL d l.length k.1));refine Jt (E0:=mkE prog QT) (E:=λk:Nat×TJ=>mkE prog (Wb QO d l.length k.1)) (H:=λk=>QCP prog QO d E w0 ac body (QD l) l k.2.1 k.1 (QA9 d E w0 ac body rec l k.1 k.2)) (n0:=632) (s0:=(0,s)) (λ_=>rfl) hEnv (by omega) (λk _=>QWe hd hE hl hL k.1 k.2 (IH k.1) G hrd (by omega)) (λk _=>(by decide:632<=672)) ?_ (QYV d E w0 ac body rec l hd.n) (Nat.zero_le _) hX
 intro k e J hr;unfold Xh at hr;split at hr<;>(rw[hr.2];exact(by decide:632<=672))
set_option maxHeartbeats 1000000 in
theorem QX0{d:Puz}{E:ECt}{w0:TwP}(hd:KI d)(hE:WfE E){l:List Lay}(hk:l.length+(k+1)=d.ps.n)(hL:∀ y∈l,KC d y)(IH:∀ p,p<d.ps.n->QCG d E w0 Zy Z7 (onY d E (twY d E w0) k) l p)(s:TJ):QR prog 103 (uFC (V1 d E w0 Zy Z7 l s (onY d E (twY d E w0) (k+1) l s))):=by
 have hdn:=hd.n;have hr0:onY d E (twY d E w0) (k+1) l s=Qz (Km d E (onY d E (twY d E w0) k) l) (List.range d.ps.n) s:=rfl;rw[hr0];have hne:((l.length:Int)==(d.ps.n:Int))=false:=by rw[beq_eq_false_iff_ne];omega
 obtain⟨f,hq0⟩:=s;cases hc:Qz (Km d E (onY d E (twY d E w0) k) l) (List.range d.ps.n) ⟨f,hq0⟩with
 | go s'=>
  obtain⟨f',hq1⟩:=s';simp only[V1];have et:=QQ5 d E w0 (QD l) (QD l) l f True False f';refine Ks (E:=mkE prog QT) (QQ Qd) func103 (by kernel_rfl) (by kernel_rfl) (QO7 ..) (QPy hd hE (by omega) hL ⟨f,hq0⟩ IH (X:=[(True,.exit 0,GW d E w0 Zy Z7 (QD l) l f'),(False,.ret,twF d E w0 Zy Z7 (QD l) l f')]) ?_) ⟨?_⟩
  .intro e J hr;unfold Xh at hr;simp only[List.drop_zero,hc]at hr;exact⟨_,qmc,trivial,hr.1.symm,hr.2.symm⟩
  refine Qf et ?_;clear et;refine QF ?_ ?_<;>intro b0
  .exact Bool.noConfusion (hne.symm.trans b0)
  iterate 139 refine Qt (by first|exact tv|with_reducible exact qRr|exact rfl) ?_
  refine Kl ?_ ?_;refine Qj λa0=>?_;refine Qk λg0=>?_;refine⟨rfl,rfl,_,QSz d E w0 (QD l) (QD l) l f f',?_⟩
  rotate_left
  refine Qj λa1=>?_;refine Qk λg1=>?_
  .exact a1.elim
  all_goals (repeat' first|with_reducible refine QP ?_ ?_|exact tv|with_reducible exact qRr|exact rfl|refine aI ?_ ?_)
 | stop s'=>
  obtain⟨f',hq1⟩:=s';simp only[V1];have et:=QQ5 d E w0 (QD l) (QD l) l f False True f';refine Ks (E:=mkE prog QT) (QQ Qd) func103 (by kernel_rfl) (by kernel_rfl) (QK0 ..) (QPy hd hE (by omega) hL ⟨f,hq0⟩ IH (X:=[(False,.exit 0,GW d E w0 Zy Z7 (QD l) l f'),(True,.ret,twF d E w0 Zy Z7 (QD l) l f')]) ?_) ⟨?_⟩
  .intro e J hr;unfold Xh at hr;simp only[List.drop_zero,hc]at hr;exact⟨_,List.mem_cons_of_mem _ qmc,trivial,hr.1.symm,hr.2.symm⟩
  refine Qf et ?_;clear et;refine QF ?_ ?_<;>intro b0
  .exact Bool.noConfusion (hne.symm.trans b0)
  iterate 139 refine Qt (by first|exact tv|with_reducible exact qRr|exact rfl) ?_
  refine Kl ?_ ?_;refine Qj λa0=>?_;refine Qk λg0=>?_
  .exact a0.elim
  refine Qj λa1=>?_;refine Qk λg1=>?_;refine⟨rfl,rfl,_,Qac d E w0 (QD l) (QD l) l f f',?_⟩
  rotate_left
  all_goals (repeat' first|with_reducible refine QP ?_ ?_|exact tv|with_reducible exact qRr|exact rfl|refine aI ?_ ?_)
theorem QXk{d:Puz}{E:ECt}{w0:TwP}(hd:KI d)(hE:WfE E)(hw:w0.o2=w0.o++[⟨w0.q,w0.p⟩])(hol:w0.o.length<=1000000)(hp:w0.p<d.ps.n)(hq:w0.q<d.ps.n)(hpos:0<d.ps.n)(k:Nat):∀(l:List Lay) (s:TJ),l.length+k=d.ps.n->(∀ y∈l,KC d y)->QR prog 103 (uFC (V1 d E w0 Zy Z7 l s (onY d E (twY d E w0) k l s))):=by
 induction k with
 | zero=>exact λl s hk hL=>QdC hd hE hw hol hp hq hpos l s hk hL
 | succ k ih=>
  intro l s hk hL;refine QX0 hd hE hk hL ?_ s;intro p hp t ht s;exact ih _ s (QBX l _ hk) (QDE hp ht hL)
def toS:List (Nat×AV):=[(1,.ptr 112 0 0),(2,.ptr 120 0 0),(4,.ptr 200 0 0),(5,.ptr 296 0 0),(21,.int false .i64 d.ps.n),(22,.int false .i64 p)]
def toW(o:List Tw):List (Nat×Blk):=[bdL d 392,(201,.mp E.1 E.2),rwY 392 [],bdZ d 384 z,(289,.mp E.1 E.2),(120,.cells 0 36 [.slz 408 0 o.length (.of 0)]),rwT 408 o]
def toR:List (Nat×Blk):=[(296,.cells 0 90 [.ptr 288 0 0]),(112,.cells 0 28 (KR d))]++Ql.blk 0 d.ps
def toJ(o:List Tw):JSt:=⟨48,toS d p,toW d E z o++toR d,416⟩
def toF:JSt:=⟨48,[(2,.ptr 120 0 0)],[(120,.cells 0 36 [.slz 408 0 o.length (.of 0)]),rwT 408 o],416⟩
def tiJ(o:List Tw):JSt:=⟨48,toS d p++[(6,.ptr 400 0 0),(25,.int false .i64 p),(26,.int false .i64 q)],toW d E z o++(400,.cells 0 3 [.int false .i64 p])::toR d,416⟩
def jt:List Nat:=[200,201,120,288,289,296,112]
def QQx:Ex->List Nat
 | .normal=>[1,2,4,5,21,22]
 | .exit _=>[2]
 | .ret=>[]
def QHP:Ex->List Nat
 | .normal=>[1,2,4,5,21,22,6,25,26]
 | .exit _=>[1,2,4,5,21,22]
 | .ret=>[]
def HL(U:UC):Tab:=Qc QT 103 (KB pb U)
abbrev wbb(o:List Tw):List Prop:=[o.length<=o.length,QB 2 o.length (λi=>QA.enc (o.getD i (Tw.mk (0:Int) (0 :
  Int)))) λi=>QA.enc (o.getD i (Tw.mk (0:Int) (0:Int)))]
abbrev QQI(d:Puz)(g0:Nat->Value)(o:List Tw)(p:Nat)(q:Nat)(u:Nat->Nat->Int)(z:Nat):List Prop:=
  ((wb2++[0=0])++wab d++(([cO=cO,0=0,0=0]++wal E++(wcN d++[QB 1 d.ps.n (λx x_1=>(0:Int)) u]))++waj++(([Array.mk [31]=Array.mk
  [31]]++wbN++([g0 0=g0
  0,0=0,0=0,0=0,0=0,g0 (0+1+1+1)=g0 3,0=0,0=0,0=0,0=0,0=0,0=0,0=0,0=0,g0 (0+1+1+1+1+1+1+1+1)=g0 8,g0 (0+1+1+1 +
  1+1+1+1+1+1)=g0 9,g0 (0+1+1+1+1+1+1+1+1+1+1)=g0 10,g0 (0+1+1+1+1+1+1+1+1+1+1+1)=g0 11,g0 (0+1+1+1+1+1+1+1
  + 1+1+1+1+1)=g0 12,g0 (0+1+1+1+1+1+1+1+1+1+1+1+1+1)=g0 13,g0 (0+1+1+1+1+1+1+1+1+1+1+1+1+1+1)=g0 14,g0 (0+1 +
  1+1+1+1+1+1+1+1+1+1+1+1+1+1)=g0 15,g0 (0+1+1+1+1+1+1+1+1+1+1+1+1+1+1+1+1)=g0 16,g0 (0+1+1+1+1+1+1+1+1
  + 1+1+1+1+1+1+1+1+1)=g0 17,g0 (0+1+1+1+1+1+1+1+1+1+1+1+1+1+1+1+1+1+1)=g0 18,g0 (0+1+1+1+1+1+1+1+1+1+1 +
  1+1+1+1+1+1+1+1+1)=g0 19,g0 (0+1+1+1+1+1+1+1+1+1+1+1+1+1+1+1+1+1+1+1+1)=g0 20]++wcQ d p++([g0 (0+1+1+1+1+1+1+1+1+1+1+1+1+1+1+1+1+1+1+1+1+1+1+1)=g0 23,g0 (0+1+1+1+1+1+1+1+1+1+1+1+1 +
  1+1+1+1+1+1+1+1+1+1+1+1)=g0 24,(p:Int)=(p:Int),(q:Int)=(q:Int),true=true,(q:Int)=(q:Int),0=0,0=0]++wcY++[g0 (0+1+1+1+1+1+1+1+1+1+1+1+1+1+1+1+1+1+1+1+1+1+1+1+1+1+1+1+1+1+1+1)=g0 31,g0 (0+1+1 +
  1+1+1+1+1+1+1+1+1+1+1+1+1+1+1+1+1+1+1+1+1+1+1+1+1+1+1+1+1+1)=g0 32,g0 (0+1+1+1+1+1+1+1+1+1+1+1+1
  + 1+1+1+1+1+1+1+1+1+1+1+1+1+1+1+1+1+1+1+1+1)=g0 33,g0 (0+1+1+1+1+1+1+1+1+1+1+1+1+1+1+1+1+1+1+1+1 +
  1+1+1+1+1+1+1+1+1+1+1+1+1+1)=g0 34,g0 (0+1+1+1+1+1+1+1+1+1+1+1+1+1+1+1+1+1+1+1+1+1+1+1+1+1+1+1+1
  + 1+1+1+1+1+1+1)=g0 35,g0 (0+1+1+1+1+1+1+1+1+1+1+1+1+1+1+1+1+1+1+1+1+1+1+1+1+1+1+1+1+1+1+1+1+1+1 +
  1+1)=g0 36,g0 (0+1+1+1+1+1+1+1+1+1+1+1+1+1+1+1+1+1+1+1+1+1+1+1+1+1+1+1+1+1+1+1+1+1+1+1+1+1)=g0 37,g0 (0+1+1+1+1+1+1+1+1+1+1+1+1+1+1+1+1+1+1+1+1+1+1+1+1+1+1+1+1+1+1+1+1+1+1+1+1+1+1)=g0 38,g0 (0+1+1
  + 1+1+1+1+1+1+1+1+1+1+1+1+1+1+1+1+1+1+1+1+1+1+1+1+1+1+1+1+1+1+1+1+1+1+1+1+1)=g0 39,g0 (0+1+1+1+1 +
  1+1+1+1+1+1+1+1+1+1+1+1+1+1+1+1+1+1+1+1+1+1+1+1+1+1+1+1+1+1+1+1+1+1+1+1)=g0 40,g0 (0+1+1+1+1+1+1
  + 1+1+1+1+1+1+1+1+1+1+1+1+1+1+1+1+1+1+1+1+1+1+1+1+1+1+1+1+1+1+1+1+1+1+1)=g0 41,g0 (0+1+1+1+1+1+1 +
  1+1+1+1+1+1+1+1+1+1+1+1+1+1+1+1+1+1+1+1+1+1+1+1+1+1+1+1+1+1+1+1+1+1+1+1)=g0 42,g0 (0+1+1+1+1+1+1
  + 1+1+1+1+1+1+1+1+1+1+1+1+1+1+1+1+1+1+1+1+1+1+1+1+1+1+1+1+1+1+1+1+1+1+1+1+1)=g0 43,g0 (0+1+1+1+1 +
  1+1+1+1+1+1+1+1+1+1+1+1+1+1+1+1+1+1+1+1+1+1+1+1+1+1+1+1+1+1+1+1+1+1+1+1+1+1+1+1)=g0 44,g0 (0+1+1
  + 1+1+1+1+1+1+1+1+1+1+1+1+1+1+1+1+1+1+1+1+1+1+1+1+1+1+1+1+1+1+1+1+1+1+1+1+1+1+1+1+1+1+1)=g0 45,g0 (0+1+1+1+1+1+1+1+1+1+1+1+1+1+1+1+1+1+1+1+1+1+1+1+1+1+1+1+1+1+1+1+1+1+1+1+1+1+1+1+1+1+1+1+1
  + 1+1)=g0 46,g0 (0+1+1+1+1+1+1+1+1+1+1+1+1+1+1+1+1+1+1+1+1+1+1+1+1+1+1+1+1+1+1+1+1+1+1+1+1+1+1+1 +
  1+1+1+1+1+1+1+1)=g0 47,0=0,o.length=o.length,cO=cO])))++wbb o))++wab d++(([cO=cO,0=0,z=z,cO=cO,E.1=E.1,E.2=E.2,Fn.func 103=Fn.func 103]++wb2++[0=0,0=0,0=0,(q:Int)=(q:Int),(p:Int)=(p:Int),0
  = 0,0=0])++wae d))
noncomputable abbrev wbK(d:Puz):List AV:=[.ptr 112 0 0,.ptr 120 0 0,.ptr 200 0 0,.ptr 296 0 0,vi (d.ps.n:Int)]
noncomputable abbrev QMl:List AV:=
  (.nilp::.ptr 48 0 0::List.append (wbK d) ([vi (p:Int),.ptr 400 0 0,vi (p:Int),.int
  false .i64 (i64.wrap ((q:Int)+1))]))
noncomputable abbrev QOH:Nat×Blk:=
  (200,.cells 0 152 (List.append (waf d) ([.map 201,.slz 616 0 0 cO])))
noncomputable abbrev QQK:Nat×Blk:=
  (288,.cells 0 152 (List.append (waf d) ([.map 289,.slz 619 0 z' cO])))
noncomputable abbrev QCy:Nat×Blk:=
  (296,.cells 0 90 [.ptr 288 0 0])
noncomputable abbrev QB8:Nat×Blk:=
  (112,.cells 0 28 (waf d))
noncomputable abbrev QEE:Nat×Blk:=
  (0,.frz (List.append (waa) ((List.append (waG) ((List.append (wbk) ([.int .i64])))))) d.ps.n λi=>QA.enc (d.ps.get i))
noncomputable abbrev QL0:Nat×Blk:=
  (616,.rowz true 49 kB 0 λi=>QA.enc ([].getD i (Lay.mk (0:Int) (0:Int))))
noncomputable abbrev QR6(d:Puz)(o:List Tw)(p:Nat)(z':Nat):List (Nat×Blk):=
  [(QOH d),(201,.mp E.1 E.2),(120,.cells 0 36 [.slz 618 0 o.length cO]),(QQK d z'),(289,.mp E.1 E.2),QCy,(QB8 d),(400,.cells 0 3 [vi (p:Int)]),
  (QEE d),QL0,(618,.rowz true 89 kB o.length λi=>QA.enc (o.getD i (Tw.mk (0:Int) (0:Int))))]
noncomputable abbrev QLp:List AV:=
  (.ptr 2 0 0::.ptr 48 0 0::List.append (wbK d) ([vi (p:Int)]))
noncomputable abbrev QMs:Nat×Blk:=
  (200,.cells 0 152 (List.append (waf d) ([.map 201,.slz 392 0 0 cO])))
noncomputable abbrev QKl:Nat×Blk:=
  (392,.rowz true 49 kB 0 λi=>QA.enc ([].getD i (Lay.mk (0:Int) (0:Int))))
noncomputable abbrev vf(d:Puz)(o:List Tw)(z:Nat):List (Nat×Blk):=
  [(QMs d),(201,.mp E.1 E.2),(120,.cells 0 36 [.slz 408 0 o.length cO]),(288,.cells 0 152 (vi d.pK.length::vi d.pK.aK::.int false .i64
  d.pK.oK::vi d.pK.dK.lo::vi d.pK.dK.hi::vi d.wide::vi d.high::List.append (wbZ d) ([.slz 384 0 z cO]))),(289,.mp E.1 E.2),QCy,(QB8 d),(QEE d),QKl,(408,.rowz true 89 kB o.length λi=>QA.enc (o.getD i (Tw.mk (0 :
  Int) (0:Int))))]
theorem Qa2(p q z:Nat)(o o2:List Tw)(z':Nat)(g0:Nat->Value):exec (mkE prog (HL pb (twU d E ⟨o,o2,p,q,g0⟩ (Qw (QS (QJ f21 0))).1 (Qw (QS (QJ f21 0))).2 u [] z z'))) (hnd (mkE prog (HL pb (twU d E ⟨o,o2,p,q,g0⟩ (Qw (QS (QJ f21 0))).1 (Qw (QS (QJ f21 0))).2 u [] z z'))) 8) (QS (QJ f21 0)) (JSt.inst (JSt.dfrs (tiJ d E p q z o) 368) g0) (zC jt QHP) = .br (decide ((q:Int)<(p:Int))) (.need (decide ((d.ps.n:Int)=(d.ps.n:Int))&&decide ((0:Int)<=(d.ps.n:Int)/\(d.ps.n:Int)<=17179869184)) (.need (pb ((QQI E d g0 o p q u z))) (.leaf (.tup (QMl d p q)) ((QR6 E d o p z'))))) (.leaf (.tup (QLp d p)) ((vf E d o z))):=by kernel_rfl
noncomputable abbrev QLP(d:Puz)(o2:List Tw)(p:Nat)(z':Nat):List (Nat×Blk):=
  [(QOH d),(201,.mp E.1 E.2),(120,.cells 0 36 [.slz 618 0 o2.length cO]),(QQK d z'),(289,.mp E.1 E.2),QCy,(QB8 d),(400,.cells 0 3 [vi (p :
  Int)]),(QEE d),QL0,(618,.rowz true 89 kB o2.length λi=>QA.enc (o2.getD i (Tw.mk (0:Int) (0:Int))))]
theorem QWK(p q z:Nat)(o o2:List Tw)(z':Nat)(g0:Nat->Value):exec (mkE prog (HL pb (twV d E ⟨o,o2,p,q,g0⟩ (Qw (QS (QJ f21 0))).1 (Qw (QS (QJ f21 0))).2 u [] z z'))) (hnd (mkE prog (HL pb (twV d E ⟨o,o2,p,q,g0⟩ (Qw (QS (QJ f21 0))).1 (Qw (QS (QJ f21 0))).2 u [] z z'))) 8) (QS (QJ f21 0)) (JSt.inst (JSt.dfrs (tiJ d E p q z o) 368) g0) (zC jt QHP) = .br (decide ((q:Int)<(p:Int))) (.need (decide ((d.ps.n:Int)=(d.ps.n:Int))&&decide ((0:Int)<=(d.ps.n:Int)/\(d.ps.n:Int)<=17179869184)) (.need (pb ((QQI E d g0 o p q u z))) (.leaf (.tup (QMl d p q)) ((QLP E d o2 p z'))))) (.leaf (.tup (QLp d p)) ((vf E d o z))):=by kernel_rfl
noncomputable abbrev QKP:List AV:=
  (List.append (wbK d) ([vi (p:Int),.ptr 400 0 0,vi (p:Int),.int false .i64
  (i64.wrap ((q:Int)+1))]))
abbrev QIT:List Prop:=
  [0=0,0=0,0=0,0=0,0=0]
abbrev QMd(q':Nat):List Prop:=
  ([0=0,0=0,0=0]++wcQ d p++[0=0,0=0,(p:Int)=(p:Int),i64.wrap ((q:Int)+1)=(q':Int),d.pK.length =
  d.pK.length])
abbrev ZW:List Prop:=
  ([d.pK.aK=d.pK.aK]++waP d++[0 =
  0,d.ps.n=d.ps.n,cO=cO])
abbrev QJA(d:Puz):List Prop:=
  ([0=0,0=0]++wal E++[d.pK.length=d.pK.length])
abbrev QLf:List Prop:=
  ([0=0,o.length=o.length,cO=cO]++wbb o)
theorem QTl(p q q' z':Nat)(o:List Tw):QG 376 (QKP d p q) ((QR6 E d o p z')) (tiJ d E p q' z' o)=(some (QIT++(QMd d p q q')++(ZW d)++(QJA E d)++(ZW d)++[0=0,z'=z',cO=cO, E.1=E.1,E.2=E.2]++(QLf o)++[(p:Int)=(p:Int),0=0,0=0,d.pK.length=d.pK.length]++(ZW d)++(wae d))):=by kernel_rfl
noncomputable abbrev QKy:List AV:=
  (List.append (wbK d) ([vi (p:Int)]))
abbrev QOp(d:Puz)(o:List Tw)(p:Nat)(z:Nat):List Prop:=
  (([0=0,0=0,0=0,0=0,0=0,0=0,0=0,0=0]++wcQ d p)++wab d++([cO =
  cO,0=0,0=0]++wal E)++wab d++([cO=cO,0=0,z=z,cO=cO,E.1=E.1,E.2=E.2,0=0,o.length=o.length,cO=cO]++wbb o++[0=0,0=0])++wab d++([cO=cO]++wae d))
theorem QaY(o:List Tw):QG 376 (QKy d p) ((vf E d o z)) (toJ d E p z o)=(some (QOp E d o p z)):=by kernel_rfl
theorem Qa7(p q q' z':Nat)(o2:List Tw):QG 376 (QKP d p q) ((QLP E d o2 p z')) (tiJ d E p q' z' o2)=(some (QIT++(QMd d p q q')++(ZW d)++(QJA E d)++(ZW d)++[0=0,z'=z',cO=cO,E.1=E.1,E.2=E.2,0=0,o2.length=o2.length,cO=cO,o2.length<=o2.length,QB 2 o2.length (λi=>QA.enc (o2.getD i (Tw.mk (0:Int) (0:Int)))) λi=>QA.enc (o2.getD i (Tw.mk (0:Int) (0:Int))),(p:Int)=(p:Int),0=0,0=0,d.pK.length=d.pK.length]++(ZW d)++(wae d))):=by kernel_rfl
theorem QSu(o:List Tw):QG 376 (QKy d p) ((vf E d o z)) (toJ d E p z o)=(some (QOp E d o p z)):=by kernel_rfl
abbrev toH(P:Program)(d:Puz)(E:ECt)(p z:Nat)(o:List Tw)(X:List (Prop×Ex×JSt)):Hnd:={ hnd (mkE P QT) 1 with loop:=λ_=>JI (p<d.ps.n) (QC4 376 jt (tiJ d E p (0:Nat) z o) X) }
noncomputable abbrev QMN(d:Puz)(o':List Tw)(z':Nat):List (Nat×Blk):=
  [(QMs d),(201,.mp E.1 E.2),(120,.cells 0 36 [.slz 408 0 o'.length cO]),(288,.cells 0 152 (vi d.pK.length::vi d.pK.aK::.int false .i64
  d.pK.oK::vi d.pK.dK.lo::vi d.pK.dK.hi::vi d.wide::vi d.high::List.append (wbZ d) ([.slz 384 0 z' cO]))),(289,.mp E.1 E.2),QCy,(QB8 d),(QEE d),QKl,(408,.rowz true 89 kB o'.length λi=>QA.enc (o'.getD i (Tw.mk (0 :
  Int) (0:Int))))]
theorem QeS(o:List Tw)(z':Nat)(o':List Tw)(g0:Nat->Value):exec (mkE prog QT) (toH prog d E p z o [(True,.exit 2,(toJ d E p z' o').dfrs 368)]) (QJ f21 0) (JSt.inst (JSt.dfrs (toJ d E p z o) 368) g0) (zC jt QQx) = .br (decide ((p:Int)<(d.ps.n:Int))) (.ak [p<d.ps.n] (.ak (rz 8) (.ak ((wcQ d p++[0=0,0=0,(p:Int)=(p:Int),(0:Int)=0])++wab d++([cO=cO,0=0,0=0]++wal E)++wab d++([cO=cO,0=0,z=z,cO=cO,E.1=E.1,E.2=E.2,0=0,o.length=o.length,cO=cO]++wbb o++[(p:Int)=(p:Int),0=0,0=0])++wab d++([cO=cO]++wae d)) (.asm (True) (.all (λ(g0:Nat->Value)=>.leaf (.tup (.nilp::.ptr 48 0 0::List.append (wbK d) ([vi (i64.wrap ((p:Int)+1))]))) ((QMN E d o' z')))))))) (.leaf (.tup [.ptr 0 0 0,.ptr 48 0 0,.ptr 120 0 0]) ((vf E d o z))):=by kernel_rfl
theorem QZK(p' z':Nat)(p:Nat)(o':List Tw):QG 376 (List.append (wbK d) ([vi (i64.wrap ((p:Int)+1))])) ((QMN E d o' z')) (toJ d E p' z' o')=(some (QIT++([0=0,0=0,0=0]++wcq d p p')++(ZW d)++(QJA E d)++(ZW d)++[0=0,z'=z',cO=cO,E.1=E.1,E.2=E.2,0=0,o'.length=o'.length,cO=cO,o'.length<=o'.length,QB 2 o'.length (λi=>QA.enc (o'.getD i (Tw.mk (0:Int) (0:Int)))) λi=>QA.enc (o'.getD i (Tw.mk (0:Int) (0:Int))),0=0,0=0,d.pK.length=d.pK.length]++(ZW d)++(wae d))):=by kernel_rfl
theorem Qfc(d:Puz)(E:ECt)(p:Nat):QG 376 [.ptr 120 0 0] ((vf E d o z)) (toF o)=(some ([0=0,0=0]++(QLf o))):=by kernel_rfl
def tiZ(s:Nat×List Tw):Nat×List Tw:=match onY d E (twA d E p q) d.ps.n [] ⟨s.1,trivial⟩with
 | .go z=>(z.1,s.2)
 | .stop z=>(z.1,s.2++[⟨q,p⟩])
def Vr(p k:Nat)(s:Nat×List Tw):Nat×List Tw:=((List.range p).drop k).foldl (λs q=>tiZ d E p q s) s
def vS(k:Nat)(s:Nat×List Tw):Nat×List Tw:=((List.range d.ps.n).drop k).foldl (λs p=>Vr d E p 0 s) s
theorem QPf{σ:Type}{f:σ->Nat->σ}{n:Nat}(h:k<n)(s:σ):((List.range n).drop k).foldl f s=((List.range n).drop (k+1)).foldl f (f s k):=by
 have:(List.range n).drop k=k::(List.range n).drop (k+1):=by
  rw[List.drop_eq_getElem_cons (by simpa using h)]
  simp
 rw[this,List.foldl_cons]
theorem QOT{σ:Type}{f:σ->Nat->σ}{n:Nat}(h:n<=k)(s:σ):((List.range n).drop k).foldl f s=s:=by
 rw[List.drop_eq_nil_of_le (by simpa using h),List.foldl_nil]
theorem Qby(s:Nat×List Tw):(tiZ d E p q s).2.length<=s.2.length+1:=by
 unfold tiZ;split
 .exact Nat.le_succ _
 .rw[List.length_append,List.length_singleton];exact qlr _
noncomputable def tiU(o:List Tw)(g:Nat->Value):UC:=V1 d E ⟨o,o++[⟨q,p⟩],p,q,g⟩ Zy Z7 [] ⟨z,trivial⟩ (onY d E (twA d E p q) d.ps.n [] ⟨z,trivial⟩)
theorem Qdk{d:Puz}(hd:KI d){E:ECt}(hE:WfE E){p q z:Nat}{o:List Tw}(hp:p<d.ps.n)(g:Nat->Value)(e1:o.length<=1000000)(e2:q<d.ps.n)(e3:0<d.ps.n):QR prog 103 (uFC (tiU d E p q z o g)):=by
 have hl:([]:List Lay).length+d.ps.n=d.ps.n:=by simp
 have hc:∀ y∈([]:List Lay),KC d y:=λc hc=>by cases hc
 have h:=QXk (w0:=⟨o,o++[⟨q,p⟩],p,q,g⟩) hd hE rfl e1 hp e2 e3 d.ps.n [] ⟨z,trivial⟩ hl hc;unfold tiU;exact h
open Classical in
noncomputable def W0(P:Program)(d:Puz)(E:ECt)(p:Nat)(k:Nat×Nat×List Tw)(g:Nat->Value):Env:=mkE P (HL (if k.1<p then QO else λ_=>false) (tiU d E p k.1 k.2.1 k.2.2 g))
theorem QdM{d:Puz}(hd:KI d){E:ECt}(hE:WfE E){p:Nat}(hp:p<d.ps.n)(k:Nat×Nat×List Tw)(g:Nat->Value)(hk:k.2.2.length<=1000*p+k.1):(W0 prog d E p k g).Sound:=by
 unfold W0;have hn:=hd.n;obtain⟨q,z,o⟩:=k;have hk:o.length<=1000*p+q:=hk
 by_cases h:q<p
 .have e1:o.length<=1000000:=by omega
  have e2:q<d.ps.n:=by omega
  have e3:0<d.ps.n:=by omega
  rw[if_pos (show(q,z,o).1<p from h)];exact QQ (Qd.add (Qdk hd hE hp g e1 e2 e3))
 .rw[if_neg h];exact QQ (Qd.add (JY (by kernel_rfl) _))
def zS(k:Nat×Nat×List Tw)(e:Ex)(J:JSt):Prop:=e = .exit 2/\J=toJ d E p (Vr d E p k.1 k.2).1 (Vr d E p k.1 k.2).2
set_option maxHeartbeats 1000000 in
theorem QTK(hp:p<d.ps.n)(hn:d.ps.n<=1000):QB3 (λk:Nat×Nat×List Tw=>tiJ d E p k.1 k.2.1 k.2.2) (λk=>k.1<=p/\k.2.2.length<=1000*p+k.1) (λk=>p-k.1) (zS d E p) 376 368 QHP jt (W0 prog d E p) (λk g=>hnd (W0 prog d E p k g) 8) (QS (QJ f21 0)):=by
 refine⟨λk g0 hk=>?_⟩;obtain⟨q,z,o⟩:=k;obtain⟨hk,hol⟩:=hk;have hk:q<=p:=hk;have hol:o.length<=1000*p+q:=hol;have hl2:(o++[(⟨q,p⟩:Tw)]).length<=1000*p+(q+1):=by rw[List.length_append,List.length_singleton];omega
 have hl1:o.length<=1000*p+(q+1):=by omega
 have hz:∀ k,QB 1 k (λ_ _=>0) (QD []):=λk i _=>⟨rfl,trivial⟩;have hw:q<p->i64.wrap ((q:Int)+1)=((q+1:Nat):Int):=λh=>Ju h (by omega)
 have hpb:q<p->(if q<p then QO else λ_=>false)=QO:=λh=>if_pos h
 have next:q<p->∀ e J,zS d E p (q+1,tiZ d E p q (z,o)) e J->zS d E p (q,z,o) e J:=by
  intro h e J hr;unfold zS Vr at hr ⊢;rw[QPf h];exact hr
 have last:p<=q->zS d E p (q,z,o) (.exit 2) (toJ d E p z o):=by
  intro h;unfold zS Vr;simp only[QOT h,and_self]
 unfold W0 tiU;simp only;cases hr:onY d E (twA d E p q) d.ps.n [] ⟨z,trivial⟩with
 | go s=>
  have hs:tiZ d E p q (z,o)=(s.1,o):=by unfold tiZ;simp only[hr]
  rw[hs]at next
  simp only[V1];have et:=Qa2 (if q<p then QO else λ_=>false) d E (QD []) p q z o (o++[⟨q,p⟩]) s.1 g0
  refine Qf et ?_;clear et;refine QF (λb0=>?_) (λb0=>?_);have h:q<p:=by have:=qdt b0;omega
  rw[hpb h];have hw:=hw h
  iterate 2 (refine QH ?_ ?_;rotate_left)
  refine⟨(q+1,s.1,o),⟨h,hl1⟩,by show p-(q+1)<p-q;omega,next h,rfl,rfl,_,QTl d E p q (q+1) s.1 o,?_⟩
  rotate_left
  have h:p<=q:=by have:=qdf b0;omega
  refine⟨_,last h,rfl,rfl,_,QaY d E p z o,?_⟩
  rotate_left
  all_goals first|((with_reducible show _=true);(first|rfl|(refine Q6.2 ?_;repeat' first|with_reducible refine QP ?_ ?_|exact tv|with_reducible exact qRr|with_reducible exact hz _|exact rfl|refine aI ?_ ?_)|(simp;omega)))|(repeat' first|with_reducible refine QP ?_ ?_|exact tv|with_reducible exact qRr|with_reducible exact hw|exact rfl|refine aI ?_ ?_)
 | stop s=>
  have hs:tiZ d E p q (z,o)=(s.1,o++[⟨q,p⟩]):=by unfold tiZ;simp only[hr]
  rw[hs]at next
  simp only[V1];generalize o++[(⟨q,p⟩:Tw)]=o2 at next hl2 ⊢
  clear hs hr;have et:=QWK (if q<p then QO else λ_=>false) d E (QD []) p q z o o2 s.1 g0
  refine Qf et ?_;clear et;refine QF (λb0=>?_) (λb0=>?_);have h:q<p:=by have:=qdt b0;omega
  rw[hpb h];have hw:=hw h
  iterate 2 (refine QH ?_ ?_;rotate_left)
  refine⟨(q+1,s.1,o2),⟨h,hl2⟩,by show p-(q+1)<p-q;omega,next h,rfl,rfl,_,Qa7 d E p q (q+1) s.1 o2,?_⟩
  rotate_left
  have h:p<=q:=by have:=qdf b0;omega
  refine⟨_,last h,rfl,rfl,_,QSu d E p z o,?_⟩
  rotate_left
  all_goals first|((with_reducible show _=true);(first|rfl|(refine Q6.2 ?_;repeat' first|with_reducible refine QP ?_ ?_|exact tv|with_reducible exact qRr|with_reducible exact hz _|exact rfl|refine aI ?_ ?_)|(simp;omega)))|(repeat' first|with_reducible refine QP ?_ ?_|exact tv|with_reducible exact qRr|with_reducible exact hw|exact rfl|refine aI ?_ ?_)
def js:Tab:=Qc QN8 60 (KB pb (nbU d E))
def QES(f:List Tw)(e:Int):AV := .tup [.slz 0 0 f.length (.of 0),.int false .i64 e]
def HR(f:List Tw):List (Nat×Blk):=[rwT 0 f]
abbrev QH0(P:Program)(pb:List Prop->Bool)(d:Puz)(E:ECt)(o:List Tw):Hnd:={ hnd (mkE P (js pb d E)) 8 with loop:=λ_=>JI (d.ok=true) (QC4 376 jt (toJ d E (0:Nat) (0:Nat) []) [(True,.exit 0,(toF o).dfrs 368)]) }
abbrev QLU:List Prop:=
  (wab d++([cO=cO]++wae d))
theorem QfE :Ku (mkE prog (js pb d E)) (QH0 prog pb d E o) f21 (Qi.vals 0 ((d,()):Puz×Unit)) (Qi.blks 0 ((d,()):Puz×Unit)) 112 = .need (decide (d.ps.n<=d.ps.n)&&true&&decide (d.ps.n<=1000)) (.br (!d.ok) (.leaf (.tup [.nils,vj 1]) ([])) (.need (pb ((QLU d))) (.need (pb ((QLU d))) (.ak [d.ok=true] (.ak (rz 8) (.ak ([(d.ps.n:Int)=(d.ps.n:Int),(0:Int)=0]++wab d++[cO=cO,0=0,E.1=E.1,E.2=E.2,0=0]++wab d++[cO=cO,0=0,E.1=E.1,E.2=E.2,0=0,0=0,0=0,0=0]++wab d++([cO=cO]++wae d)) (.asm (True) (.all (λ(g0:Nat->Value)=>.need (decide (0<o.length/\o.length<=o.length)) (.need (true&&(decide (o.length<=o.length)&&decide ((0+o.length+(0+o.length) / 4+192)*16<=281474976710656/\0+o.length<=9223372036854775807))) (.need (decide (0+o.length=0+o.length)&&decide (0+o.length<4611686018427387904)) (.leaf (.tup [.slz 480 0 (0+o.length) cO,vj 0]) ([(480,.rowz true 89 kB (0+o.length) (Yd (0+o.length) (KN 0 (λx x_1=>(0:Int)) λi=>QA.enc (o.getD i (Tw.mk (0:Int) (0:Int))))))]))))))))))))):=by kernel_rfl
theorem QVj(f:List Tw)(e:Int):QG 112 [(AV.tup [AV.nils,vj (1:Int)])] ([]) (KT 112 (QES f e) (HR f))=( some [f.length=(0:Nat),(1:Int)=e,f.length=(0:Nat)]):=by kernel_rfl
theorem QUG(o f:List Tw)(e:Int):QG 112 [(AV.tup [AV.slz (480:Nat) (0:Nat) ((0:Nat)+o.length) cO,vj (0:Int)])] ([((480:Nat),Blk.rowz true (89:Nat) [CK.int i64,CK.int i64] ((0:Nat)+o.length) (Yd ((0:Nat)+o.length) (KN (0:Nat) (λx x_1=>(0:Int)) λi=>QA.enc (o.getD i (Tw.mk (0:Int) (0:Int))))))]) (KT 112 (QES f e) (HR f))=( some [0=0,(0:Nat)+o.length=f.length,cO=cO,(0:Int)=e,f.length<=(0:Nat)+o.length,QB (2:Nat) f.length (Yd ((0:Nat)+o.length) (KN (0:Nat) (λx x_1=>(0:Int)) λi=>QA.enc (o.getD i (Tw.mk (0:Int) (0:Int))))) λi=>QA.enc (f.getD i (Tw.mk (0:Int) (0:Int)))]):=by kernel_rfl
