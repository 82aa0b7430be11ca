/- - -/
import Derived.Test.YtekbmehgcofnkaaGreatMzm
open Go.Proofs.Tryz
open Go.IntKind (i64)
set_option maxRecDepth 100000
namespace Go.Proofs.YtekbmehgcofnkaaGreat
open Go.SX Go.SX.Told
theorem QOQ{α β:Type}(g:α->List β)(h:∀ x,(g x).length<=1):∀ l:List α,(l.flatMap g).length<=l.length
 | []=>qlr _
 | x::l=>by
  have h1:=h x;have h2:=QOQ g h l;rw[List.flatMap_cons,List.length_append,List.length_cons];omega
variable (pb:List Prop->Bool)(d:Puz)(p:Int)(o l:List Lay)(E:ECt)(q:Int)(L:List Lay)(k:Nat)(x:Lay)(s':Nat)
def w0Z:LJ:=if h:(KT (Km (QK d) 1)).length<=1000000000 then ⟨_,h⟩else ⟨[],by decide⟩
theorem QKh{d:Puz}(hn:d.ps.n<=1000):(w0Z d).1=KT (Km (QK d) 1):=by
 have h1:(KT (Km (QK d) 1)).length<=1000000000:=by
  rw[QAo];have:=QOQ (VY 1) (QNm 1) (QK d).1;have h2:=(Zo d hn).l;unfold Km;omega
 unfold w0Z;rw[dif_pos h1]
def Yu:List Jn×Int:=cond d.ok ((match onY d (QK d) (faY d) d.ps.n [] (w0Z d)with | .go s | .stop s=>s.1),0) ([],1)
def Xt:WF (Puz×Unit):=λ|(d,_)=>(decide (d.ps.n<=1000),QAf (Yu d).1 (Yu d).2,GA (Yu d).1)
def QeA:FC:=wFC Xt
theorem QJQ:WOk (Xt (d,())).2.1 (Xt (d,())).2.2:=⟨rfl,by simp[Xt,GA,rwJ,Blk.own,Blk.all],rfl⟩
theorem QVl(hn:d.ps.n<=1000)(hx:d.ok=false):QS prog 43 (wFC (VW Xt (d,()))):=by
 have hT:Qd (Xc (λ_=>false) d (QK d) [] (faU d (QK d) [] VS VX (QD []) [] [] [])):=((Qf.add (Jr (by kernel_rfl) _)).add (Jr (by kernel_rfl) _)).add (Jr (by kernel_rfl) _)
 have hv:Yu d=([],1):=by simp only[Yu,hx,cond_false]
 refine Yh (c:=Ql f43) (E:=mkE prog (Xc (λ_=>false) d (QK d) [] (faU d (QK d) [] VS VX (QD []) [] [] []))) (H:=hnd (mkE prog (Xc (λ_=>false) d (QK d) [] (faU d (QK d) [] VS VX (QD []) [] [] []))) 8) (QO hT) func43 (by kernel_rfl) (by kernel_rfl) (N:=112) (by decide) (d,()) (λG h1 _=>Qw (QO hT) 8 G _ h1) (QJQ d) ?_
 refine Qg (QRq (λ_=>false) d (QK d) [] (QD []) []) ?_;refine QG (by simp;omega) (QF (λ_=>?_) (λh=>by rw[hx]at h;cases h))
 simp only[Xt,hv];refine⟨rfl,rfl,_,QZT [] 1,?_⟩
 repeat' first|with_reducible refine QP ?_ ?_|exact tv|with_reducible exact qRr|exact rfl|refine aI ?_ ?_
theorem QXb(hx:d.ok=true):QS prog 43 (wFC (VW Xt (d,()))):=by
 have hd:=(WQ (Zl hx)).1;have hdn:=hd.n;have hO:=Zo d hdn;have hon:=QeO (w0:=(w0Z d).1) hd hO.w d.ps.n [] (w0Z d) (by simp) (λc hc=>by cases hc)
 have hjo:QS prog 89 (uFC (joU d 0 (QK d) 1 (w0Z d).1)):=by
  rw[QKh hdn];exact QIK d 0 (QK d) 1 hO.w hO.m (Nat.le_trans hO.l (by decide))
 have hz:∀ k,QB 1 k (λ_ _=>0) (QD []):=λk i _=>⟨rfl,trivial⟩;cases he:onY d (QK d) (faY d) d.ps.n [] (w0Z d)with
 | go s=>
  rw[he]at hon;have hT:Qd (Xc QQ d (QK d) (w0Z d).1 (faU d (QK d) (w0Z d).1 VS VX (QD []) [] (w0Z d).1 s.1)):=((Qf.add (WI d (by omega))).add hjo).add hon
  have hv:Yu d=(s.1,0):=by
   simp only[Yu,hx,he,cond_true]
  refine Yh (c:=Ql f43) (E:=mkE prog (Xc QQ d (QK d) (w0Z d).1 (faU d (QK d) (w0Z d).1 VS VX (QD []) [] (w0Z d).1 s.1))) (H:=hnd (mkE prog (Xc QQ d (QK d) (w0Z d).1 (faU d (QK d) (w0Z d).1 VS VX (QD []) [] (w0Z d).1 s.1))) 8) (QO hT) func43 (by kernel_rfl) (by kernel_rfl) (N:=112) (by decide) (d,()) (λG h1 _=>Qw (QO hT) 8 G _ h1) (QJQ d) ?_
  have et:=QRq QQ d (QK d) (w0Z d).1 (QD []) s.1;refine Qg et ?_;clear et;refine QG ?_ ?_;rotate_left;refine QF ?_ ?_<;>intro b0
  .rw[hx]at b0;cases b0
  iterate 4 (refine QG ?_ ?_;rotate_left)
  simp only[Xt,hv];refine⟨rfl,rfl,_,QVG s.1 s.1 0,?_⟩
  rotate_left
  all_goals first|((with_reducible show _=true);(first|(refine KA.2 ?_;repeat' first|with_reducible refine QP ?_ ?_|exact tv|with_reducible exact qRr|with_reducible exact hz _|exact rfl|refine aI ?_ ?_)|(simp;omega)))|(repeat' first|with_reducible refine QP ?_ ?_|exact tv|with_reducible exact qRr|exact rfl|refine aI ?_ ?_)
 | stop s=>
  rw[he]at hon;have hT:Qd (Xc QQ d (QK d) (w0Z d).1 (faV d (QK d) (w0Z d).1 VS VX (QD []) [] (w0Z d).1 s.1)):=((Qf.add (WI d (by omega))).add hjo).add hon
  have hv:Yu d=(s.1,0):=by
   simp only[Yu,hx,he,cond_true]
  refine Yh (c:=Ql f43) (E:=mkE prog (Xc QQ d (QK d) (w0Z d).1 (faV d (QK d) (w0Z d).1 VS VX (QD []) [] (w0Z d).1 s.1))) (H:=hnd (mkE prog (Xc QQ d (QK d) (w0Z d).1 (faV d (QK d) (w0Z d).1 VS VX (QD []) [] (w0Z d).1 s.1))) 8) (QO hT) func43 (by kernel_rfl) (by kernel_rfl) (N:=112) (by decide) (d,()) (λG h1 _=>Qw (QO hT) 8 G _ h1) (QJQ d) ?_
  have et:=QZj QQ d (QK d) (w0Z d).1 (QD []) s.1;refine Qg et ?_;clear et;refine QG ?_ ?_;rotate_left;refine QF ?_ ?_<;>intro b0
  .rw[hx]at b0;cases b0
  iterate 4 (refine QG ?_ ?_;rotate_left)
  simp only[Xt,hv];refine⟨rfl,rfl,_,Qdr s.1 s.1 0,?_⟩
  rotate_left
  all_goals first|((with_reducible show _=true);(first|(refine KA.2 ?_;repeat' first|with_reducible refine QP ?_ ?_|exact tv|with_reducible exact qRr|with_reducible exact hz _|exact rfl|refine aI ?_ ?_)|(simp;omega)))|(repeat' first|with_reducible refine QP ?_ ?_|exact tv|with_reducible exact qRr|exact rfl|refine aI ?_ ?_)
theorem QcW(hx:(Xt (d,())).1=true):QS prog 43 (wFC (VW Xt (d,()))):=by
 have hn:d.ps.n<=1000:=qdt hx;cases ho:d.ok with
 | false=>exact QVl d hn ho
 | true=>exact QXb d ho
theorem Qb1:QS prog 43 QeA:=zH (by kernel_rfl) λ|(d,()),hx=>QcW d hx
def brZ(n:Nat):List AV:=KX d++[.map 289,.slz 298 0 n (.of 0)]
def QFv:List (Nat×Blk):=(288,.cellsR 0 152 (brZ d L.length))::QAm 298 L::(289,.mp E.1 E.2)::Qm.blk 0 d.ps
def mzJ(s:Nat):JSt:=⟨113,[(0,.ptr 288 0 0),(3,.ptr 304 0 0),(5,.int false .i64 L.length),(6,.int false .i64 (Qo d L.length)),(7,.int false .i64 (Q2 d L.length)),(49,.agg [.bool false (QV d L.length 0),.bool false (QV d L.length 1),.bool false (QV d L.length 2),.bool false (QV d L.length 3)]),(50,.int false .i64 s)],(304,.cells 0 49 (Enc.enc x).cells)::QFv d E L,312⟩
def zv:JSt:=⟨113,[(4,.bool false false)],[(289,.mp E.1 E.2)],312⟩
def QF1:JSt:=⟨113,[(0,.ptr 288 0 0),(3,.ptr 304 0 0),(5,.int false .i64 L.length),(6,.int false .i64 (Qo d L.length)),(7,.int false .i64 (Q2 d L.length))],(304,.cells 0 49 (Enc.enc x).cells)::QFv d E L,312⟩
def QNO:Ex->List Nat
 | .normal=>[0,3,5,6,7,49,50]
 | .exit _=>[0,3,5,6,7]
 | .ret=>[4]
abbrev QCn(d:Puz)(s:Nat)(x:Lay):List Prop:=
  ([0=0,0=0,x.piece=x.piece,onS x (s:Int)=onS x (s:Int)]++wab d++([cO=cO,0=0,L.length=L.length,cO
  = cO]++wae d))
noncomputable abbrev qb(d:Puz):List AV:=
  [.bool false (QV d L.length 0),.bool false (QV d L.length 1),.bool false (QV d L.length 2),.bool false (QV d L.length 3)]
noncomputable abbrev QKA(d:Puz):List AV:=
  (.nilp::.ptr 113 0 0::.ptr 288 0 0::.ptr 304 0 0::List.append (wap L d) ([.agg (qb L d),.int true
  .i64 1]))
noncomputable abbrev wbv(d:Puz):List AV:=[.bool false d.turn,.slz 0 0 d.ps.n cO,.map 289]
noncomputable abbrev VD(d:Puz)(x:Lay):List (Nat×Blk):=
  [(289,.mp E.1 E.2),(288,.cellsR 0 152 (vi d.pK.length::vi d.pK.aK::vi d.pK.oK::vi d.pK.dK.lo::.int false .i64
  d.pK.dK.hi::vi d.wide::vi d.high::List.append (wbv d) ([.slz 298 0 L.length cO]))),(304,.cells 0 49 [.int
  false .i64 x.piece,vi x.turn]),(0,.frz (List.append (waa) ((List.append (waA) ((List.append (waZ) ([.int .i64]))))))
  d.ps.n λi=>QA.enc (d.ps.get i)),(298,.frz kB L.length λi=>QA.enc (L.getD i (Lay.mk (0:Int) (0:Int))))]
noncomputable abbrev QPQ(d:Puz):List AV:=
  (.nilp::.ptr 113 0 0::.ptr 288 0 0::.ptr 304 0 0::List.append (wap L d) ([.agg (qb L d),.int true
  .i64 2]))
noncomputable abbrev QK8(d:Puz):List AV:=
  (.nilp::.ptr 113 0 0::.ptr 288 0 0::.ptr 304 0 0::List.append (wap L d) ([.agg (qb L d),.int true
  .i64 3]))
noncomputable abbrev QMU(d:Puz):List AV:=
  (.nilp::.ptr 113 0 0::.ptr 288 0 0::.ptr 304 0 0::List.append (wap L d) ([.agg (qb L d),.int true
  .i64 4]))
theorem QZo(s:Nat)(g:Nat->Value):exec (mkF prog (HW pb (flU d L.length x.piece (onS x s)))) (hnd (mkF prog (HW pb (flU d L.length x.piece (onS x s)))) 1) (QI f105 0) (JSt.inst (mzJ d E L x s) g) (Q6 [289] QNO) = .br (decide ((s:Int)<4)) (.need (decide ((0:Int)<=(s:Int)/\(s:Int)<4)) (.br (decide ((s:Int)=0)) (.br (QV d L.length 0) (.need (true&&(true&&true)&&decide (((0:Int)<=x.turn/\x.turn<=3)/\(0:Int)<=(s:Int)/\(s:Int)<=3)) (.need (pb ((QCn L d s x))) (.br (!Kc d x.piece (onS x (s:Int))) (.leaf (.tup (wbu)) ([(289,.mp E.1 E.2)])) (.leaf (.tup (QKA L d)) ((VD E L d x)))))) (.leaf (.tup (QKA L d)) ((VD E L d x)))) (.br (decide ((s:Int)=1)) (.br (QV d L.length 1) (.need (true&&(true&&true)&&decide (((0:Int)<=x.turn/\x.turn<=3)/\(0:Int)<=(s:Int)/\(s:Int)<=3)) (.need (pb ((QCn L d s x))) (.br (!Kc d x.piece (onS x (s:Int))) (.leaf (.tup (wbu)) ([(289,.mp E.1 E.2)])) (.leaf (.tup (QPQ L d)) ((VD E L d x)))))) (.leaf (.tup (QPQ L d)) ((VD E L d x)))) (.br (decide ((s:Int)=2)) (.br (QV d L.length 2) (.need (true&&(true&&true)&&decide (((0:Int)<=x.turn/\x.turn<=3)/\(0:Int)<=(s:Int)/\(s:Int)<=3)) (.need (pb ((QCn L d s x))) (.br (!Kc d x.piece (onS x (s:Int))) (.leaf (.tup (wbu)) ([(289,.mp E.1 E.2)])) (.leaf (.tup (QK8 L d)) ((VD E L d x)))))) (.leaf (.tup (QK8 L d)) ((VD E L d x)))) (.br (QV d L.length 3) (.need (true&&(true&&true)&&decide (((0:Int)<=x.turn/\x.turn<=3)/\(0:Int)<=(s:Int)/\(s:Int)<=3)) (.need (pb ((QCn L d s x))) (.br (!Kc d x.piece (onS x (s:Int))) (.leaf (.tup (wbu)) ([(289,.mp E.1 E.2)])) (.leaf (.tup (QMU L d)) ((VD E L d x)))))) (.leaf (.tup (QMU L d)) ((VD E L d x)))))))) (.leaf (.tup (.ptr 0 0 0::.ptr 113 0 0::.ptr 288 0 0::.ptr 304 0 0::wap L d)) ((VD E L d x))):=by kernel_rfl
theorem Qhs:QE 304 [AV.bool true false] ([((289:Nat),Blk.mp E.1 E.2)]) (zv E)=( some [false=false,E.1=E.1,E.2=E.2]):=by kernel_rfl
noncomputable abbrev QOb(d:Puz):List AV:=
  (.ptr 288 0 0::.ptr 304 0 0::List.append (wap L d) ([.agg (qb L d),vj 1]))
abbrev QRt(d:Puz)(s':Nat)(x:Lay):List Prop:=
  (([0=0,0=0,0=0,0=0]++wal L d++[(1:Int)=(s':Int),x.piece=x.piece,x.turn=x.turn])++wab d++(([cO=cO,0=0]++waj E L)++wae d))
theorem Qag :QE 304 (QOb L d) ((VD E L d x)) (mzJ d E L x s')=(some (QRt E L d s' x)):=by kernel_rfl
theorem QY9 :QE 304 (QOb L d) ((VD E L d x)) (mzJ d E L x s')=(some (QRt E L d s' x)):=by kernel_rfl
theorem Qa1:QE 304 [AV.bool true false] ([((289:Nat),Blk.mp E.1 E.2)]) (zv E)=( some [false=false,E.1=E.1,E.2=E.2]):=by kernel_rfl
noncomputable abbrev QQz(d:Puz):List AV:=
  (.ptr 288 0 0::.ptr 304 0 0::List.append (wap L d) ([.agg (qb L d),vj 2]))
abbrev QRg(d:Puz)(s':Nat)(x:Lay):List Prop:=
  (([0=0,0=0,0=0,0=0]++wal L d++[(2:Int)=(s':Int),x.piece=x.piece,x.turn=x.turn])++wab d++(([cO=cO,0=0]++waj E L)++wae d))
theorem Qht :QE 304 (QQz L d) ((VD E L d x)) (mzJ d E L x s')=(some (QRg E L d s' x)):=by kernel_rfl
theorem QbH :QE 304 (QQz L d) ((VD E L d x)) (mzJ d E L x s')=(some (QRg E L d s' x)):=by kernel_rfl
theorem QbL:QE 304 [AV.bool true false] ([((289:Nat),Blk.mp E.1 E.2)]) (zv E)=( some [false=false,E.1=E.1,E.2=E.2]):=by kernel_rfl
noncomputable abbrev QTk(d:Puz):List AV:=
  (.ptr 288 0 0::.ptr 304 0 0::List.append (wap L d) ([.agg (qb L d),vj 3]))
abbrev QRD(d:Puz)(s':Nat)(x:Lay):List Prop:=
  (([0=0,0=0,0=0,0=0]++wal L d++[(3:Int)=(s':Int),x.piece=x.piece,x.turn=x.turn])++wab d++(([cO=cO,0=0]++waj E L)++wae d))
theorem Qfw :QE 304 (QTk L d) ((VD E L d x)) (mzJ d E L x s')=(some (QRD E L d s' x)):=by kernel_rfl
theorem QZz :QE 304 (QTk L d) ((VD E L d x)) (mzJ d E L x s')=(some (QRD E L d s' x)):=by kernel_rfl
theorem QVL:QE 304 [AV.bool true false] ([((289:Nat),Blk.mp E.1 E.2)]) (zv E)=( some [false=false,E.1=E.1,E.2=E.2]):=by kernel_rfl
noncomputable abbrev QOP(d:Puz):List AV:=
  (.ptr 288 0 0::.ptr 304 0 0::List.append (wap L d) ([.agg (qb L d),vj 4]))
abbrev QRb(d:Puz)(s':Nat)(x:Lay):List Prop:=
  (([0=0,0=0,0=0,0=0]++wal L d++[(4:Int)=(s':Int),x.piece=x.piece,x.turn=x.turn])++wab d++(([cO=cO,0=0]++waj E L)++wae d))
theorem QVR :QE 304 (QOP L d) ((VD E L d x)) (mzJ d E L x s')=(some (QRb E L d s' x)):=by kernel_rfl
theorem QgZ :QE 304 (QOP L d) ((VD E L d x)) (mzJ d E L x s')=(some (QRb E L d s' x)):=by kernel_rfl
theorem Qd8 :QE 304 (.ptr 288 0 0::.ptr 304 0 0::wap L d) ((VD E L d x)) (QF1 d E L x)=( some (([0=0,0=0,0=0,0=0]++wbh L d++[x.piece=x.piece,x.turn=x.turn])++wab d++(([cO=cO,0=0]++waj E L)++wae d))):=by kernel_rfl
noncomputable def zW(P:Program)(d:Puz)(L:List Lay)(x:Lay)(s:Nat):Env:=mkF P (HW QQ (flU d L.length x.piece (onS x s)))
theorem QOo{d:Puz}{L:List Lay}{x:Lay}(hx:Q8 d x)(s:Nat):(zW prog d L x s).Sound:=
 K3 (Qf.add (QMX d L.length x.piece (onS x s) hx.p.1 hx.p.2 (QCN hx s).1 (QCN hx s).2))
def mzR(s:Nat)(e:Ex)(J:JSt):Prop:=(e = .ret/\(QU (Ku d L.length x) (4-s) s).isNone=false/\J=zv E)∨(e = .exit 0/\(QU (Ku d L.length x) (4-s) s).isNone=true/\J=QF1 d E L x)
set_option maxHeartbeats 4000000 in
theorem QdE(hx:Q8 d x):JW (mzJ d E L x) (λs=>s<=4) (λs=>4-s) (mzR d E L x) 304 QNO [289] (zW prog d L x) (λs=>hnd (zW prog d L x s) 1) (QI f105 0):=by
 refine⟨λs g0 hk=>?_⟩;unfold zW;refine Qg (QZo QQ d E L x s g0) ?_;have hk:s<=4:=hk;refine QF (λb0=>?_) (λb0=>?_);have h:s<4:=by have:=qdt b0;omega
 have hf:=VP (p:=Ku d L.length x) h;have ht:=hx.t;refine QG ?_ ?_;rotate_left;refine QF (λb1=>?_) (λb1=>?_);obtain rfl:s=0:=by have:=qdt b1;omega
 refine QF ?_ ?_<;>intro b2
 iterate 2 (refine QG ?_ ?_;rotate_left)
 refine QF ?_ ?_<;>intro b3
 .have hb:Ku d L.length x 0=true:=by show(QV d L.length 0 && !Kc d x.piece (onS x _))=true;rw[b2];exact b3
  exact⟨_,.inl ⟨rfl,by rw[hf.1 hb];rfl,rfl⟩,rfl,rfl,_,Qhs E,⟨rfl,rfl,rfl,trivial⟩⟩
 have hb:Ku d L.length x 0=false:=by show(QV d L.length 0 && !Kc d x.piece (onS x _))=false;rw[b2];exact b3
 refine⟨1,by show 1<=4;omega,by show 4-1<4-0;omega,λe J h=>by unfold mzR at h ⊢;rw[hf.2 hb];exact h,rfl,rfl,_,Qag d E L x 1,?_⟩
 rotate_left
 have hb:Ku d L.length x 0=false:=by show(QV d L.length 0 && !Kc d x.piece (onS x _))=false;rw[b2];rfl
 refine⟨1,by show 1<=4;omega,by show 4-1<4-0;omega,λe J h=>by unfold mzR at h ⊢;rw[hf.2 hb];exact h,rfl,rfl,_,QY9 d E L x 1,?_⟩
 rotate_left
 refine QF (λb4=>?_) (λb4=>?_);obtain rfl:s=1:=by have:=qdt b4;omega
 refine QF ?_ ?_<;>intro b5
 iterate 2 (refine QG ?_ ?_;rotate_left)
 refine QF ?_ ?_<;>intro b6
 .have hb:Ku d L.length x 1=true:=by show(QV d L.length 1 && !Kc d x.piece (onS x _))=true;rw[b5];exact b6
  exact⟨_,.inl ⟨rfl,by rw[hf.1 hb];rfl,rfl⟩,rfl,rfl,_,Qa1 E,⟨rfl,rfl,rfl,trivial⟩⟩
 have hb:Ku d L.length x 1=false:=by show(QV d L.length 1 && !Kc d x.piece (onS x _))=false;rw[b5];exact b6
 refine⟨2,by show 2<=4;omega,by show 4-2<4-1;omega,λe J h=>by unfold mzR at h ⊢;rw[hf.2 hb];exact h,rfl,rfl,_,Qht d E L x 2,?_⟩
 rotate_left
 have hb:Ku d L.length x 1=false:=by show(QV d L.length 1 && !Kc d x.piece (onS x _))=false;rw[b5];rfl
 refine⟨2,by show 2<=4;omega,by show 4-2<4-1;omega,λe J h=>by unfold mzR at h ⊢;rw[hf.2 hb];exact h,rfl,rfl,_,QbH d E L x 2,?_⟩
 rotate_left
 refine QF (λb7=>?_) (λb7=>?_);obtain rfl:s=2:=by have:=qdt b7;omega
 refine QF ?_ ?_<;>intro b8
 iterate 2 (refine QG ?_ ?_;rotate_left)
 refine QF ?_ ?_<;>intro b9
 .have hb:Ku d L.length x 2=true:=by show(QV d L.length 2 && !Kc d x.piece (onS x _))=true;rw[b8];exact b9
  exact⟨_,.inl ⟨rfl,by rw[hf.1 hb];rfl,rfl⟩,rfl,rfl,_,QbL E,⟨rfl,rfl,rfl,trivial⟩⟩
 have hb:Ku d L.length x 2=false:=by show(QV d L.length 2 && !Kc d x.piece (onS x _))=false;rw[b8];exact b9
 refine⟨3,by show 3<=4;omega,by show 4-3<4-2;omega,λe J h=>by unfold mzR at h ⊢;rw[hf.2 hb];exact h,rfl,rfl,_,Qfw d E L x 3,?_⟩
 rotate_left
 have hb:Ku d L.length x 2=false:=by show(QV d L.length 2 && !Kc d x.piece (onS x _))=false;rw[b8];rfl
 refine⟨3,by show 3<=4;omega,by show 4-3<4-2;omega,λe J h=>by unfold mzR at h ⊢;rw[hf.2 hb];exact h,rfl,rfl,_,QZz d E L x 3,?_⟩
 rotate_left
 obtain rfl:s=3:=by
  have h1:=qdf b1;have h2:=qdf b4;have h3:=qdf b7;omega
 refine QF ?_ ?_<;>intro b10
 iterate 2 (refine QG ?_ ?_;rotate_left)
 refine QF ?_ ?_<;>intro b11
 .have hb:Ku d L.length x 3=true:=by show(QV d L.length 3 && !Kc d x.piece (onS x _))=true;rw[b10];exact b11
  exact⟨_,.inl ⟨rfl,by rw[hf.1 hb];rfl,rfl⟩,rfl,rfl,_,QVL E,⟨rfl,rfl,rfl,trivial⟩⟩
 have hb:Ku d L.length x 3=false:=by show(QV d L.length 3 && !Kc d x.piece (onS x _))=false;rw[b10];exact b11
 refine⟨4,by show 4<=4;omega,by show 4-4<4-3;omega,λe J h=>by unfold mzR at h ⊢;rw[hf.2 hb];exact h,rfl,rfl,_,QVR d E L x 4,?_⟩
 rotate_left
 have hb:Ku d L.length x 3=false:=by show(QV d L.length 3 && !Kc d x.piece (onS x _))=false;rw[b10];rfl
 refine⟨4,by show 4<=4;omega,by show 4-4<4-3;omega,λe J h=>by unfold mzR at h ⊢;rw[hf.2 hb];exact h,rfl,rfl,_,QgZ d E L x 4,?_⟩
 rotate_left
 obtain rfl:s=4:=by have:=qdf b0;omega
 refine⟨_,.inr ⟨rfl,rfl,rfl⟩,rfl,rfl,_,Qd8 d E L x,?_⟩
 rotate_left
 all_goals first|((with_reducible show _=true);(first|(refine KA.2 ?_;repeat' first|exact tv|exact qRr|refine aI ?_ ?_)|(simp;omega)))|(repeat' first|with_reducible refine QP ?_ ?_|exact tv|exact qRr|exact rfl|refine aI ?_ ?_)
def mzX:List (Prop×Ex×JSt):=[(WV d L.length x=false,.ret,zv E),(WV d L.length x=true,.exit 0,QF1 d E L x)]
abbrev mzH(P:Program)(d:Puz)(E:ECt)(L:List Lay)(x:Lay):Hnd:={ hnd (mkF P QT) 1 with loop:=λ_=>KH 304 [289] (mzJ d E L x (0:Nat)) (mzX d E L x) }
theorem Qa7(hx:Q8 d x)(G:Ctx)(hrd:G.rd=none)(hG:G.n<=304):Qx (mkF prog QT) G (mzH prog d E L x) (Ql f105):=by
 refine KO (body:=QI f105 0) (K3 Qf) hrd (by kernel_rfl) ?_
 refine Jq (E0:=mkF prog QT) (E:=zW prog d L x) (H:=λs=>hnd (zW prog d L x s) 1) (n0:=304) (s0:=0) (λ_=>rfl) (QOo hx) hG (λs _=>Qw (QOo hx s) 1 G _ hrd) (λs _=>(by decide:304<=312)) ?_ (QdE d E L x hx) (Nat.zero_le _) ?_
 .rintro s e J (⟨_,_,rfl⟩|⟨_,_,rfl⟩)<;>exact(by decide:304<=312)
 .rintro e J (⟨rfl,h,rfl⟩|⟨rfl,h,rfl⟩)
  .exact⟨_,qmc,h,rfl,rfl⟩
  .exact⟨_,List.mem_cons_of_mem _ qmc,h,rfl,rfl⟩
def mzU(v:Bool):UC:=⟨296,⟨2,[(0,.ptr 288 0 0),(1,Enc.enc x)],QFv d E L,304⟩,λ_=>.bool false v,λ_=>[(289,.mp E.1 E.2)]⟩
theorem Qgq(v:Bool):VQ (mkF prog QT) (mzH prog d E L x) f105 (mzU d E L x v) = .need (!decide (d.wide=0)) (.need (!decide (d.wide=0)) (.ak [0=0,0=0,0=0,0=0,(L.length:Int)=(L.length:Int),i64.wrap ((L.length:Int).tdiv d.wide)=Qo d L.length,(L.length:Int).tmod d.wide=Q2 d L.length,(i64.wrap ((L.length:Int).tdiv d.wide)==0)=QV d L.length 0,((L.length:Int).tmod d.wide==i64.wrap (d.wide-1))=QV d L.length 1,(i64.wrap ((L.length:Int).tdiv d.wide)==i64.wrap (d.high-1))=QV d L.length 2,((L.length:Int).tmod d.wide==0)=QV d L.length 3,(0:Int)=0,x.piece=x.piece,x.turn=x.turn,d.pK.length=d.pK.length,d.pK.aK=d.pK.aK,d.pK.oK=d.pK.oK,d.pK.dK.lo=d.pK.dK.lo,d.pK.dK.hi=d.pK.dK.hi,d.wide=d.wide,d.high=d.high,d.turn=d.turn,0=0,d.ps.n=d.ps.n,cO=cO,0=0,L.length=L.length,cO=cO,L.length<=L.length,QB 2 L.length (λi=>QA.enc (L.getD i (Lay.mk (0:Int) (0:Int)))) λi=>QA.enc (L.getD i (Lay.mk (0:Int) (0:Int))),E.1=E.1,E.2=E.2,d.ps.n<=d.ps.n,QB 28 d.ps.n (λi=>QA.enc (d.ps.get i)) λi=>QA.enc (d.ps.get i)] (.both (.asm (WV d L.length x=false) (.all (λ(g0:Nat->Value)=>.leaf (.bool false false) ([(289, .mp E.1 E.2)])))) (.asm (WV d L.length x=true) (.all (λ(g1:Nat->Value)=>.br (decide (Qo d L.length>0)) (.need (decide ((0:Int)<=i64.wrap ((L.length:Int)-d.wide)/\i64.wrap ((L.length:Int)-d.wide)<(L.length:Int))&&decide (L.length<=L.length)) (.need (decide ((i64.wrap ((L.length:Int)-d.wide)).toNat<L.length)) (.need (true&&(true&&true)&&decide (((0:Int)<=(L.getD (i64.wrap ((L.length:Int)-d.wide)).toNat (Lay.mk (0:Int) (0:Int))).turn/\(L.getD (i64.wrap ((L.length:Int)-d.wide)).toNat (Lay.mk (0:Int) (0:Int))).turn<=3)/\(0:Int)<=2/\(2:Int)<=3)) (.need (true&&(true&&true)&&decide (((0:Int)<=x.turn/\x.turn<=3)/\(0:Int)<=0/\(0:Int)<=3)) (.need (wf4 i64 E.1) (.br (KP E.1 [(L.getD (i64.wrap ((L.length:Int)-d.wide)).toNat (Lay.mk (0:Int) (0:Int))).piece,onS (L.getD (i64.wrap ((L.length:Int)-d.wide)).toNat (Lay.mk (0:Int) (0:Int))) (2:Int),x.piece,onS x (0:Int)]==0) (.leaf (.bool true false) ([(289,.mp E.1 E.2)])) (.br (Q2 d L.length==0) (.leaf (.bool true true) ([(289,.mp E.1 E.2)])) (.need (decide ((0:Int)<=i64.wrap ((L.length:Int)-1)/\i64.wrap ((L.length:Int)-1)<(L.length:Int))&&decide (L.length<=L.length)) (.need (decide ((i64.wrap ((L.length:Int)-1)).toNat<L.length)) (.need (true&&(true&&true)&&decide (((0:Int)<=(L.getD (i64.wrap ((L.length:Int)-1)).toNat (Lay.mk (0:Int) (0:Int))).turn/\(L.getD (i64.wrap ((L.length:Int)-1)).toNat (Lay.mk (0:Int) (0:Int))).turn<=3)/\(0:Int)<=1/\(1:Int)<=3)) (.need (true&&(true&&true)&&decide (((0:Int)<=x.turn/\x.turn<=3)/\(0:Int)<=3/\(3:Int)<=3)) (.need (wf4 i64 E.1) (.leaf (.bool false (KP E.1 [(L.getD (i64.wrap ((L.length:Int)-1)).toNat (Lay.mk (0:Int) (0:Int))).piece,onS (L.getD (i64.wrap ((L.length:Int)-1)).toNat (Lay.mk (0:Int) (0:Int))) (1:Int),x.piece,onS x (3:Int)] != 0)) ([(289,.mp E.1 E.2)])))))))))))))) (.br (Q2 d L.length==0) (.leaf (.bool true true) ([(289,.mp E.1 E.2)])) (.need (decide ((0:Int)<=i64.wrap ((L.length:Int)-1)/\i64.wrap ((L.length:Int)-1)<(L.length:Int))&&decide (L.length<=L.length)) (.need (decide ((i64.wrap ((L.length:Int)-1)).toNat<L.length)) (.need (true&&(true&&true)&&decide (((0:Int)<=(L.getD (i64.wrap ((L.length:Int)-1)).toNat (Lay.mk (0:Int) (0:Int))).turn/\(L.getD (i64.wrap ((L.length:Int)-1)).toNat (Lay.mk (0:Int) (0:Int))).turn<=3)/\(0:Int)<=1/\(1:Int)<=3)) (.need (true&&(true&&true)&&decide (((0:Int)<=x.turn/\x.turn<=3)/\(0:Int)<=3/\(3:Int)<=3)) (.need (wf4 i64 E.1) (.leaf (.bool false (KP E.1 [(L.getD (i64.wrap ((L.length:Int)-1)).toNat (Lay.mk (0:Int) (0:Int))).piece,onS (L.getD (i64.wrap ((L.length:Int)-1)).toNat (Lay.mk (0:Int) (0:Int))) (1:Int),x.piece,onS x (3:Int)] != 0)) ([(289,.mp E.1 E.2)])))))))))))))):=by kernel_rfl
theorem QgB(v b:Bool)(k:Bool)(h:v=b):(QC.leaf (.bool k v) [(289,.mp E.1 E.2)]).den (jK (mzU d E L x b)):=⟨rfl,rfl,_,by cases k<;>rfl,by subst h;exact⟨rfl,rfl,rfl,trivial⟩⟩
theorem QYI(v:Bool):(mzU d E L x v).Ok:=by
 refine⟨(by decide:296<=304),rfl,rfl,?_,rfl,λ_ _=>rfl,λnid h=>rfl⟩
 intro q hq;simp only[UC.po,mzU,List.mem_cons,List.not_mem_nil,or_false]at hq;subst hq;exact⟨rfl,rfl,rfl,λ_=>rfl⟩
theorem QbG(L:List Lay)(x:Lay)(hd:KB d)(hE:WfE E)(hl:L.length<=1000)(hL:∀ y∈L,Q8 d y)(hx:Q8 d x):QS prog 105 (uFC (mzU d E L x (Qy d E L x))):=by
 refine Ky (E:=mkF prog QT) (K3 Qf) func105 (by kernel_rfl) (by kernel_rfl) (QYI ..) (λG h1 h2=>Qa7 d E L x hx G h1 (by rw[h2];exact qlr _)) ⟨?_⟩
 have fin:∀(v k:Bool),v=Qy d E L x->(QC.leaf (.bool k v) [(289,.mp E.1 E.2)]).den (jK (mzU d E L x (Qy d E L x))):=λv k h=>QgB d E L x v _ k h;have hw1:=hd.w1;have hwn:=hd.wn;have hh1:=hd.h1;have hhn:=hd.hn;have hn:=hd.n;have hr:=QPh hd L.length;have ht:=hx.t;have hE:wf4 .i64 E.1=true:=hE;have wr:i64.wrap ((L.length:Int).tdiv d.wide)=Qo d L.length:=w64 (by have:=hr.1;unfold Qo at this;omega) (by have:=hr.2;unfold Qo at this;omega)
 have ww:i64.wrap (d.wide-1)=d.wide-1:=w64 (by omega) (by omega)
 have wh:i64.wrap (d.high-1)=d.high-1:=w64 (by omega) (by omega)
 have wu:i64.wrap ((L.length:Int)-d.wide)=(L.length:Int)-d.wide:=w64 (by omega) (by omega)
 have wl:i64.wrap ((L.length:Int)-1)=(L.length:Int)-1:=w64 (by omega) (by omega)
 generalize hv:Qy d E L x=v at fin;refine Qg (Qgq d E L x v) ?_;rw[wr,ww,wh,wu,wl]
 iterate 2 (refine QG ?_ ?_;rotate_left)
 iterate 34 refine Qq (by first|exact tv|exact Nat.le_refl _|exact qRr|exact rfl) ?_
 refine Kf ?_ ?_;refine Qh λa0=>?_;refine Qj λg0=>?_
 .refine fin _ _ ?_;rw[<-hv,Qy,a0];rfl
 refine Qh λa1=>?_;refine Qj λg1=>?_;refine QF (λb0=>?_) (λb0=>?_);have hcw:=QOU hd (qdt b0);have hU:=(Hc hL (i:=(L.length:Int)-d.wide) (by omega) (by omega)).t
 iterate 5 (refine QG ?_ ?_;rotate_left)
 refine QF ?_ ?_<;>intro b1
 .refine fin _ _ ?_;rw[<-hv,Qy,a1,show decide (0<Qo d L.length)=true from b0,show(Yd E (atL L ((L.length:Int)-d.wide)) x 2 0==0)=true from b1];rfl
 refine QF ?_ ?_<;>intro b2
 .refine fin _ _ ?_;rw[<-hv,Qy,a1,show decide (0<Qo d L.length)=true from b0,show(Yd E (atL L ((L.length:Int)-d.wide)) x 2 0==0)=false from b1,b2];rfl
 have hc1:=QDJ b2;have hV:=(Hc hL (i:=(L.length:Int)-1) (by omega) (by omega)).t
 iterate 5 (refine QG ?_ ?_;rotate_left)
 .refine fin _ _ ?_;rw[<-hv,Qy,a1,show decide (0<Qo d L.length)=true from b0,show(Yd E (atL L ((L.length:Int)-d.wide)) x 2 0==0)=false from b1,b2];rfl
 refine QF ?_ ?_<;>intro b3
 .refine fin _ _ ?_;rw[<-hv,Qy,a1,show decide (0<Qo d L.length)=false from b0,b3];rfl
 have hc1:=QDJ b3;have hV:=(Hc hL (i:=(L.length:Int)-1) (by omega) (by omega)).t
 iterate 5 (refine QG ?_ ?_;rotate_left)
 .refine fin _ _ ?_;rw[<-hv,Qy,a1,show decide (0<Qo d L.length)=false from b0,b3];rfl
 all_goals first|exact hE|rfl|exact qde (show(0<=(atL L _).turn/\_)/\_ from⟨hU,by decide,by decide⟩)|exact qde (show(0<=(atL L _).turn/\_)/\_ from⟨hV,by decide,by decide⟩)|exact qde ⟨ht,by decide,by decide⟩|(simp;omega)
def swS:Lay:=cond (x.piece==p) ⟨q,x.turn⟩ (cond (x.piece==q) ⟨p,x.turn⟩ x)
def swJ(o:List Lay)(k:Nat):JSt:=⟨39,[(1,.int false .i64 p),(2,.int false .i64 q),(7,.slz 16 0 o.length (.of 0)),(12,.slz 16 0 o.length (.of 0)),(13,.int false .i64 o.length),(14,.int false .i64 k)],[rwY 16 o],24⟩
def swE:JSt:=⟨39,[(7,.slz 16 0 o.length (.of 0))],[rwY 16 o],24⟩
def QMG:Ex->List Nat
 | .normal=>[1,2,7,12,13,14]
 | .exit _=>[7]
 | .ret=>[]
noncomputable abbrev QIe(o:List Lay)(p:Int)(q:Int):List AV:=
  [.nilp,.ptr 39 0 0,vi p,vi q,.slz 16 0 o.length cO,.slz 16 0 o.length cO,vi (o.length:Int),.int false .i64
  (i64.wrap ((k:Int)+1))]
theorem QUW(o:List Lay)(k:Nat)(g:Nat->Value):exec (mkE prog QT) (hnd (mkE prog QT) 1) (QI f63 0) (JSt.inst (swJ p q o k) g) (Q6 [] QMG) = .br (decide ((k:Int)<(o.length:Int))) (.need (decide ((0:Int)<=(k:Int)/\(k:Int)<(o.length:Int))&&decide (o.length<=o.length)) (.need (decide (k<o.length)) (.br ((o.getD k (Lay.mk (0:Int) (0:Int))).piece==p) (.need (decide ((0:Int)<=(k:Int)/\(k:Int)<(o.length:Int))&&decide (o.length<=o.length)) (.need (decide (k<o.length)) (.leaf (.tup (QIe k o p q)) ([(16,.rowz true 49 kB o.length λi=>bif decide (i=k)then Kg [vi q] 0 (QA.enc (o.getD k (Lay.mk (0:Int) (0:Int))))else QA.enc (o.getD i (Lay.mk (0:Int) (0:Int))))])))) (.br ((o.getD k (Lay.mk (0:Int) (0:Int))).piece==q) (.need (decide ((0:Int)<=(k:Int)/\(k:Int)<(o.length:Int))&&decide (o.length<=o.length)) (.need (decide (k<o.length)) (.leaf (.tup (QIe k o p q)) ([(16,.rowz true 49 kB o.length λi=>bif decide (i=k)then Kg [vi p] 0 (QA.enc (o.getD k (Lay.mk (0:Int) (0:Int))))else QA.enc (o.getD i (Lay.mk (0:Int) (0:Int))))])))) (.leaf (.tup (QIe k o p q)) ([(16,.rowz true 49 kB o.length λi=>QA.enc (o.getD i (Lay.mk (0:Int) (0:Int))))])))))) (.leaf (.tup [.ptr 0 0 0,.ptr 39 0 0,.slz 16 0 o.length cO]) ([(16,.rowz true 49 kB o.length λi=>QA.enc (o.getD i (Lay.mk (0:Int) (0:Int))))])):=by kernel_rfl
theorem QUn(o o':List Lay)(k k':Nat):QE 8 [vi p,vi q,AV.slz (16:Nat) (0:Nat) o.length cO,AV.slz (16:Nat) (0:Nat) o.length cO,vi (↑o.length:Int),vi (i64.wrap ((↑k:Int)+(1:Int)))] ([((16:Nat),Blk.rowz true (49:Nat) [CK.int i64,CK.int i64] o.length λi=>bif decide (i=k)then Kg [vi q] (0:Nat) (QA.enc (o.getD k (Lay.mk (0:Int) (0:Int))))else QA.enc (o.getD i (Lay.mk (0:Int) (0:Int))))]) (swJ p q o' k')=( some [p=p,q=q,0=0,o.length=o'.length,cO=cO,0=0,o.length=o'.length,cO=cO,(↑o.length:Int)=(↑o'.length:Int),i64.wrap ((↑k:Int)+(1:Int))=(↑k':Int),o'.length<=o.length,QB (2:Nat) o'.length (λi=>bif decide (i=k) then Kg [vi q] (0:Nat) (QA.enc (o.getD k (Lay.mk (0:Int) (0:Int))))else QA.enc (o.getD i (Lay.mk (0:Int) (0:Int)))) λi=>QA.enc (o'.getD i (Lay.mk (0:Int) (0:Int)))]):=by kernel_rfl
theorem QdU(o o':List Lay)(k k':Nat):QE 8 [vi p,vi q,AV.slz (16:Nat) (0:Nat) o.length cO,AV.slz (16:Nat) (0:Nat) o.length cO,vi (↑o.length:Int),vi (i64.wrap ((↑k:Int)+(1:Int)))] ([((16:Nat),Blk.rowz true (49:Nat) [CK.int i64,CK.int i64] o.length λi=>bif decide (i=k)then Kg [vi p] (0:Nat) (QA.enc (o.getD k (Lay.mk (0:Int) (0:Int))))else QA.enc (o.getD i (Lay.mk (0:Int) (0:Int))))]) (swJ p q o' k')=( some [p=p,q=q,0=0,o.length=o'.length,cO=cO,0=0,o.length=o'.length,cO=cO,(↑o.length:Int)=(↑o'.length:Int),i64.wrap ((↑k:Int)+(1:Int))=(↑k':Int),o'.length<=o.length,QB (2:Nat) o'.length (λi=>bif decide (i=k) then Kg [vi p] (0:Nat) (QA.enc (o.getD k (Lay.mk (0:Int) (0:Int))))else QA.enc (o.getD i (Lay.mk (0:Int) (0:Int)))) λi=>QA.enc (o'.getD i (Lay.mk (0:Int) (0:Int)))]):=by kernel_rfl
theorem Qgf(o:List Lay)(k k':Nat):QE 8 [vi p,vi q,AV.slz (16:Nat) (0:Nat) o.length cO,AV.slz (16:Nat) (0:Nat) o.length cO,vi (↑o.length:Int),vi (i64.wrap ((↑k:Int)+(1:Int)))] ([((16:Nat),Blk.rowz true (49:Nat) [CK.int i64,CK.int i64] o.length λi=>QA.enc (o.getD i (Lay.mk (0:Int) (0:Int))))]) (swJ p q o k')=( some [p=p,q=q,0=0,o.length=o.length,cO=cO,0=0,o.length=o.length,cO=cO, (↑o.length:Int)=(↑o.length:Int),i64.wrap ((↑k:Int)+(1:Int))=(↑k':Int),o.length<=o.length,QB (2:Nat) o.length (λi=>QA.enc (o.getD i (Lay.mk (0:Int) (0:Int)))) λi=>QA.enc (o.getD i (Lay.mk (0:Int) (0:Int)))]):=by kernel_rfl
theorem QU4:QE 8 [AV.slz (16:Nat) (0:Nat) o.length cO] ([((16:Nat),Blk.rowz true (49:Nat) [CK.int i64,CK.int i64] o.length λi=>QA.enc (o.getD i (Lay.mk (0:Int) (0:Int))))]) (swE o)=( some [0=0,o.length=o.length,cO=cO,o.length<=o.length,QB (2:Nat) o.length (λi=>QA.enc (o.getD i (Lay.mk (0:Int) (0:Int)))) λi=>QA.enc (o.getD i (Lay.mk (0:Int) (0:Int)))]):=by kernel_rfl
def swU(p q:Int)(v:List Lay):UC:=⟨0,⟨3,[(0,.slz 5 0 l.length (.of 0)),(1,.int false .i64 p),(2,.int false .i64 q)],[QAm 5 l],8⟩,λm=>.slz m 0 v.length (.of 0),λm=>[rwY m v]⟩
def jl:Tab:=Qa QT 68 (KG pb (clU l))
abbrev swH(P:Program)(pb:List Prop->Bool)(l:List Lay)(p q:Int)(X:List (Prop×Ex×JSt)):Hnd:={ hnd (mkE P (jl pb l)) 2 with loop:=λ_=>KH 8 [] (swJ p q l (0:Nat)) X }
theorem Qb3(p q:Int)(v:List Lay):VQ (mkE prog (jl pb l)) (swH prog pb l p q [(True,.exit 0,swE v)]) f63 (swU l p q v)=QC.need (pb ([0=0,l.length=l.length,cO=cO,l.length<=l.length,QB (2:Nat) l.length (λi=>QA.enc (l.getD i (Lay.mk (0:Int) (0:Int)))) λi=>QA.enc (l.getD i (Lay.mk (0:Int) (0:Int)))])) (QC.ask (p=p) (QC.ask (q=q) (QC.ask (0=0) (QC.ask (l.length=l.length) (QC.ask (cO=cO) (QC.ask (0=0) (QC.ask (l.length=l.length) (QC.ask (cO=cO) (QC.ask ((↑l.length:Int)=(↑l.length:Int)) (QC.ask ((0:Int)=(0:Int)) (QC.ask (l.length<=l.length) (QC.ask (QB (2:Nat) l.length (λi=>QA.enc (l.getD i (Lay.mk (0:Int) (0:Int)))) λi=>QA.enc (l.getD i (Lay.mk (0:Int) (0:Int)))) (QC.asm (True) (QC.all (λ(g0:Nat->Value)=>QC.leaf (AV.slz (16:Nat) (0:Nat) v.length cO) ([((16:Nat),Blk.rowz true (49:Nat) [CK.int i64,CK.int i64] v.length λi=>QA.enc (v.getD i (Lay.mk (0:Int) (0:Int))))])))))))))))))))):=by kernel_rfl
theorem QVZ(p q:Int)(v:List Lay):QE 8 [(AV.slz (16:Nat) (0:Nat) v.length cO)] ([((16:Nat),Blk.rowz true (49:Nat) [CK.int i64,CK.int i64] v.length λi=>QA.enc (v.getD i (Lay.mk (0:Int) (0:Int))))]) (KR (swU l p q v))=( some [0=0,v.length=v.length,cO=cO,v.length<=v.length,QB (2:Nat) v.length (λi=>QA.enc (v.getD i (Lay.mk (0:Int) (0:Int)))) λi=>QA.enc (v.getD i (Lay.mk (0:Int) (0:Int)))]):=by kernel_rfl
def Kp(l:List Lay)(k:Nat):List Lay:=(l.take k).map (swS p q)++l.drop k
theorem QHn(l:List Lay)(k:Nat):(Kp p q l k).length=l.length:=by
 unfold Kp;rw[List.length_append,List.length_map,List.length_take,List.length_drop];omega
theorem QJA{p q:Int}{l:List Lay}{k i:Nat}(h:i<k)(hi:i<l.length):(Kp p q l k).getD i ⟨0,0⟩=swS p q (l.getD i ⟨0,0⟩):=by
 unfold Kp;rw[List.getD_eq_getElem?_getD,List.getElem?_append_left (by rw[List.length_map,List.length_take];omega),List.getElem?_map,List.getElem?_take,if_pos h,List.getElem?_eq_getElem hi,JL hi]
 rfl
theorem QC4{p q:Int}{l:List Lay}{k i:Nat}(h:k<=i)(hk:k<=l.length):(Kp p q l k).getD i ⟨0,0⟩=l.getD i ⟨0,0⟩:=by
 unfold Kp;rw[List.getD_eq_getElem?_getD,List.getD_eq_getElem?_getD,List.getElem?_append_right (by rw[List.length_map,List.length_take];omega),List.length_map,List.length_take,List.getElem?_drop]
 congr 2;omega
theorem QT8{p q:Int}{l:List Lay}{k:Nat}{r:Int}(hk:k<l.length)(h:swS p q (l.getD k ⟨0,0⟩)=⟨r,(l.getD k ⟨0,0⟩:Lay).turn⟩):QB 2 (Kp p q l (k+1)).length (λi=>bif decide (i=k)then Kg [.int false .i64 r] 0 (QA.enc ((Kp p q l k).getD k (⟨0,0⟩:Lay)))else QA.enc ((Kp p q l k).getD i (⟨0,0⟩:Lay))) λi=>QA.enc ((Kp p q l (k+1)).getD i (⟨0,0⟩:Lay)):=by
 intro i hi;rw[QHn]at hi;show eqF 2 0 _ (QA.enc ((Kp p q l (k+1)).getD i (⟨0,0⟩:Lay)))
 by_cases e:i=k
 .subst e;rw[QJA (Nat.lt_succ_self _) hk,h,QC4 (qlr _) (Nat.le_of_lt hk)];simp only[decide_true,cond_true];exact⟨rfl,rfl,trivial⟩
 .have e2:(Kp p q l (k+1)).getD i ⟨0,0⟩=(Kp p q l k).getD i ⟨0,0⟩:=by
   rcases Nat.lt_or_ge i k with h1|h1
   .rw[QJA (by omega) hi,QJA h1 hi]
   .rw[QC4 (by omega) (by omega),QC4 h1 (by omega)]
  rw[e2];simp only[e,decide_false,cond_false];exact⟨rfl,rfl,trivial⟩
theorem QUw{p q:Int}{l:List Lay}{k:Nat}(hk:k<l.length)(h:swS p q (l.getD k ⟨0,0⟩)=l.getD k ⟨0,0⟩):Kp p q l (k+1)=Kp p q l k:=by
 unfold Kp;rw[JL hk]at h;rw[List.take_succ_eq_append_getElem hk,List.map_append,List.append_assoc,List.map_cons,List.map_nil,h];congr 1;rw[List.singleton_append,<-List.drop_eq_getElem_cons hk]
def Qey(l:List Lay)(_:Nat)(e:Ex)(J:JSt):Prop:=e = .exit 0/\J=swE (l.map (swS p q))
theorem QgO(l:List Lay)(hl:l.length<=1000):JW (λk=>swJ p q (Kp p q l k) k) (λk=>k<=l.length) (λk=>l.length-k) (Qey p q l) 8 QMG [] (λ_=>mkE prog QT) (λ_=>hnd (mkE prog QT) 1) (QI f63 0):=by
 refine⟨λk g0 hk=>?_⟩;have hk:k<=l.length:=hk;have hlen:=QHn p q l k;have hlen2:=QHn p q l (k+1);have hx:=QC4 (p:=p) (q:=q) (l:=l) (qlr k) hk;have et:=QUW p q (Kp p q l k) k g0;refine Qg et ?_;clear et;refine QF (λb0=>?_) (λb0=>?_);have h:k<l.length:=by have:=qdt b0;omega
 have hw:=VT h hl
 iterate 2 (refine QG ?_ ?_;rotate_left)
 refine QF ?_ ?_<;>intro b1
 iterate 2 (refine QG ?_ ?_;rotate_left)
 have e1:((l.getD k ⟨0,0⟩:Lay).piece==p)=true:=by rw[<-hx];exact b1
 have hs:swS p q (l.getD k ⟨0,0⟩)=⟨q,(l.getD k ⟨0,0⟩:Lay).turn⟩:=by unfold swS;rw[e1];rfl
 have hr:=QT8 h hs;have hq:(Kp p q l k).length=(Kp p q l (k+1)).length:=by omega
 refine⟨k+1,h,by show l.length-(k+1)<l.length-k;omega,λ_ _ r=>r,rfl,rfl,_,QUn p q (Kp p q l k) (Kp p q l (k+1)) k (k+1),?_⟩
 rotate_left
 refine QF ?_ ?_<;>intro b2
 iterate 2 (refine QG ?_ ?_;rotate_left)
 have e1:((l.getD k ⟨0,0⟩:Lay).piece==p)=false:=by rw[<-hx];exact b1
 have e2:((l.getD k ⟨0,0⟩:Lay).piece==q)=true:=by rw[<-hx];exact b2
 have hs:swS p q (l.getD k ⟨0,0⟩)=⟨p,(l.getD k ⟨0,0⟩:Lay).turn⟩:=by unfold swS;rw[e1,e2];rfl
 have hr:=QT8 h hs;have hq:(Kp p q l k).length=(Kp p q l (k+1)).length:=by omega
 refine⟨k+1,h,by show l.length-(k+1)<l.length-k;omega,λ_ _ r=>r,rfl,rfl,_,QdU p q (Kp p q l k) (Kp p q l (k+1)) k (k+1),?_⟩
 rotate_left
 have e1:((l.getD k ⟨0,0⟩:Lay).piece==p)=false:=by rw[<-hx];exact b1
 have e2:((l.getD k ⟨0,0⟩:Lay).piece==q)=false:=by rw[<-hx];exact b2
 have hs:swS p q (l.getD k ⟨0,0⟩)=l.getD k ⟨0,0⟩:=by unfold swS;rw[e1,e2];rfl
 have hm:=QUw h hs;refine⟨k+1,h,by show l.length-(k+1)<l.length-k;omega,λ_ _ r=>r,?_⟩
 show JT 8 _ _ _ _ (swJ p q (Kp p q l (k+1)) (k+1));rw[hm];refine⟨rfl,rfl,_,Qgf p q (Kp p q l k) k (k+1),?_⟩
 rotate_left
 have h:l.length<=k:=by have:=qdf b0;omega
 have hm:Kp p q l k=l.map (swS p q):=by unfold Kp;rw[List.take_of_length_le h,List.drop_eq_nil_of_le h,List.append_nil]
 rw[hm];refine⟨_,⟨rfl,rfl⟩,rfl,rfl,_,QU4 (l.map (swS p q)),?_⟩
 rotate_left
 all_goals first|((with_reducible show _=true);(first|rfl|(simp;omega)))|(repeat' first|with_reducible refine QP ?_ ?_|exact tv|with_reducible exact qRr|exact hw|exact hq|exact congrArg (λn:Nat=>(n:Int)) hq|exact Nat.le_of_eq hq.symm|exact hr|exact rfl|refine aI ?_ ?_)
theorem Qd3(p q:Int)(hT:Qd (jl pb l))(hl:l.length<=1000)(G:Ctx)(hrd:G.rd=none)(hG:G.n=8):Qx (mkE prog (jl pb l)) G (swH prog pb l p q [(True,.exit 0,swE (l.map (swS p q)))]) (Ql f63):=by
 refine KO (body:=QI f63 0) (QO hT) hrd (by kernel_rfl) ?_
 have h0:swJ p q l 0=swJ p q (Kp p q l 0) 0:=by
  have:Kp p q l 0=l:=by unfold Kp;simp
  rw[this]
 rw[h0];refine Jq (E0:=mkE prog (jl pb l)) (E:=λ_:Nat=>mkE prog QT) (H:=λ_=>hnd (mkE prog QT) 1) (n0:=8) (s0:=0) (λ_=>rfl) (λ_=>QO Qf) (by omega) (λk _=>Qw (QO Qf) 1 G _ hrd) (λk _=>(by decide:8<=24)) ?_ (QgO p q l hl) (Nat.zero_le _) ?_
 .rintro k e J ⟨_,rfl⟩;exact(by decide:8<=24)
 .rintro e J ⟨rfl,rfl⟩;exact⟨_,qmc,trivial,rfl,rfl⟩
theorem QaG(p q:Int)(v:List Lay):(swU l p q v).Ok:=by
 refine⟨(by decide:0<=8),rfl,rfl,?_,rfl,λnid h=>?_,λnid h=>?_⟩
 .intro x hx;simp only[UC.po,swU,rwY,List.mem_cons,List.not_mem_nil,or_false]at hx;subst hx;exact⟨rfl,rfl,rfl,λh=>absurd (show 8<0 from h) (by decide)⟩
 .have e0:=KZ 0 8 0 nid (by decide)
  simp only[UC.va,swU,AV.mapId,Nat.add_zero]at e0 ⊢;rw[e0]
 .have e0:=KZ 0 8 0 nid (by decide)
  simp only[UC.po,swU,rwY,List.map_cons,List.map_nil,Blk.mapId,Nat.add_zero]at e0 ⊢;rw[e0]
theorem Qdx(p q:Int)(hp:0<l.length)(hl:l.length<=1000):QS prog 63 (uFC (swU l p q (l.map (swS p q)))):=by
 have hT:Qd (jl QQ l):=Qf.add (QQc l hp hl);refine Ky (c:=Ql f63) (E:=mkE prog (jl QQ l)) (QO hT) func63 (by kernel_rfl) (by kernel_rfl) (QaG ..) (λG h1 h2=>Qd3 QQ l p q hT hl G h1 (by rw[h2];rfl)) ⟨?_⟩
 have et:=Qb3 QQ l p q (l.map (swS p q));refine Qg et ?_;clear et;refine QG ?_ ?_;rotate_left
 iterate 12 refine Qq (by first|exact tv|with_reducible exact qRr|exact rfl) ?_
 refine Qh λa0=>?_;refine Qj λg0=>?_;refine⟨rfl,rfl,_,QVZ l p q (l.map (swS p q)),?_⟩
 rotate_left
 all_goals first|((with_reducible show _=true);(first|(refine KA.2 ?_;repeat' first|with_reducible refine QP ?_ ?_|exact tv|with_reducible exact qRr|exact rfl|refine aI ?_ ?_)|(simp;omega)))|(repeat' first|with_reducible refine QP ?_ ?_|exact tv|with_reducible exact qRr|exact rfl|refine aI ?_ ?_)
