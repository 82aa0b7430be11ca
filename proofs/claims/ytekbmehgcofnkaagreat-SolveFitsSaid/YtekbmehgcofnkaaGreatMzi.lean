/- - -/
import Derived.Test.YtekbmehgcofnkaaGreatMzh
open Go.Proofs.Tryz
open Go.IntKind (i64)
set_option maxRecDepth 100000
namespace Go.Proofs.YtekbmehgcofnkaaGreat
open Go.SX Go.SX.Told
variable (pb:List Prop->Bool)(d:Puz)(C:Cap)(E:ECt)(cells p:Int)(c:Nat)(K:Rw Pt)(v:Bool)
def W7(U:UC):Tab:=Qc QT 103 (KB pb U)
def bdL(a:Nat):Nat×Blk:=(200,.cells 0 152 (KR d++[.map 201,.slz a 0 0 (.of 0)]))
def hsU(C:Cap)(K:Rw Pt)(v:Bool):UC:=⟨208,⟨2,[(0,.ptr 200 0 0),(1,(.slz 216 0 K.n C))],[bdL d 224,(201,.mp E.1 E.2),rwY 224 []]++Ql.blk 216 K++Ql.blk 0 d.ps,232⟩,λ_=>.bool false v,λm=>[bdL d m,(201,.mp E.1 E.2),rwY m []]⟩
abbrev wal(E:ECt):List Prop:=[cO=cO,E.1=E.1,E.2=E.2,0<=0,QB 2 0 (λi=>QA.enc ([].getD i (Lay.mk (0:Int) (0:Int)))) λi=>QA.enc ([].getD i (Lay.mk (0:Int) (0:Int)))]
abbrev QMo(d:Puz)(u:Nat->Nat->Int):List Prop:=
  ((wb2++[0=0])++wab d++((([cO=cO,0=0,0=0]++wal E++(wcN d++[QB 1 d.ps.n (λx x_1=>(0:Int)) u]))++waj++((([Array.mk [8]=Array.mk
  [8]]++wcB++([0=0,0=0,0=0,K.n=K.n,C=C,0=0,0=0,0=0,0=0,0=0,K.n =
  K.n,C=C]++wcY++[false=false,Fn.func 103=Fn.func 103]))++wb2++[0=0,0
  = 0,K.n=K.n,C=C,0=0,0=0])++wbI K))++wae d))
noncomputable abbrev QCs(d:Puz):List (Nat×Blk):=
  [(200,.cells 0 152 (List.append (waf d) ([.map 201,.slz 416 0 0 cO]))),(201,.mp E.1 E.2),(0,.frz (List.append (waa) ((List.append (waG) ((List.append (wbk) ([.int .i64])))))) d.ps.n λi=>QA.enc (d.ps.get i)),(416,.rowz true 49 [.int .i64,.int
  .i64] 0 λi=>QA.enc ([].getD i (Lay.mk (0:Int) (0:Int))))]
theorem QUK(C:Cap)(K:Rw Pt)(u:Nat->Nat->Int)(v:Bool):VF (mkE prog (W7 pb (haU d E C K (QN f53 0).1 (QN f53 0).2 u []))) (hnd (mkE prog (W7 pb (haU d E C K (QN f53 0).1 (QN f53 0).2 u []))) 8) f53 (hsU d E C K v) = .need (decide ((d.ps.n:Int)=(d.ps.n:Int))&&decide ((0:Int)<=(d.ps.n:Int)/\(d.ps.n:Int)<=17179869184)) (.need (pb ((QMo C E K d u))) (.leaf (.bool true false) ((QCs E d)))):=by kernel_rfl
theorem QaV(C:Cap)(K:Rw Pt)(u:Nat->Nat->Int)(v:Bool):VF (mkE prog (W7 pb (haV d E C K (QN f53 0).1 (QN f53 0).2 u []))) (hnd (mkE prog (W7 pb (haV d E C K (QN f53 0).1 (QN f53 0).2 u []))) 8) f53 (hsU d E C K v) = .need (decide ((d.ps.n:Int)=(d.ps.n:Int))&&decide ((0:Int)<=(d.ps.n:Int)/\(d.ps.n:Int)<=17179869184)) (.need (pb ((QMo C E K d u))) (.leaf (.bool true true) ((QCs E d)))):=by kernel_rfl
abbrev QLI(d:Puz):List Prop:=
  ((waP d++[0=0,d.ps.n=d.ps.n,cO =
  cO,0=0,0=0])++wal E)
theorem QYM(C:Cap)(K:Rw Pt)(v:Bool):QG 232 [(.bool true false)] ((QCs E d)) (KP (hsU d E C K v))=(some (([false=v]++wcK d)++(QLI E d))):=by kernel_rfl
theorem Qc2(C:Cap)(K:Rw Pt)(v:Bool):QG 232 [(.bool true true)] ((QCs E d)) (KP (hsU d E C K v))=(some (([true=v]++wcK d)++(QLI E d))):=by kernel_rfl
theorem QQs(C:Cap)(K:Rw Pt)(v:Bool):(hsU d E C K v).Ok:=by
 refine⟨(by decide:208<=232),rfl,rfl,?_,rfl,λ_ _=>rfl,λnid h=>?_⟩
 .intro q hq;simp only[UC.po,hsU,bdL,rwY,List.mem_cons,List.not_mem_nil,or_false]at hq;rcases hq with rfl|rfl|rfl<;>refine⟨rfl,rfl,rfl,?_⟩<;>first|exact λ_=>rfl|exact λh=>absurd (show 232<208 from h) (by decide)
 .have e0:=KW 208 232 0 nid (by decide)
  simp only[UC.po,hsU,bdL,rwY,KR,Ql.val,List.cons_append,List.nil_append,List.map_cons,List.map_nil,Blk.mapId,AV.mapId,AV.mapIdL,Nat.add_zero]at e0 ⊢;rw[e0];rfl
def hsV(A:Int->Lay->Bool):Bool := !(onA A d E Zi d.ps.n [] ()).isGo
theorem QF2{d:Puz}{E:ECt}{K:Rw Pt}(hd:KI d)(hE:WfE E)(hK:K.n<=1000):QR prog 53 (uFC (hsU d E C K (hsV d E (Qq K)))):=by
 have hon:=QXm (C:=C) hd hE hK d.ps.n [] () (by simp) (λc hc=>by cases hc)
 have hdn:=hd.n;have hz:∀ k,QB 1 k (λ_ _=>0) (QD []):=λk i _=>⟨rfl,trivial⟩;cases he:onA (Qq K) d E Zi d.ps.n [] ()with
 | go s=>
  rw[he]at hon;have hv:hsV d E (Qq K)=false:=by unfold hsV;rw[he];rfl
  rw[hv];have hT:Qe (W7 QO (haU d E C K XI XR (QD []) [])):=Qd.add hon;have et:=QUK QO d E C K (QD []) false;refine Ks (c:=Qp f53) (E:=mkE prog (W7 QO (haU d E C K XI XR (QD []) []))) (QQ hT) func53 (by kernel_rfl) (by kernel_rfl) (QQs ..) (λG h1 _=>Q1 (QQ hT) 8 G _ h1) ⟨?_⟩
  refine Qf et ?_;clear et
  iterate 2 (refine QH ?_ ?_;rotate_left)
  refine⟨rfl,rfl,_,QYM d E C K false,?_⟩
  rotate_left
  all_goals first|((with_reducible show _=true);(first|(refine Q6.2 ?_;repeat' first|with_reducible refine QP ?_ ?_|exact tv|with_reducible exact qRr|with_reducible exact hz _|exact rfl|refine aI ?_ ?_)|(simp;omega)))|(repeat' first|with_reducible refine QP ?_ ?_|exact tv|with_reducible exact qRr|exact rfl|refine aI ?_ ?_)
 | stop s=>
  rw[he]at hon;have hv:hsV d E (Qq K)=true:=by unfold hsV;rw[he];rfl
  rw[hv];have hT:Qe (W7 QO (haV d E C K XI XR (QD []) [])):=Qd.add hon;have et:=QaV QO d E C K (QD []) true;refine Ks (c:=Qp f53) (E:=mkE prog (W7 QO (haV d E C K XI XR (QD []) []))) (QQ hT) func53 (by kernel_rfl) (by kernel_rfl) (QQs ..) (λG h1 _=>Q1 (QQ hT) 8 G _ h1) ⟨?_⟩
  refine Qf et ?_;clear et
  iterate 2 (refine QH ?_ ?_;rotate_left)
  refine⟨rfl,rfl,_,Qc2 d E C K true,?_⟩
  rotate_left
  all_goals first|((with_reducible show _=true);(first|(refine Q6.2 ?_;repeat' first|with_reducible refine QP ?_ ?_|exact tv|with_reducible exact qRr|with_reducible exact hz _|exact rfl|refine aI ?_ ?_)|(simp;omega)))|(repeat' first|with_reducible refine QP ?_ ?_|exact tv|with_reducible exact qRr|exact rfl|refine aI ?_ ?_)
def jD(p:Int)(t:Nat):Rw Pt:=⟨1,λ_=>⟨c,⟨p,t⟩⟩⟩
def whB:List (Nat×Blk):=[bdL d 392,(201,.mp E.1 E.2),rwY 392 []]
def QRa(n:Nat)(p cells:Int)(c:Nat):List (Nat×AV):=[(1,.int false .i64 p),(4,.int false .i64 cells),(6,.ptr 200 0 0),(28,.int false .i64 n),(29,.int false .i64 c)]
def YW(p cells:Int)(c:Nat):JSt:=⟨62,QRa d.ps.n p cells c,whB d E++Ql.blk 0 d.ps,400⟩
def vP(p cells:Int)(c:Nat)(tn:Int)(t:Nat):JSt:=⟨62,QRa d.ps.n p cells c++[(7,.int false .i64 c),(34,.int false .i64 tn),(35,.int false .i64 t)],whB d E++Ql.blk 0 d.ps,400⟩
def Gf:JSt:=⟨62,[(4,.int false .i64 cells)],[],400⟩
def QM1:Ex->List Nat
 | .normal=>[1,4,6,28,29]
 | .exit _=>[4]
 | .ret=>[]
def QLB:Ex->List Nat
 | .normal=>[1,4,6,28,29,7,34,35]
 | .exit _=>[1,4,6,28,29]
 | .ret=>[]
def QI1:Tab:=Qc QT 53 (KB pb (hsU d E (.lit 1) K v))
noncomputable abbrev QIN(cells:Int):Int:=
  (↑(BitVec.ofInt 64 cells ||| BitVec.ofInt 64 (i64.wrap ((1:Int)*2^min c 64))).toNat:Int)
noncomputable abbrev QQn:Nat×Blk:=
  (0,.frz (List.append (waa) ((List.append (waG) ((List.append (wbk) ([.int .i64])))))) d.ps.n λi=>QA.enc (d.ps.get i))
noncomputable abbrev QCi(d:Puz):List (Nat×Blk):=
  [(200,.cells 0 152 (List.append (waf d) ([.map 201,.slz 528 0 0 cO]))),(201,.mp E.1 E.2),(QQn d),(528,.rowz true 49 kB 0 λi=>QA.enc ([].getD i (Lay.mk (0:Int) (0:Int))))]
noncomputable abbrev QR3(cells:Int)(d:Puz)(p:Int)(t:Nat)(tn:Int):List AV:=
  [.nilp,.ptr 62 0 0,vi p,vi cells,.ptr 200 0 0,vi (d.ps.n:Int),vi (c:Int),vi (c:Int),.int false .i64
  tn,vi (i64.wrap ((t:Int)+1))]
noncomputable abbrev jA(d:Puz):List (Nat×Blk):=
  [(200,.cells 0 152 (List.append (waf d) ([.map 201,.slz 392 0 0 cO]))),(201,.mp E.1 E.2),(QQn d),(392,.rowz true 49 kB 0 λi=>QA.enc ([].getD i (Lay.mk (0:Int) (0:Int))))]
theorem QdI(p cells:Int)(c:Nat)(tn:Int)(t:Nat)(g0:Nat->Value):exec (mkE prog (QI1 pb d E K v)) (hnd (mkE prog (QI1 pb d E K v)) 0) (QS (QJ f17 0)) (JSt.inst (vP d E p cells c tn t) g0) (Q9 [200,201] QLB) = .br (decide ((t:Int)<tn)) (.need (decide ((0:Int)<=(c:Int))) (.br (i64.wrap (↑(BitVec.ofInt 64 (cells.fdiv ((2:Int)^min c 64)) &&& BitVec.ofInt 64 (1:Int)).toNat:Int)==0) (.need (pb (([0=0,0=0,0=0,1=K.n,Cap.lit 1=Cap.lit 1]++wab d++(([cO=cO,0=0,0=0]++wal E++[jo [.int .i64,.int .i64,.int .i64] [[vi (c:Int),vi p,vi (t:Int)]] K.n λi=>QA.enc (K.get i)])++wae d)))) (.br (v) (.need (decide ((0:Int)<=(c:Int))) (.leaf (.tup [.nilp,.ptr 62 0 0,vi p,vi (i64.wrap (QIN c cells)),.ptr 200 0 0,vi (d.ps.n:Int),vi (c:Int),vi (c:Int),vi tn,vi (i64.wrap ((t:Int)+1))]) ((QCi E d)))) (.leaf (.tup (QR3 c cells d p t tn)) ((QCi E d))))) (.leaf (.tup (QR3 c cells d p t tn)) ((jA E d))))) (.leaf (.tup [.ptr 3 0 0,.ptr 62 0 0,vi p,vi cells,.ptr 200 0 0,vi (d.ps.n:Int),vi (c:Int)]) ((jA E d))):=by kernel_rfl
abbrev QG8(d:Puz):List Prop:=
  (wab d++(([cO=cO,0=0,0=0]++wal E)++wae d))
theorem Qa1(p cells cells':Int)(c:Nat)(tn:Int)(t t':Nat):QG 112 [vi p,vi (i64.wrap (QIN c cells)),.ptr 200 0 0,vi (d.ps.n:Int),vi (c:Int),vi (c:Int), vi tn,vi (i64.wrap ((t:Int)+1))] ((QCi E d)) (vP d E p cells' c tn t')=(some ([p=p,i64.wrap (QIN c cells)=cells',0=0,0=0,(d.ps.n:Int)=(d.ps.n:Int),(c:Int)=(c:Int),(c:Int)=(c:Int),tn=tn,i64.wrap ((t:Int)+1)=(t':Int)]++(QG8 E d))):=by kernel_rfl
noncomputable abbrev QM2(cells:Int)(d:Puz)(p:Int)(t:Nat)(tn:Int):List AV:=
  [vi p,vi cells,.ptr 200 0 0,vi (d.ps.n:Int),vi (c:Int),vi (c:Int),vi tn,.int false .i64
  (i64.wrap ((t:Int)+1))]
abbrev QPN(cells:Int)(d:Puz)(p:Int)(t:Nat)(t':Nat)(tn:Int):List Prop:=
  ([p=p,cells=cells,0=0,0=0,(d.ps.n:Int)=(d.ps.n:Int),(c:Int)=(c:Int),(c:Int)=(c:Int),tn=tn,i64.wrap ((t:Int)+1)=(t':Int)]++wab d++(([cO=cO,0=0,0=0]++wal E)++wae d))
theorem QUs(p cells:Int)(c:Nat)(tn:Int)(t t':Nat):QG 112 (QM2 c cells d p t tn) ((QCi E d)) (vP d E p cells c tn t')=(some (QPN E c cells d p t t' tn)):=by kernel_rfl
theorem QUn(p cells:Int)(c:Nat)(tn:Int)(t t':Nat):QG 112 (QM2 c cells d p t tn) ((jA E d)) (vP d E p cells c tn t')=(some (QPN E c cells d p t t' tn)):=by kernel_rfl
theorem QWv(p cells:Int)(c:Nat):QG 112 [vi p,vi cells,.ptr 200 0 0,vi (d.ps.n:Int),vi (c:Int)] ((jA E d)) (YW d E p cells c)=(some ([p=p, cells=cells,0=0,0=0,(d.ps.n:Int)=(d.ps.n:Int),(c:Int)=(c:Int)]++(QG8 E d))):=by kernel_rfl
def Wo:Tab:=Qc QT 52 (KB pb (tnU d 0 p))
abbrev QCB(P:Program)(pb:List Prop->Bool)(d:Puz)(E:ECt)(p cells:Int)(c:Nat)(X:List (Prop×Ex×JSt)):Hnd:={ hnd (mkE P (Wo pb d p)) 0 with loop:=λ_=>KE 112 [200,201] (vP d E p cells c (tnV d p) (0:Nat)) X }
theorem QUj(p cells cells':Int)(c:Nat)(g0:Nat->Value):exec (mkE prog (Wo pb d p)) (QCB prog pb d E p cells c [(True,.exit 3,YW d E p cells' c)]) (QJ f17 0) (JSt.inst (YW d E p cells c) g0) (Q9 [200, 201] QM1) = .br (decide ((c:Int)<(d.ps.n:Int))) (.need (pb (([0=0,0=0,p=p]++wab d++([cO=cO,0=0,0=0,cO=cO]++wae d)))) (.ak ([p=p,cells=cells,0=0,0=0,(d.ps.n:Int)=(d.ps.n:Int),(c:Int)=(c:Int),(c:Int)=(c:Int),tnV d p=tnV d p,(0:Int)=0]++wab d++(([cO=cO,0=0,0=0]++wal E)++wae d)) (.asm (True) (.all (λ(g0:Nat->Value)=>.leaf (.tup [.nilp,.ptr 62 0 0,vi p,vi cells',.ptr 200 0 0,vi (d.ps.n:Int),vi (i64.wrap ((c:Int)+1))]) ((jA E d))))))) (.leaf (.tup [.ptr 1 0 0,.ptr 62 0 0,vi cells]) ((jA E d))):=by kernel_rfl
theorem QUR(p cells':Int)(c c':Nat):QG 112 [vi p,vi cells',.ptr 200 0 0,vi (d.ps.n:Int),vi (i64.wrap ((c:Int)+1))] ((jA E d)) (YW d E p cells' c')=(some ([p=p,cells'=cells',0=0,0=0,(d.ps.n:Int)=(d.ps.n:Int),i64.wrap ((c:Int)+1)=(c':Int)]++(QG8 E d))):=by kernel_rfl
noncomputable abbrev waT(d:Puz):List AV:=[vi d.pK.length,vi d.pK.aK,vi d.pK.oK,vi d.pK.dK.lo,vi d.pK.dK.hi,vi d.wide,vi d.high]
theorem Qah:QG 112 [vi cells] ([((200:Nat),Blk.cells (0:Nat) (152:Nat) (List.append (waT d) ([AV.bool false d.turn,AV.slz (0:Nat) (0:Nat) d.ps.n cO,AV.map (201:Nat),AV.slz (392:Nat) (0:Nat) (0:Nat) cO]))),((201:Nat),Blk.mp E.1 E.2),((0:Nat),Blk.frz [CK.int i64,CK.int i64,CK.int i64,CK.int i64,CK.int i64,CK.int i64,CK.int i64,CK.int i64,CK.int i64,CK.int i64,CK.int i64,CK.int i64,CK.int i64,CK.int i64,CK.int i64,CK.int i64,CK.int i64,CK.int i64,CK.int i64,CK.int i64,CK.int i64,CK.int i64,CK.int i64,CK.int i64,CK.int i64,CK.int i64,CK.int i64,CK.int i64] d.ps.n λi=>QA.enc (d.ps.get i)),((392:Nat),Blk.rowz true (49:Nat) [CK.int i64,CK.int i64] (0:Nat) λi=>QA.enc ([].getD i (Lay.mk (0:Int) (0:Int))))]) (Gf cells)=( some [cells=cells]):=by kernel_rfl
def QEV:Bool:=i64.wrap (((BitVec.ofInt 64 (cells.fdiv (2^min (c:Int).toNat 64)) &&& BitVec.ofInt 64 1).toNat:Nat):Int)==0
def QDW:Int:=i64.wrap (((BitVec.ofInt 64 cells ||| BitVec.ofInt 64 (i64.wrap (1*2^min (c:Int).toNat 64))).toNat:Nat):Int)
def Zt(cells:Int)(t:Nat):Int:=cond (QEV cells c) (cond (hsV d E (Qq (jD c p t))) (QDW cells c) cells) cells
def Zp(p cells:Int)(c:Nat):Int:=(List.range (tnV d p).toNat).foldl (Zt d E p c) cells
def Wv:Int:=(List.range d.ps.n).foldl (Zp d E p) 0
theorem QE1{σ:Type}{f:σ->Nat->σ}{n k:Nat}(h:k<n)(s:σ):((List.range n).drop k).foldl f s=((List.range n).drop (k+1)).foldl f (f s k):=by
 have:(List.range n).drop k=k::(List.range n).drop (k+1):=by
  rw[List.drop_eq_getElem_cons (by simpa using h)]
  simp
 rw[this,List.foldl_cons]
theorem QFL{σ:Type}{f:σ->Nat->σ}{n k:Nat}(h:n<=k)(s:σ):((List.range n).drop k).foldl f s=s:=by
 rw[List.drop_eq_nil_of_le (by simpa using h),List.foldl_nil]
theorem QS4:((tnV d p).toNat:Int)=tnV d p/\(tnV d p).toNat<=4:=by
 rcases QPz d p with h|h<;>rw[h]<;>decide
def Gi(k:Nat×Int)(e:Ex)(J:JSt):Prop:=e = .exit 3/\J=YW d E p (((List.range (tnV d p).toNat).drop k.1).foldl (Zt d E p c) k.2) c
noncomputable def QA0(P:Program)(d:Puz)(E:ECt)(p:Int)(c:Nat)(k:Nat×Int):Env:=mkE P (QI1 QO d E (jD c p k.1) (hsV d E (Qq (jD c p k.1))))
theorem QWz(p:Int)(t:Nat):jo [.int .i64,.int .i64,.int .i64] [[.int false .i64 c,.int false .i64 p,.int false .i64 t]] (jD c p t).n λi=>QA.enc ((jD c p t).get i):=by
 refine⟨qlr 1,λi hi x hx r=>?_⟩;obtain rfl:i=0:=by have:i<1:=hi;omega
 simp only[List.getElem?_cons_zero,qsI]at hx;subst hx;rfl
theorem Qdo:Jd (λk:Nat×Int=>vP d E p k.2 c (tnV d p) k.1) (λk=>k.1<=(tnV d p).toNat) (λk=>(tnV d p).toNat-k.1) (Gi d E p c) 112 QLB [200,201] (QA0 prog d E p c) (λk=>hnd (QA0 prog d E p c k) 0) (QS (QJ f17 0)):=by
 refine⟨λk g0 hk=>?_⟩;obtain⟨t,cells⟩:=k;have hk:t<=(tnV d p).toNat:=hk;obtain⟨ht1,ht4⟩:=QS4 d p;have wt:t<(tnV d p).toNat->i64.wrap ((t:Int)+1)=((t+1:Nat):Int):=λh=>(w64 (by omega) (by omega)).trans (by omega)
 have next:t<(tnV d p).toNat->∀{s2:Int},Zt d E p c cells t=s2->∀ e J,Gi d E p c (t+1,s2) e J->Gi d E p c (t,cells) e J:=by
  intro h s2 he e J hr;unfold Gi at hr ⊢;simp only at hr ⊢;rw[QE1 h,he];exact hr
 have last:(tnV d p).toNat<=t->Gi d E p c (t,cells) (.exit 3) (YW d E p cells c):=by
  intro h;unfold Gi;simp only[QFL h,and_self]
 have et:=QdI QO d E (jD c p t) (hsV d E (Qq (jD c p t))) p cells c (tnV d p) t g0;refine Qf et ?_;clear et;refine QF (λb0=>?_) (λb0=>?_);have h:t<(tnV d p).toNat:=by have:=qdt b0;omega
 have hw:=wt h;refine QH ?_ ?_;rotate_left;refine QF (λb1=>?_) (λb1=>?_);refine QH ?_ ?_;rotate_left;refine QF (λb2=>?_) (λb2=>?_);refine QH ?_ ?_;rotate_left;have ho:Zt d E p c cells t=QDW cells c:=by unfold Zt;rw[show QEV cells c=true from b1,b2];rfl
 refine⟨(t+1,QDW cells c),h,by show(tnV d p).toNat-(t+1)<(tnV d p).toNat-t;omega,next h ho,rfl,rfl,_,Qa1 d E p cells (QDW cells c) c (tnV d p) t (t+1),?_⟩
 rotate_left
 have ho:Zt d E p c cells t=cells:=by unfold Zt;rw[show QEV cells c=true from b1,b2];rfl
 refine⟨(t+1,cells),h,by show(tnV d p).toNat-(t+1)<(tnV d p).toNat-t;omega,next h ho,rfl,rfl,_,QUs d E p cells c (tnV d p) t (t+1),?_⟩
 rotate_left
 have ho:Zt d E p c cells t=cells:=by unfold Zt;rw[show QEV cells c=false from b1];rfl
 refine⟨(t+1,cells),h,by show(tnV d p).toNat-(t+1)<(tnV d p).toNat-t;omega,next h ho,rfl,rfl,_,QUn d E p cells c (tnV d p) t (t+1),?_⟩
 rotate_left
 have h:(tnV d p).toNat<=t:=by have:=qdf b0;omega
 refine⟨_,last h,rfl,rfl,_,QWv d E p cells c,?_⟩
 rotate_left
 all_goals first|((with_reducible show _=true);(first|(simp;done)|(refine Q6.2 ?_;repeat' first|with_reducible refine QP ?_ ?_|exact tv|with_reducible exact qRr|exact QWz c p t|exact rfl|refine aI ?_ ?_)|(simp;omega)))|(repeat' first|with_reducible refine QP ?_ ?_|exact tv|with_reducible exact qRr|exact hw|exact rfl|refine aI ?_ ?_)
theorem QWG{d:Puz}{E:ECt}(hd:KI d)(hE:WfE E)(p cells:Int)(c:Nat)(G:Ctx)(hrd:G.rd=none)(hG:G.n<=112):
  Qu (mkE prog (Wo QO d p)) G (QCB prog QO d E p cells c [(True,.exit 3,YW d E p (Zp d E p cells c) c)]) (QJ f17 0):=by
 have hT:Qe (Wo QO d p):=Qd.add (YL d 0 p);refine KM (body:=QS (QJ f17 0)) (QQ hT) hrd (by kernel_rfl) ?_
 have hEnv:∀ k,(QA0 prog d E p c k).Sound:=λk=>QQ (Qd.add (QF2 (.lit 1) hd hE (show(1:Nat)<=1000 by decide)))
 refine Jt (E0:=mkE prog (Wo QO d p)) (E:=QA0 prog d E p c) (H:=λk=>hnd (QA0 prog d E p c k) 0) (n0:=112) (s0:=(0,cells)) (λ_=>rfl) hEnv hG (λk _=>Q1 (hEnv k) 0 G _ hrd) (λk _=>(by decide:112<=400)) ?_ (Qdo d E p c) (Nat.zero_le _) ?_
 .rintro k e J ⟨_,rfl⟩;exact(by decide:112<=400)
 .rintro e J ⟨rfl,rfl⟩;exact⟨_,qmc,trivial,rfl,rfl⟩
def zy(k:Nat×Int)(e:Ex)(J:JSt):Prop:=e = .exit 1/\J=Gf (((List.range d.ps.n).drop k.1).foldl (Zp d E p) k.2)
theorem QYl(hn:d.ps.n<=1000):Jd (λk:Nat×Int=>YW d E p k.2 k.1) (λk=>k.1<=d.ps.n) (λk=>d.ps.n-k.1) (zy d E p) 112 QM1 [200,201] (λ_=>mkE prog (Wo QO d p)) (λk=>QCB prog QO d E p k.2 k.1 [(True,.exit 3,YW d E p (Zp d E p k.2 k.1) k.1)]) (QJ f17 0):=by
 refine⟨λk g0 hk=>?_⟩;obtain⟨c,cells⟩:=k;have hk:c<=d.ps.n:=hk;have wp:c<d.ps.n->i64.wrap ((c:Int)+1)=((c+1:Nat):Int):=λh=>Ju h hn
 have next:c<d.ps.n->∀ e J,zy d E p (c+1,Zp d E p cells c) e J->zy d E p (c,cells) e J:=by
  intro h e J hr;unfold zy at hr ⊢;simp only at hr ⊢;rw[QE1 h];exact hr
 have last:d.ps.n<=c->zy d E p (c,cells) (.exit 1) (Gf cells):=by
  intro h;unfold zy;simp only[QFL h,and_self]
 have et:=QUj QO d E p cells (Zp d E p cells c) c g0;refine Qf et ?_;clear et;refine QF (λb0=>?_) (λb0=>?_);have h:c<d.ps.n:=by have:=qdt b0;omega
 have hw:=wp h;refine QH ?_ ?_;rotate_left
 iterate 29 refine Qt (by first|exact tv|with_reducible exact qRr|exact rfl) ?_
 refine Qj λa0=>?_;refine Qk λg0=>?_;refine⟨(c+1,Zp d E p cells c),h,by show d.ps.n-(c+1)<d.ps.n-c;omega,next h,rfl,rfl,_,QUR d E p (Zp d E p cells c) c (c+1),?_⟩
 rotate_left
 have h:d.ps.n<=c:=by have:=qdf b0;omega
 refine⟨_,last h,rfl,rfl,_,Qah d E cells,?_⟩
 rotate_left
 all_goals first|((with_reducible show _=true);(first|(refine Q6.2 ?_;repeat' first|with_reducible refine QP ?_ ?_|exact tv|with_reducible exact qRr|exact rfl|refine aI ?_ ?_)|(simp;omega)))|(repeat' first|with_reducible refine QP ?_ ?_|exact tv|with_reducible exact qRr|exact hw|exact rfl|refine aI ?_ ?_)
def qx:Tab:=Qc QT 60 (KB pb (nbU d E))
abbrev whH(P:Program)(pb:List Prop->Bool)(d:Puz)(E:ECt)(p:Int)(X:List (Prop×Ex×JSt)):Hnd:={ hnd (mkE P (qx pb d E)) 8 with loop:=λ_=>JI (d.ok=true) (KE 112 [200,201] (YW d E p 0 (0:Nat)) X) }
def Xf(n e:Int):AV := .tup [.int false .i64 n,.int false .i64 e]
theorem QTA(p cells':Int):Ku (mkE prog (qx pb d E)) (whH prog pb d E p [(True,.exit 1,Gf cells')]) f17 (Qi.vals 0 ((d,p,()):Puz×Int×Unit)) (Qi.blks 0 ((d,p,()):Puz×Int×Unit)) 112 = .need (decide (d.ps.n<=d.ps.n)&&true&&decide (d.ps.n<=1000)) (.br (!d.ok) (.leaf (.tup [vj 0,vj 1]) ([])) (.need (pb ((wab d++([cO=cO]++wae d)))) (.need (true) (.br (!Qv p (0:Int) (i64.wrap ((d.ps.n:Int)-1))) (.leaf (.tup [vj 0,vj 2]) ([])) (.ak ([d.ok=true,p=p,(0:Int)=0,0=0,0=0,(d.ps.n:Int)=(d.ps.n:Int),(0:Int)=0]++wab d++([cO=cO,0=0,E.1=E.1,E.2=E.2,0=0]++wae d)) (.asm (True) (.all (λ(g0:Nat->Value)=>.br (cells'==0) (.leaf (.tup [vj 0,vj 4]) ([])) (.leaf (.tup [vi cells',vj 0]) ([])))))))))):=by kernel_rfl
theorem QWw(n e:Int):QG 112 [(AV.tup [vj (0:Int),vj (1:Int)])] ([]) (KT 112 (Xf n e) [])=( some [(0:Int)=n,(1:Int)=e]):=by kernel_rfl
theorem Qex(n e:Int):QG 112 [(AV.tup [vj (0:Int),vj (2:Int)])] ([]) (KT 112 (Xf n e) [])=( some [(0:Int)=n,(2:Int)=e]):=by kernel_rfl
theorem QVM(n e:Int):QG 112 [(AV.tup [vj (0:Int),vj (4:Int)])] ([]) (KT 112 (Xf n e) [])=( some [(0:Int)=n,(4:Int)=e]):=by kernel_rfl
theorem QYz(cells' n e:Int):QG 112 [(AV.tup [vi cells',vj (0:Int)])] ([]) (KT 112 (Xf n e) [])=( some [cells'=n,(0:Int)=e]):=by kernel_rfl
def QI6:Int×Int:=cond d.ok
 (cond (Qv p 0 (i64.wrap ((d.ps.n:Int)-1))) (cond (Wv d (QM d) p==0) (0,4) (Wv d (QM d) p,0)) (0,2)) (0,1)
def Y9:WF (Puz×Int×Unit):=λ|(d,p,_)=>(decide (d.ps.n<=1000),Xf (QI6 d p).1 (QI6 d p).2,[])
def QQb:FC:=wFC Y9
theorem QTa:WOk (Y9 (d,p,())).2.1 (Y9 (d,p,())).2.2:=⟨rfl,by simp[Y9],rfl⟩
theorem QdY(hn:d.ps.n<=1000)(G:Ctx)(hrd:G.rd=none)(hG:G.n=112):Qu (mkE prog (qx QO d (QM d))) G (whH prog QO d (QM d) p [(True,.exit 1,Gf (Wv d (QM d) p))]) (Qp f17):=by
 have hT:Qe (qx QO d (QM d)):=Qd.add (Zz d (by omega))
 refine KM (body:=QJ f17 0) (QQ hT) hrd (by kernel_rfl) ?_
 refine Jm λho=>?_;have hd:=(jx (jy ho)).1;have hT1:Qe (Wo QO d p):=Qd.add (YL d 0 p);refine Jt (E0:=mkE prog (qx QO d (QM d))) (E:=λ_:Nat×Int=>mkE prog (Wo QO d p)) (H:=λk=>QCB prog QO d (QM d) p k.2 k.1 [(True,.exit 3,YW d (QM d) p (Zp d (QM d) p k.2 k.1) k.1)]) (n0:=112) (s0:=(0,0)) (λ_=>rfl) (λ_=>QQ hT1) (by omega) (λk _=>QWG hd (Y5 d hn).w p k.2 k.1 G hrd (by omega)) (λk _=>(by decide:112<=400)) ?_ (QYl d (QM d) p hn) (Nat.zero_le _) ?_
 .rintro k e J ⟨_,rfl⟩;exact(by decide:112<=400)
 .rintro e J ⟨rfl,rfl⟩;exact⟨_,qmc,trivial,rfl,rfl⟩
theorem QTz(hx:(Y9 (d,p,())).1=true):QR prog 17 (wFC (VJ Y9 (d,p,()))):=by
 have hn:d.ps.n<=1000:=qdt hx;have hT:Qe (qx QO d (QM d)):=Qd.add (Zz d (by omega))
 refine Yk (c:=Qp f17) (E:=mkE prog (qx QO d (QM d))) (H:=whH prog QO d (QM d) p [(True,.exit 1,Gf (Wv d (QM d) p))]) (QQ hT) func17 (by kernel_rfl) (by kernel_rfl) (N:=112) (by decide) (d,p,()) (λG h1 h2=>QdY d p hn G h1 h2) (QTa d p) ?_
 have hv:QI6 d p=cond d.ok (cond (Qv p 0 (i64.wrap ((d.ps.n:Int)-1))) (cond (Wv d (QM d) p==0) (0,4) (Wv d (QM d) p,0)) (0,2)) (0,1):=rfl;have et:=QTA QO d (QM d) p (Wv d (QM d) p);generalize Wv d (QM d) p=W at et hv ⊢;refine Qf et ?_;clear et;refine QH ?_ ?_;rotate_left;refine QF (λb0=>?_) (λb0=>?_);have ho:d.ok=false:=by simpa using b0
 rw[ho,cond_false]at hv;simp only[Y9,hv];refine⟨rfl,rfl,_,QWw 0 1,?_⟩
 rotate_left
 have ho:d.ok=true:=by simpa using b0
 iterate 2 (refine QH ?_ ?_;rotate_left)
 refine QF (λb1=>?_) (λb1=>?_);have hw:Qv p 0 (i64.wrap ((d.ps.n:Int)-1))=false:=by simpa using b1
 rw[ho,hw,cond_true,cond_false]at hv;simp only[Y9,hv];refine⟨rfl,rfl,_,Qex 0 2,?_⟩
 rotate_left
 iterate 24 refine Qt (by first|exact tv|exact ho|with_reducible exact qRr|exact rfl) ?_
 refine Qj λa0=>?_;refine Qk λg0=>?_;refine QF (λb2=>?_) (λb2=>?_);have hw:Qv p 0 (i64.wrap ((d.ps.n:Int)-1))=true:=by simpa using b1
 rw[ho,hw,cond_true,cond_true,show(W==0)=true from b2,cond_true]at hv;simp only[Y9,hv];refine⟨rfl,rfl,_,QVM 0 4,?_⟩
 rotate_left
 have hw:Qv p 0 (i64.wrap ((d.ps.n:Int)-1))=true:=by simpa using b1
 rw[ho,hw,cond_true,cond_true,show(W==0)=false from b2,cond_false]at hv;simp only[Y9,hv];refine⟨rfl,rfl,_,QYz W W 0,?_⟩
 rotate_left
 all_goals first|((with_reducible show _=true);(first|(simp;done)|(refine Q6.2 ?_;repeat' first|with_reducible refine QP ?_ ?_|exact tv|with_reducible exact qRr|exact rfl|refine aI ?_ ?_)|(simp;omega)))|(repeat' first|with_reducible refine QP ?_ ?_|exact tv|with_reducible exact qRr|exact rfl|refine aI ?_ ?_)
theorem Qcb:QR prog 17 QQb:=vh (by kernel_rfl) λ|(d,p,()),hx=>QTz d p hx
end Go.Proofs.YtekbmehgcofnkaaGreat
namespace Go.SX
open Go Go.RowKit Go.Proofs.YtekbmehgcofnkaaGreat
structure Rc (α:Type) where
 n:Nat
 get:Nat->α
 c:Nat
def Rc.rw{α:Type}(x:Rc α):Rw α:=⟨x.n,x.get⟩
def QFj:AV->Option Nat
 | .slz _ _ _ (.lit c)=>some c
 | .slice _ _ _ _ (.lit c)=>some c
 | .nils=>some 0
 | _=>none
theorem QTT{ks:List CK}{v:AV}{c:Nat}(hc:QFj v=some c){lk:Nat->Option Blk}{p:Bool}{m:Nat}{g g':Nat->Nat->Int}(h:vx ks v lk=some (p,m,g))(hp:p=true)(hg:∀ i,QV ks g' i=QV ks g i){r:Nat->Loc}{w:World}(hb:∀ id b,lk id=some b->QK r id w b):
  ∃ l:Loc,∀(k:Nat) (r':Nat->Loc),r' k=l->(AV.slz k 0 m (.lit c)).den r'=v.den r/\QK r' k w (.frz ks m g'):=by
 have main:((∃ id e n,v = .slz id e n (.lit c))->∀ id e n,v = .slz id e n (.lit c)->(r id).nil=false)->∃ l:Loc,∀(k:Nat) (r':Nat->Loc),r' k=l->(AV.slz k 0 m (.lit c)).den r'=v.den r/\QK r' k w (.frz ks m g'):=by
  intro hnn;obtain⟨l,hl⟩:=QJH h hp hg hb;refine⟨l,λk r' hr=>⟨?_,(hl k r' hr).2⟩⟩;have hd:=(hl k r' hr).1;unfold QFj at hc;split at hc<;>(try (cases hc;done))
  .simp only[qsI]at hc;subst hc;rename_i id e n c;have hn:=hnn ⟨_,_,_,rfl⟩ id e n rfl;rw[<-hd];simp only[AV.den,Loc.room,hn,Cap.den,Value.slice.injEq]at hd ⊢;obtain⟨_,_,h3⟩:=hd;refine⟨trivial,trivial,?_⟩;cases hk:(r' k).nil with
   | true=>rfl
   | false=>rw[hk]at h3;simp only[Nat.sub_zero]at h3 ⊢;exact h3.symm
  .simp only[qsI]at hc;subst hc;rw[<-hd];simp only[AV.den,Loc.room,Cap.den,Value.slice.injEq]at hd ⊢;obtain⟨_,_,h3⟩:=hd;refine⟨trivial,trivial,?_⟩;cases hk:(r' k).nil with
   | true=>rfl
   | false=>rw[hk]at h3;simp only[Nat.sub_zero]at h3 ⊢;exact h3.symm
  .simp only[qsI]at hc;subst hc;rw[<-hd];simp only[AV.den,Loc.room,Cap.den,Value.slice.injEq]at hd ⊢;obtain⟨_,_,h3⟩:=hd;refine⟨trivial,trivial,?_⟩;cases hk:(r' k).nil with
   | true=>rfl
   | false=>rw[hk]at h3;simp only[Nat.sub_zero]at h3 ⊢;exact h3.symm
 by_cases hv:∃ id e n,v = .slz id e n (.lit c)
 .obtain⟨id,e,n,rfl⟩:=hv;cases hn:(r id).nil with
  | false=>exact main λ_ id' e' n' h'=>by cases h';exact hn
  | true=>
   have fin:∀(N:Nat),(r id).esz=ks.length->(∀ k,(r id).foot k->k<w.heap.size)->m+e<=N->N=0->m=n->∃ l:Loc,∀(k:Nat) (r':Nat->Loc),r' k=l->(AV.slz k 0 m (.lit c)).den r'=(AV.slz id e n (.lit c)).den r/\QK r' k w (.frz ks m g'):=by
    intro N h1 h2 h3 h4 h5;refine⟨r id,λk r' hr=>⟨?_,?_⟩⟩
    .simp only[AV.den,hr,Loc.base,Loc.room,hn,h5]
    .simp only[QK];rw[hr];exact⟨h1,h2,λ_=>by omega,λi hi=>by omega⟩
   unfold vx at h;simp only at h;split at h<;>(try (cases h;done))
   .rename_i o ty ks' N g0 hlk;split at h<;>(try (cases h;done))
    rename_i hk;have:=XH hk;subst this;simp only[qsI,qpI]at h;obtain⟨rfl,rfl,rfl⟩:=h;have hbb:=hb _ _ hlk;have hb0:Kb r id w ty ks'.length N (QV ks' g0):=hbb;exact fin N hb0.2.1 (hbb.lt rfl) (qdt hp) (hb0.2.2.2.1 hn) rfl
   .rename_i ks' N g0 hlk;split at h<;>(try (cases h;done))
    rename_i hk;have:=XH hk;subst this;simp only[qsI,qpI]at h;obtain⟨rfl,rfl,rfl⟩:=h;have hbb:=hb _ _ hlk;exact fin N hbb.1 hbb.2.1 (qdt hp) (hbb.2.2.1 hn) rfl
 .exact main λh=>absurd h hv
instance {α : Type} [QA α] : Ql (Rc α) where
  val k x := .slz k 0 x.n (.lit x.c)
  blk k x := [(k,.frz (QA.ks α) x.n λi=>QA.enc (x.get i))]
  dec v lk := match QFj v,vx (QA.ks α) v lk with
    | some c,some (p,m,g) => some (p,⟨m,λi=>QA.dec (g i),c⟩)
    | _,_ => none
  ok v lk p x h hp := by
    split at h <;> (try (cases h; done))
    rename_i c p' m g hc hd;simp only[qsI,qpI]at h;obtain⟨rfl,rfl⟩ := h;refine⟨λk=>⟨by simp[AV.all],λq hq=>?_⟩,λr w hb=>?_⟩
    . simp only[List.mem_singleton]at hq; subst hq; exact⟨rfl,rfl,rfl⟩
    . obtain⟨l,hl⟩ := QTT hc (g' := λi=>QA.enc (QA.dec (g i) : α)) hd hp (λi=>QA.ok (g i)) hb
      refine⟨l,λk r' hr=>⟨(hl k r' hr).1,λq hq=>?_⟩⟩;simp only[List.mem_singleton]at hq; subst hq; exact(hl k r' hr).2
end Go.SX
namespace Go.Proofs.YtekbmehgcofnkaaGreat
open Go.SX Go.SX.Told
variable (C:Cap)(L:Rw Pt)(x:Pt)
def Y7(i:Nat):Bool:=x.cell==(L.get i).cell||x.lay.piece==(L.get i).lay.piece
def ptC:List AV:=[vi x.cell,vi x.lay.piece,vi x.lay.turn]
def piB:List (Nat×Blk):=[(16,.cellsR 0 63 (ptC x))]++Ql.blk 8 L
def piU(v:Int):UC:=⟨0,⟨2,[(0,.slz 8 0 L.n C),(1,.fn (.func 57) [.ptr 16 0 0])],piB L x,24⟩,λ_=>.int false .i64 v,λ_=>[]⟩
def piJ(k:Nat):JSt:=⟨19,[(0,.slz 8 0 L.n C),(1,.fn (.func 57) [.ptr 16 0 0]),(7,.int false .i64 L.n),(8,.int false .i64 k)],piB L x,24⟩
def Yf(k:Int):JSt:=⟨19,[(4,.int false .i64 k)],[],24⟩
def Wm:JSt:=⟨19,[],[],24⟩
def QDp:Ex->List Nat
 | .normal=>[0,1,7,8]
 | .exit _=>[]
 | .ret=>[4]
theorem Qe7(k:Nat)(g:Nat->Value):exec (mkE prog QT) (hnd (mkE prog QT) 2) (QJ f101 0) (JSt.inst (piJ C L x k) g) (Q9 [] QDp)=QC.br (decide ((↑k:Int)<(↑L.n:Int))) (QC.need (decide ((0:Int)<=(↑k:Int)/\(↑k:Int)<(↑L.n:Int))&&decide (L.n<=L.n)) (QC.need (decide (k<L.n)) (QC.br (x.cell==(L.get k).cell) (QC.leaf (AV.tup [AV.nili,AV.ptr (19:Nat) (0:Nat) (0:Nat),vi (↑k:Int)]) ([])) (QC.br (x.lay.piece==(L.get k).lay.piece) (QC.leaf (AV.tup [AV.nili,AV.ptr (19:Nat) (0:Nat) (0:Nat),vi (↑k:Int)]) ([])) (QC.leaf (AV.tup [AV.nilp,AV.ptr (19:Nat) (0:Nat) (0:Nat),AV.slz (8:Nat) (0:Nat) L.n C,AV.fn (Fn.func (57:Nat)) [AV.ptr (16:Nat) (0:Nat) (0:Nat)],vi (↑L.n:Int),vi (i64.wrap ((↑k:Int)+(1:Int)))]) ([((8:Nat),Blk.frz [CK.int i64,CK.int i64,CK.int i64] L.n λi=>QA.enc (L.get i)),((16:Nat), Blk.cellsR (0:Nat) (63:Nat) [vi x.cell,vi x.lay.piece,vi x.lay.turn])])))))) (QC.leaf (AV.tup [AV.ptr (0:Nat) (0:Nat) (0:Nat),AV.ptr (19:Nat) (0:Nat) (0:Nat)]) ([])):=by kernel_rfl
theorem QVo(k:Nat)(j:Int):QG 24 [vi (↑k:Int)] ([]) (Yf j)=( some [(↑k:Int)=j]):=by kernel_rfl
theorem QYA(k:Nat)(j:Int):QG 24 [vi (↑k:Int)] ([]) (Yf j)=( some [(↑k:Int)=j]):=by kernel_rfl
theorem QYF(k k':Nat):QG 24 [AV.slz (8:Nat) (0:Nat) L.n C,AV.fn (Fn.func (57:Nat)) [AV.ptr (16:Nat) (0:Nat) (0:Nat)],vi (↑L.n:Int),vi (i64.wrap ((↑k:Int)+(1:Int)))] ([((8:Nat),Blk.frz [CK.int i64,CK.int i64,CK.int i64] L.n λi=>QA.enc (L.get i)),((16:Nat),Blk.cellsR (0:Nat) (63:Nat) [vi x.cell,vi x.lay.piece,vi x.lay.turn])]) (piJ C L x k')=( some [0=0,L.n=L.n,C=C,Fn.func (57:Nat)=Fn.func (57:FuncId),0=0,0=0,(↑L.n:Int)=(↑L.n:Int), i64.wrap ((↑k:Int)+(1:Int))=(↑k':Int),x.cell=x.cell,x.lay.piece=x.lay.piece,x.lay.turn=x.lay.turn,L.n<=L.n,QB (3:Nat) L.n (λi=>QA.enc (L.get i)) λi=>QA.enc (L.get i)]):=by kernel_rfl
theorem QbP :QG 24 [] ([]) Wm=( some []):=by kernel_rfl
abbrev piH(P:Program)(C:Cap)(L:Rw Pt)(x:Pt)(X:List (Prop×Ex×JSt)):Hnd:={ hnd (mkE P QT) 2 with loop:=λ_=>KE 24 [] (piJ C L x (0:Nat)) X }
theorem QTU(A B:Prop)(k v:Int):VF (mkE prog QT) (piH prog C L x [(A,.ret,Yf k),(B,.exit 0,Wm)]) f101 (piU C L x v)=QC.ask (0=0) (QC.ask (L.n=L.n) (QC.ask (C=C) (QC.ask (Fn.func (57:FuncId)=Fn.func (57:FuncId)) (QC.ask (0=0) (QC.ask (0=0) (QC.ask ((↑L.n:Int)=(↑L.n:Int)) (QC.ask ((0:Int)=(0:Int)) (QC.ask (x.cell=x.cell) (QC.ask (x.lay.piece=x.lay.piece) (QC.ask (x.lay.turn=x.lay.turn) (QC.ask (L.n<=L.n) (QC.ask (QB (3:Nat) L.n (λi=>QA.enc (L.get i)) λi=>QA.enc (L.get i)) (QC.both (QC.asm (A) (QC.all (λ(g0:Nat -> Value)=>QC.leaf (vi k) ([])))) (QC.asm (B) (QC.all (λ(g1:Nat->Value)=>QC.leaf (vj (-1:Int)) ([]))))))))))))))))):=by kernel_rfl
theorem QUH(k v:Int):QG 24 [(vi k)] ([]) (KP (piU C L x v))=( some [k=v]):=by kernel_rfl
theorem Qaf(v:Int):QG 24 [(vj (-1:Int))] ([]) (KP (piU C L x v))=( some [(-1:Int)=v]):=by kernel_rfl
def V7:Option Nat:=QX (Y7 L x) L.n 0
def piR(k:Nat)(e:Ex)(J:JSt):Prop:=(e = .ret/\(QX (Y7 L x) (L.n-k) k).isSome=true/\J=Yf (Ki (QX (Y7 L x) (L.n-k) k)))∨(e = .exit 0/\QX (Y7 L x) (L.n-k) k=none/\J=Wm)
theorem QUI(hn:L.n<=1000):Ji (piJ C L x) (λk=>k<=L.n) (λk=>L.n-k) (piR L x) 24 QDp [] (mkE prog QT) (λ_=>hnd (mkE prog QT) 2) (QJ f101 0):=by
 refine⟨λk g0 hk=>Qf (Qe7 C L x k g0) ?_⟩;have hk:k<=L.n:=hk;have hit:∀(h:k<L.n),Y7 L x k=true->piR L x k .ret (Yf k):=λh hs=>.inl ⟨rfl,by rw[(VX h).1 hs];rfl,by rw[(VX h).1 hs];rfl⟩
 refine QF (λb0=>?_) (λb0=>?_);have h:k<L.n:=by have:=qdt b0;omega
 have hf:=VX (p:=Y7 L x) h
 iterate 2 (refine QH ?_ ?_;rotate_left)
 refine QF ?_ ?_<;>intro b1
 .refine⟨_,hit h (by unfold Y7;rw[b1];rfl),rfl,rfl,_,QVo k k,⟨rfl,trivial⟩⟩
 refine QF ?_ ?_<;>intro b2
 .refine⟨_,hit h (by unfold Y7;rw[b1,b2];rfl),rfl,rfl,_,QYA k k,⟨rfl,trivial⟩⟩
 have hb:Y7 L x k=false:=by unfold Y7;rw[b1,b2];rfl
 refine⟨k+1,h,by show L.n-(k+1)<L.n-k;omega,λe J h=>by unfold piR at h ⊢;rw[hf.2 hb];exact h,rfl,rfl,_,QYF C L x k (k+1),?_⟩
 rotate_left
 .have h:L.n<=k:=by have:=qdf b0;omega
  exact⟨_,.inr ⟨rfl,by rw[show L.n-k=0 by omega];rfl,rfl⟩,rfl,rfl,_,QbP,trivial⟩
 all_goals first|((with_reducible show _=true);(first|rfl|(simp;omega)))|(repeat' first|with_reducible refine QP ?_ ?_|exact tv|exact qRr|exact Ju h hn|refine aI ?_ ?_)
def piX:List (Prop×Ex×JSt):=[((V7 L x).isSome=true,.ret,Yf (Ki (V7 L x))),(V7 L x=none,.exit 0,Wm)]
theorem QZu(hn:L.n<=1000)(G:Ctx)(hrd:G.rd=none)(hG:G.n=24):Qu (mkE prog QT) G (piH prog C L x (piX L x)) (Qp f101):=by
 refine KM (body:=QJ f101 0) (QQ Qd) hrd (by kernel_rfl) ?_
 refine Vn (n0:=24) (QQ Qd) (by omega) (λs hs=>Q1 (QQ Qd) 2 G _ hrd) (λs hs=>(by decide:24<=24)) ?_ (QUI C L x hn) (s0:=0) (Nat.zero_le _) ?_
 .rintro s e J (⟨_,_,rfl⟩|⟨_,_,rfl⟩)<;>exact(by decide:24<=24)
 .rintro e J (⟨rfl,h,rfl⟩|⟨rfl,h,rfl⟩)
  .exact⟨_,qmc,h,rfl,rfl⟩
  .exact⟨_,List.mem_cons_of_mem _ qmc,h,rfl,rfl⟩
theorem Qd3(v:Int):(piU C L x v).Ok:=⟨(by decide:0<=24),rfl,rfl,λq hq=>(by cases hq),rfl,λ_ _=>rfl,λ_ _=>rfl⟩
theorem QWm(hn:L.n<=1000):QR prog 101 (uFC (piU C L x (Ki (V7 L x)))):=by
 refine Ks (E:=mkE prog QT) (QQ Qd) func101 (by kernel_rfl) (by kernel_rfl) (Qd3 ..) (λG h1 h2=>QZu C L x hn G h1 (by rw[h2];rfl)) ⟨?_⟩
 have et:=QTU C L x ((V7 L x).isSome=true) (V7 L x=none) (Ki (V7 L x)) (Ki (V7 L x));refine Qf et ?_;clear et
 iterate 13 refine Qt (by first|exact tv|with_reducible exact qRr|exact rfl) ?_
 refine Kl ?_ ?_;refine Qj λa0=>?_;refine Qk λg0=>?_;refine⟨rfl,rfl,_,QUH C L x (Ki (V7 L x)) (Ki (V7 L x)),?_⟩
 rotate_left
 refine Qj λa1=>?_;refine Qk λg1=>?_
 .refine⟨rfl,rfl,_,Qaf C L x (Ki (V7 L x)),?_⟩;rw[a1]
  repeat' first|exact tv|exact rfl|refine aI ?_ ?_
 all_goals (repeat' first|exact tv|exact rfl|refine aI ?_ ?_)
