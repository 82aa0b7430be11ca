/- - -/
import Derived.Test.YtekbmehgcofnkaaGreatMzh
open Go.Proofs.Tryz
open Go.IntKind (i64)
set_option maxRecDepth 100000
namespace Go.Proofs.YtekbmehgcofnkaaGreat
open Go.SX Go.SX.Told
variable (pb:List Prop->Bool)(d:Puz)(C:Cap)(E:ECt)(cells p:Int)(c:Nat)(K:Rw Pt)(v:Bool)
def W0(U:UC):Tab:=Qa QT 103 (KG pb U)
def bdL(a:Nat):Nat×Blk:=(200,.cells 0 152 (KX d++[.map 201,.slz a 0 0 (.of 0)]))
def hsU(C:Cap)(K:Rw Pt)(v:Bool):UC:=⟨208,⟨2,[(0,.ptr 200 0 0),(1,(.slz 216 0 K.n C))],[bdL d 224,(201,.mp E.1 E.2),rwY 224 []]++Qm.blk 216 K++Qm.blk 0 d.ps,232⟩,λ_=>.bool false v,λm=>[bdL d m,(201,.mp E.1 E.2),rwY m []]⟩
abbrev wam:List Prop:=[0<=0,QB 2 0 (λi=>QA.enc ([].getD i (Lay.mk (0:Int) (0:Int)))) λi=>QA.enc ([].getD i (Lay.mk (0:Int) (0:Int)))]
abbrev wbV(E:ECt):List Prop:=[cO=cO,0=0,0=0,cO=cO,E.1=E.1,E.2=E.2]
abbrev QLX(d:Puz)(u:Nat->Nat->Int):List Prop:=
  ((wbo++[0=0])++wab d++((((wbV E)++wam++(wbH d++[QB 1 d.ps.n (λx x_1=>(0:Int)) u]))++wai++((([Array.mk [8]=Array.mk
  [8]]++wbE++([0=0,0=0,0=0,K.n=K.n,C=C,0=0,0=0,0=0,0=0,0=0,K.n =
  K.n,C=C]++wbX++[false=false,Fn.func 103=Fn.func 103]))++wbo++[0=0,0
  = 0,K.n=K.n,C=C,0=0,0=0])++wa4 K))++wae d))
noncomputable abbrev QDl(d:Puz):List (Nat×Blk):=
  [(200,.cells 0 152 (List.append (waf d) ([.map 201,.slz 416 0 0 cO]))),(201,.mp E.1 E.2),(0,.frz (List.append (waa) ((List.append (waA) ((List.append (waZ) ([.int .i64])))))) d.ps.n λi=>QA.enc (d.ps.get i)),(416,.rowz true 49 [.int .i64,.int
  .i64] 0 λi=>QA.enc ([].getD i (Lay.mk (0:Int) (0:Int))))]
theorem Qgg(C:Cap)(K:Rw Pt)(u:Nat->Nat->Int)(v:Bool):VQ (mkE prog (W0 pb (haU d E C K (QN f53 0).1 (QN f53 0).2 u []))) (hnd (mkE prog (W0 pb (haU d E C K (QN f53 0).1 (QN f53 0).2 u []))) 8) f53 (hsU d E C K v) = .need (decide ((d.ps.n:Int)=(d.ps.n:Int))&&decide ((0:Int)<=(d.ps.n:Int)/\(d.ps.n:Int)<=17179869184)) (.need (pb ((QLX C E K d u))) (.leaf (.bool true false) ((QDl E d)))):=by kernel_rfl
theorem Qej(C:Cap)(K:Rw Pt)(u:Nat->Nat->Int)(v:Bool):VQ (mkE prog (W0 pb (haV d E C K (QN f53 0).1 (QN f53 0).2 u []))) (hnd (mkE prog (W0 pb (haV d E C K (QN f53 0).1 (QN f53 0).2 u []))) 8) f53 (hsU d E C K v) = .need (decide ((d.ps.n:Int)=(d.ps.n:Int))&&decide ((0:Int)<=(d.ps.n:Int)/\(d.ps.n:Int)<=17179869184)) (.need (pb ((QLX C E K d u))) (.leaf (.bool true true) ((QDl E d)))):=by kernel_rfl
abbrev QKf(d:Puz):List Prop:=
  ((waD d++([0=0,d.ps.n=d.ps.n]++wbV E))++wam)
theorem QeV(C:Cap)(K:Rw Pt)(v:Bool):QE 232 [(.bool true false)] ((QDl E d)) (KR (hsU d E C K v))=(some (([false=v]++waY d)++(QKf E d))):=by kernel_rfl
theorem Qef(C:Cap)(K:Rw Pt)(v:Bool):QE 232 [(.bool true true)] ((QDl E d)) (KR (hsU d E C K v))=(some (([true=v]++waY d)++(QKf E d))):=by kernel_rfl
theorem QO2(C:Cap)(K:Rw Pt)(v:Bool):(hsU d E C K v).Ok:=by
 refine⟨(by decide:208<=232),rfl,rfl,?_,rfl,λ_ _=>rfl,λnid h=>?_⟩
 .intro q hq;simp only[UC.po,hsU,bdL,rwY,List.mem_cons,List.not_mem_nil,or_false]at hq;rcases hq with rfl|rfl|rfl<;>refine⟨rfl,rfl,rfl,?_⟩<;>first|exact λ_=>rfl|exact λh=>absurd (show 232<208 from h) (by decide)
 .have e0:=KZ 208 232 0 nid (by decide)
  simp only[UC.po,hsU,bdL,rwY,KX,Qm.val,List.cons_append,List.nil_append,List.map_cons,List.map_nil,Blk.mapId,AV.mapId,AV.mapIdL,Nat.add_zero]at e0 ⊢;rw[e0];rfl
def hsV(A:Int->Lay->Bool):Bool := !(onA A d E WD d.ps.n [] ()).isGo
theorem QHW{d:Puz}{E:ECt}{K:Rw Pt}(hd:KB d)(hE:WfE E)(hK:K.n<=1000):QS prog 53 (uFC (hsU d E C K (hsV d E (Qr K)))):=by
 have hon:=Qbo (C:=C) hd hE hK d.ps.n [] () (by simp) (λc hc=>by cases hc)
 have hdn:=hd.n;have hz:∀ k,QB 1 k (λ_ _=>0) (QD []):=λk i _=>⟨rfl,trivial⟩;cases he:onA (Qr K) d E WD d.ps.n [] ()with
 | go s=>
  rw[he]at hon;have hv:hsV d E (Qr K)=false:=by unfold hsV;rw[he];rfl
  rw[hv];have hT:Qd (W0 QQ (haU d E C K Xe Xb (QD []) [])):=Qf.add hon;have et:=Qgg QQ d E C K (QD []) false;refine Ky (c:=Ql f53) (E:=mkE prog (W0 QQ (haU d E C K Xe Xb (QD []) []))) (QO hT) func53 (by kernel_rfl) (by kernel_rfl) (QO2 ..) (λG h1 _=>Qw (QO hT) 8 G _ h1) ⟨?_⟩
  refine Qg et ?_;clear et
  iterate 2 (refine QG ?_ ?_;rotate_left)
  refine⟨rfl,rfl,_,QeV d E C K false,?_⟩
  rotate_left
  all_goals first|((with_reducible show _=true);(first|(refine KA.2 ?_;repeat' first|with_reducible refine QP ?_ ?_|exact tv|with_reducible exact qRr|with_reducible exact hz _|exact rfl|refine aI ?_ ?_)|(simp;omega)))|(repeat' first|with_reducible refine QP ?_ ?_|exact tv|with_reducible exact qRr|exact rfl|refine aI ?_ ?_)
 | stop s=>
  rw[he]at hon;have hv:hsV d E (Qr K)=true:=by unfold hsV;rw[he];rfl
  rw[hv];have hT:Qd (W0 QQ (haV d E C K Xe Xb (QD []) [])):=Qf.add hon;have et:=Qej QQ d E C K (QD []) true;refine Ky (c:=Ql f53) (E:=mkE prog (W0 QQ (haV d E C K Xe Xb (QD []) []))) (QO hT) func53 (by kernel_rfl) (by kernel_rfl) (QO2 ..) (λG h1 _=>Qw (QO hT) 8 G _ h1) ⟨?_⟩
  refine Qg et ?_;clear et
  iterate 2 (refine QG ?_ ?_;rotate_left)
  refine⟨rfl,rfl,_,Qef d E C K true,?_⟩
  rotate_left
  all_goals first|((with_reducible show _=true);(first|(refine KA.2 ?_;repeat' first|with_reducible refine QP ?_ ?_|exact tv|with_reducible exact qRr|with_reducible exact hz _|exact rfl|refine aI ?_ ?_)|(simp;omega)))|(repeat' first|with_reducible refine QP ?_ ?_|exact tv|with_reducible exact qRr|exact rfl|refine aI ?_ ?_)
def jH(p:Int)(t:Nat):Rw Pt:=⟨1,λ_=>⟨c,⟨p,t⟩⟩⟩
def whB:List (Nat×Blk):=[bdL d 392,(201,.mp E.1 E.2),rwY 392 []]
def QTP(n:Nat)(p cells:Int)(c:Nat):List (Nat×AV):=[(1,.int false .i64 p),(4,.int false .i64 cells),(6,.ptr 200 0 0),(28,.int false .i64 n),(29,.int false .i64 c)]
def Yv(p cells:Int)(c:Nat):JSt:=⟨62,QTP d.ps.n p cells c,whB d E++Qm.blk 0 d.ps,400⟩
def G5(p cells:Int)(c:Nat)(tn:Int)(t:Nat):JSt:=⟨62,QTP d.ps.n p cells c++[(7,.int false .i64 c),(34,.int false .i64 tn),(35,.int false .i64 t)],whB d E++Qm.blk 0 d.ps,400⟩
def zZ:JSt:=⟨62,[(4,.int false .i64 cells)],[],400⟩
def QTh:Ex->List Nat
 | .normal=>[1,4,6,28,29]
 | .exit _=>[4]
 | .ret=>[]
def QSu:Ex->List Nat
 | .normal=>[1,4,6,28,29,7,34,35]
 | .exit _=>[1,4,6,28,29]
 | .ret=>[]
def QJ4:Tab:=Qa QT 53 (KG pb (hsU d E (.lit 1) K v))
noncomputable abbrev QFj(cells:Int):Int:=
  (↑(BitVec.ofInt 64 cells ||| BitVec.ofInt 64 (i64.wrap ((1:Int)*2^min c 64))).toNat:Int)
noncomputable abbrev QTp:Nat×Blk:=
  (0,.frz (List.append (waa) ((List.append (waA) ((List.append (waZ) ([.int .i64])))))) d.ps.n λi=>QA.enc (d.ps.get i))
noncomputable abbrev QCl(d:Puz):List (Nat×Blk):=
  [(200,.cells 0 152 (List.append (waf d) ([.map 201,.slz 528 0 0 cO]))),(201,.mp E.1 E.2),(QTp d),(528,.rowz true 49 kB 0 λi=>QA.enc ([].getD i (Lay.mk (0:Int) (0:Int))))]
noncomputable abbrev QNb(cells:Int)(d:Puz)(p:Int)(t:Nat)(tn:Int):List AV:=
  [.nilp,.ptr 62 0 0,vi p,vi cells,.ptr 200 0 0,vi (d.ps.n:Int),vi (c:Int),vi (c:Int),.int false .i64
  tn,vi (i64.wrap ((t:Int)+1))]
noncomputable abbrev vO(d:Puz):List (Nat×Blk):=
  [(200,.cells 0 152 (List.append (waf d) ([.map 201,.slz 392 0 0 cO]))),(201,.mp E.1 E.2),(QTp d),(392,.rowz true 49 kB 0 λi=>QA.enc ([].getD i (Lay.mk (0:Int) (0:Int))))]
theorem QZJ(p cells:Int)(c:Nat)(tn:Int)(t:Nat)(g0:Nat->Value):exec (mkE prog (QJ4 pb d E K v)) (hnd (mkE prog (QJ4 pb d E K v)) 0) (QZ (QI f17 0)) (JSt.inst (G5 d E p cells c tn t) g0) (Q6 [200,201] QSu) = .br (decide ((t:Int)<tn)) (.need (decide ((0:Int)<=(c:Int))) (.br (i64.wrap (↑(BitVec.ofInt 64 (cells.fdiv ((2:Int)^min c 64)) &&& BitVec.ofInt 64 (1:Int)).toNat:Int)==0) (.need (pb (([0=0,0=0,0=0,1=K.n,Cap.lit 1=Cap.lit 1]++wab d++(((wbV E)++wam++[jD [.int .i64,.int .i64,.int .i64] [[vi (c:Int),vi p,vi (t:Int)]] K.n λi=>QA.enc (K.get i)])++wae d)))) (.br (v) (.need (decide ((0:Int)<=(c:Int))) (.leaf (.tup [.nilp,.ptr 62 0 0,vi p,vi (i64.wrap (QFj c cells)),.ptr 200 0 0,vi (d.ps.n:Int),vi (c:Int),vi (c:Int),vi tn,vi (i64.wrap ((t:Int)+1))]) ((QCl E d)))) (.leaf (.tup (QNb c cells d p t tn)) ((QCl E d))))) (.leaf (.tup (QNb c cells d p t tn)) ((vO E d))))) (.leaf (.tup [.ptr 3 0 0,.ptr 62 0 0,vi p,vi cells,.ptr 200 0 0,vi (d.ps.n:Int),vi (c:Int)]) ((vO E d))):=by kernel_rfl
abbrev QGj(d:Puz):List Prop:=
  (wab d++(((wbV E)++wam)++wae d))
theorem QUK(p cells cells':Int)(c:Nat)(tn:Int)(t t':Nat):QE 112 [vi p,vi (i64.wrap (QFj c cells)),.ptr 200 0 0,vi (d.ps.n:Int),vi (c:Int),vi (c:Int), vi tn,vi (i64.wrap ((t:Int)+1))] ((QCl E d)) (G5 d E p cells' c tn t')=(some ([p=p,i64.wrap (QFj c cells)=cells',0=0,0=0,(d.ps.n:Int)=(d.ps.n:Int),(c:Int)=(c:Int),(c:Int)=(c:Int),tn=tn,i64.wrap ((t:Int)+1)=(t':Int)]++(QGj E d))):=by kernel_rfl
noncomputable abbrev QOC(cells:Int)(d:Puz)(p:Int)(t:Nat)(tn:Int):List AV:=
  [vi p,vi cells,.ptr 200 0 0,vi (d.ps.n:Int),vi (c:Int),vi (c:Int),vi tn,.int false .i64
  (i64.wrap ((t:Int)+1))]
abbrev QTF(cells:Int)(d:Puz)(p:Int)(t:Nat)(t':Nat)(tn:Int):List Prop:=
  ([p=p,cells=cells,0=0,0=0,(d.ps.n:Int)=(d.ps.n:Int),(c:Int)=(c:Int),(c:Int)=(c:Int),tn=tn,i64.wrap ((t:Int)+1)=(t':Int)]++wab d++(((wbV E)++wam)++wae d))
theorem Qar(p cells:Int)(c:Nat)(tn:Int)(t t':Nat):QE 112 (QOC c cells d p t tn) ((QCl E d)) (G5 d E p cells c tn t')=(some (QTF E c cells d p t t' tn)):=by kernel_rfl
theorem QeK(p cells:Int)(c:Nat)(tn:Int)(t t':Nat):QE 112 (QOC c cells d p t tn) ((vO E d)) (G5 d E p cells c tn t')=(some (QTF E c cells d p t t' tn)):=by kernel_rfl
theorem QY7(p cells:Int)(c:Nat):QE 112 [vi p,vi cells,.ptr 200 0 0,vi (d.ps.n:Int),vi (c:Int)] ((vO E d)) (Yv d E p cells c)=(some ([p=p, cells=cells,0=0,0=0,(d.ps.n:Int)=(d.ps.n:Int),(c:Int)=(c:Int)]++(QGj E d))):=by kernel_rfl
def qY:Tab:=Qa QT 52 (KG pb (tnU d 0 p))
abbrev QDC(P:Program)(pb:List Prop->Bool)(d:Puz)(E:ECt)(p cells:Int)(c:Nat)(X:List (Prop×Ex×JSt)):Hnd:={ hnd (mkE P (qY pb d p)) 0 with loop:=λ_=>KH 112 [200,201] (G5 d E p cells c (tnV d p) (0:Nat)) X }
theorem QcI(p cells cells':Int)(c:Nat)(g0:Nat->Value):exec (mkE prog (qY pb d p)) (QDC prog pb d E p cells c [(True,.exit 3,Yv d E p cells' c)]) (QI f17 0) (JSt.inst (Yv d E p cells c) g0) (Q6 [200, 201] QTh) = .br (decide ((c:Int)<(d.ps.n:Int))) (.need (pb (([0=0,0=0,p=p]++wab d++([cO=cO,0=0,0=0,cO=cO]++wae d)))) (.ak ([p=p,cells=cells,0=0,0=0,(d.ps.n:Int)=(d.ps.n:Int),(c:Int)=(c:Int),(c:Int)=(c:Int),tnV d p=tnV d p,(0:Int)=0]++wab d++(((wbV E)++wam)++wae d)) (.asm (True) (.all (λ(g0:Nat->Value)=>.leaf (.tup [.nilp,.ptr 62 0 0,vi p,vi cells',.ptr 200 0 0,vi (d.ps.n:Int),vi (i64.wrap ((c:Int)+1))]) ((vO E d))))))) (.leaf (.tup [.ptr 1 0 0,.ptr 62 0 0,vi cells]) ((vO E d))):=by kernel_rfl
theorem Qbz(p cells':Int)(c c':Nat):QE 112 [vi p,vi cells',.ptr 200 0 0,vi (d.ps.n:Int),vi (i64.wrap ((c:Int)+1))] ((vO E d)) (Yv d E p cells' c')=(some ([p=p,cells'=cells',0=0,0=0,(d.ps.n:Int)=(d.ps.n:Int),i64.wrap ((c:Int)+1)=(c':Int)]++(QGj E d))):=by kernel_rfl
noncomputable abbrev waF(d:Puz):List AV:=[vi d.pK.length,vi d.pK.aK,vi d.pK.oK,vi d.pK.dK.lo,vi d.pK.dK.hi,vi d.wide,vi d.high]
theorem Qd4:QE 112 [vi cells] ([((200:Nat),Blk.cells (0:Nat) (152:Nat) (List.append (waF d) ([AV.bool false d.turn,AV.slz (0:Nat) (0:Nat) d.ps.n cO,AV.map (201:Nat),AV.slz (392:Nat) (0:Nat) (0:Nat) cO]))),((201:Nat),Blk.mp E.1 E.2),((0:Nat),Blk.frz [CK.int i64,CK.int i64,CK.int i64,CK.int i64,CK.int i64,CK.int i64,CK.int i64,CK.int i64,CK.int i64,CK.int i64,CK.int i64,CK.int i64,CK.int i64,CK.int i64,CK.int i64,CK.int i64,CK.int i64,CK.int i64,CK.int i64,CK.int i64,CK.int i64,CK.int i64,CK.int i64,CK.int i64,CK.int i64,CK.int i64,CK.int i64,CK.int i64] d.ps.n λi=>QA.enc (d.ps.get i)),((392:Nat),Blk.rowz true (49:Nat) [CK.int i64,CK.int i64] (0:Nat) λi=>QA.enc ([].getD i (Lay.mk (0:Int) (0:Int))))]) (zZ cells)=( some [cells=cells]):=by kernel_rfl
def QC8:Bool:=i64.wrap (((BitVec.ofInt 64 (cells.fdiv (2^min (c:Int).toNat 64)) &&& BitVec.ofInt 64 1).toNat:Nat):Int)==0
def QFE:Int:=i64.wrap (((BitVec.ofInt 64 cells ||| BitVec.ofInt 64 (i64.wrap (1*2^min (c:Int).toNat 64))).toNat:Nat):Int)
def Z2(cells:Int)(t:Nat):Int:=cond (QC8 cells c) (cond (hsV d E (Qr (jH c p t))) (QFE cells c) cells) cells
def Zv(p cells:Int)(c:Nat):Int:=(List.range (tnV d p).toNat).foldl (Z2 d E p c) cells
def qI:Int:=(List.range d.ps.n).foldl (Zv d E p) 0
theorem QI3{σ:Type}{f:σ->Nat->σ}{n k:Nat}(h:k<n)(s:σ):((List.range n).drop k).foldl f s=((List.range n).drop (k+1)).foldl f (f s k):=by
 have:(List.range n).drop k=k::(List.range n).drop (k+1):=by
  rw[List.drop_eq_getElem_cons (by simpa using h)]
  simp
 rw[this,List.foldl_cons]
theorem QH3{σ:Type}{f:σ->Nat->σ}{n k:Nat}(h:n<=k)(s:σ):((List.range n).drop k).foldl f s=s:=by
 rw[List.drop_eq_nil_of_le (by simpa using h),List.foldl_nil]
theorem Qdg:((tnV d p).toNat:Int)=tnV d p/\(tnV d p).toNat<=4:=by
 rcases QPp d p with h|h<;>rw[h]<;>decide
def Hg(k:Nat×Int)(e:Ex)(J:JSt):Prop:=e = .exit 3/\J=Yv d E p (((List.range (tnV d p).toNat).drop k.1).foldl (Z2 d E p c) k.2) c
noncomputable def Hv(P:Program)(d:Puz)(E:ECt)(p:Int)(c:Nat)(k:Nat×Int):Env:=mkE P (QJ4 QQ d E (jH c p k.1) (hsV d E (Qr (jH c p k.1))))
theorem QZc(p:Int)(t:Nat):jD [.int .i64,.int .i64,.int .i64] [[.int false .i64 c,.int false .i64 p,.int false .i64 t]] (jH c p t).n λi=>QA.enc ((jH c p t).get i):=by
 refine⟨qlr 1,λi hi x hx r=>?_⟩;obtain rfl:i=0:=by have:i<1:=hi;omega
 simp only[List.getElem?_cons_zero,qsI]at hx;subst hx;rfl
theorem Qe0:JW (λk:Nat×Int=>G5 d E p k.2 c (tnV d p) k.1) (λk=>k.1<=(tnV d p).toNat) (λk=>(tnV d p).toNat-k.1) (Hg d E p c) 112 QSu [200,201] (Hv prog d E p c) (λk=>hnd (Hv prog d E p c k) 0) (QZ (QI f17 0)):=by
 refine⟨λk g0 hk=>?_⟩;obtain⟨t,cells⟩:=k;have hk:t<=(tnV d p).toNat:=hk;obtain⟨ht1,ht4⟩:=Qdg d p;have wt:t<(tnV d p).toNat->i64.wrap ((t:Int)+1)=((t+1:Nat):Int):=λh=>(w64 (by omega) (by omega)).trans (by omega)
 have next:t<(tnV d p).toNat->∀{s2:Int},Z2 d E p c cells t=s2->∀ e J,Hg d E p c (t+1,s2) e J->Hg d E p c (t,cells) e J:=by
  intro h s2 he e J hr;unfold Hg at hr ⊢;simp only at hr ⊢;rw[QI3 h,he];exact hr
 have last:(tnV d p).toNat<=t->Hg d E p c (t,cells) (.exit 3) (Yv d E p cells c):=by
  intro h;unfold Hg;simp only[QH3 h,and_self]
 have et:=QZJ QQ d E (jH c p t) (hsV d E (Qr (jH c p t))) p cells c (tnV d p) t g0;refine Qg et ?_;clear et;refine QF (λb0=>?_) (λb0=>?_);have h:t<(tnV d p).toNat:=by have:=qdt b0;omega
 have hw:=wt h;refine QG ?_ ?_;rotate_left;refine QF (λb1=>?_) (λb1=>?_);refine QG ?_ ?_;rotate_left;refine QF (λb2=>?_) (λb2=>?_);refine QG ?_ ?_;rotate_left;have ho:Z2 d E p c cells t=QFE cells c:=by unfold Z2;rw[show QC8 cells c=true from b1,b2];rfl
 refine⟨(t+1,QFE cells c),h,by show(tnV d p).toNat-(t+1)<(tnV d p).toNat-t;omega,next h ho,rfl,rfl,_,QUK d E p cells (QFE cells c) c (tnV d p) t (t+1),?_⟩
 rotate_left
 have ho:Z2 d E p c cells t=cells:=by unfold Z2;rw[show QC8 cells c=true from b1,b2];rfl
 refine⟨(t+1,cells),h,by show(tnV d p).toNat-(t+1)<(tnV d p).toNat-t;omega,next h ho,rfl,rfl,_,Qar d E p cells c (tnV d p) t (t+1),?_⟩
 rotate_left
 have ho:Z2 d E p c cells t=cells:=by unfold Z2;rw[show QC8 cells c=false from b1];rfl
 refine⟨(t+1,cells),h,by show(tnV d p).toNat-(t+1)<(tnV d p).toNat-t;omega,next h ho,rfl,rfl,_,QeK d E p cells c (tnV d p) t (t+1),?_⟩
 rotate_left
 have h:(tnV d p).toNat<=t:=by have:=qdf b0;omega
 refine⟨_,last h,rfl,rfl,_,QY7 d E p cells c,?_⟩
 rotate_left
 all_goals first|((with_reducible show _=true);(first|(simp;done)|(refine KA.2 ?_;repeat' first|with_reducible refine QP ?_ ?_|exact tv|with_reducible exact qRr|exact QZc c p t|exact rfl|refine aI ?_ ?_)|(simp;omega)))|(repeat' first|with_reducible refine QP ?_ ?_|exact tv|with_reducible exact qRr|exact hw|exact rfl|refine aI ?_ ?_)
theorem Qbt{d:Puz}{E:ECt}(hd:KB d)(hE:WfE E)(p cells:Int)(c:Nat)(G:Ctx)(hrd:G.rd=none)(hG:G.n<=112):
  Qx (mkE prog (qY QQ d p)) G (QDC prog QQ d E p cells c [(True,.exit 3,Yv d E p (Zv d E p cells c) c)]) (QI f17 0):=by
 have hT:Qd (qY QQ d p):=Qf.add (YR d 0 p);refine KO (body:=QZ (QI f17 0)) (QO hT) hrd (by kernel_rfl) ?_
 have hEnv:∀ k,(Hv prog d E p c k).Sound:=λk=>QO (Qf.add (QHW (.lit 1) hd hE (show(1:Nat)<=1000 by decide)))
 refine Jq (E0:=mkE prog (qY QQ d p)) (E:=Hv prog d E p c) (H:=λk=>hnd (Hv prog d E p c k) 0) (n0:=112) (s0:=(0,cells)) (λ_=>rfl) hEnv hG (λk _=>Qw (hEnv k) 0 G _ hrd) (λk _=>(by decide:112<=400)) ?_ (Qe0 d E p c) (Nat.zero_le _) ?_
 .rintro k e J ⟨_,rfl⟩;exact(by decide:112<=400)
 .rintro e J ⟨rfl,rfl⟩;exact⟨_,qmc,trivial,rfl,rfl⟩
def Gy(k:Nat×Int)(e:Ex)(J:JSt):Prop:=e = .exit 1/\J=zZ (((List.range d.ps.n).drop k.1).foldl (Zv d E p) k.2)
theorem QZ7(hn:d.ps.n<=1000):JW (λk:Nat×Int=>Yv d E p k.2 k.1) (λk=>k.1<=d.ps.n) (λk=>d.ps.n-k.1) (Gy d E p) 112 QTh [200,201] (λ_=>mkE prog (qY QQ d p)) (λk=>QDC prog QQ d E p k.2 k.1 [(True,.exit 3,Yv d E p (Zv d E p k.2 k.1) k.1)]) (QI f17 0):=by
 refine⟨λk g0 hk=>?_⟩;obtain⟨c,cells⟩:=k;have hk:c<=d.ps.n:=hk;have wp:c<d.ps.n->i64.wrap ((c:Int)+1)=((c+1:Nat):Int):=λh=>VT h hn
 have next:c<d.ps.n->∀ e J,Gy d E p (c+1,Zv d E p cells c) e J->Gy d E p (c,cells) e J:=by
  intro h e J hr;unfold Gy at hr ⊢;simp only at hr ⊢;rw[QI3 h];exact hr
 have last:d.ps.n<=c->Gy d E p (c,cells) (.exit 1) (zZ cells):=by
  intro h;unfold Gy;simp only[QH3 h,and_self]
 have et:=QcI QQ d E p cells (Zv d E p cells c) c g0;refine Qg et ?_;clear et;refine QF (λb0=>?_) (λb0=>?_);have h:c<d.ps.n:=by have:=qdt b0;omega
 have hw:=wp h;refine QG ?_ ?_;rotate_left
 iterate 29 refine Qq (by first|exact tv|with_reducible exact qRr|exact rfl) ?_
 refine Qh λa0=>?_;refine Qj λg0=>?_;refine⟨(c+1,Zv d E p cells c),h,by show d.ps.n-(c+1)<d.ps.n-c;omega,next h,rfl,rfl,_,Qbz d E p (Zv d E p cells c) c (c+1),?_⟩
 rotate_left
 have h:d.ps.n<=c:=by have:=qdf b0;omega
 refine⟨_,last h,rfl,rfl,_,Qd4 d E cells,?_⟩
 rotate_left
 all_goals first|((with_reducible show _=true);(first|(refine KA.2 ?_;repeat' first|with_reducible refine QP ?_ ?_|exact tv|with_reducible exact qRr|exact rfl|refine aI ?_ ?_)|(simp;omega)))|(repeat' first|with_reducible refine QP ?_ ?_|exact tv|with_reducible exact qRr|exact hw|exact rfl|refine aI ?_ ?_)
def j7:Tab:=Qa QT 60 (KG pb (nbU d E))
abbrev whH(P:Program)(pb:List Prop->Bool)(d:Puz)(E:ECt)(p:Int)(X:List (Prop×Ex×JSt)):Hnd:={ hnd (mkE P (j7 pb d E)) 8 with loop:=λ_=>JP (d.ok=true) (KH 112 [200,201] (Yv d E p 0 (0:Nat)) X) }
def YK(n e:Int):AV := .tup [.int false .i64 n,.int false .i64 e]
theorem QaW(p cells':Int):Kn (mkE prog (j7 pb d E)) (whH prog pb d E p [(True,.exit 1,zZ cells')]) f17 (Qe.vals 0 ((d,p,()):Puz×Int×Unit)) (Qe.blks 0 ((d,p,()):Puz×Int×Unit)) 112 = .need (decide (d.ps.n<=d.ps.n)&&true&&decide (d.ps.n<=1000)) (.br (!d.ok) (.leaf (.tup [vj 0,vj 1]) ([])) (.need (pb ((wab d++([cO=cO]++wae d)))) (.need (true) (.br (!Qz p (0:Int) (i64.wrap ((d.ps.n:Int)-1))) (.leaf (.tup [vj 0,vj 2]) ([])) (.ak ([d.ok=true,p=p,(0:Int)=0,0=0,0=0,(d.ps.n:Int)=(d.ps.n:Int),(0:Int)=0]++wab d++([cO=cO,0=0,E.1=E.1,E.2=E.2,0=0]++wae d)) (.asm (True) (.all (λ(g0:Nat->Value)=>.br (cells'==0) (.leaf (.tup [vj 0,vj 4]) ([])) (.leaf (.tup [vi cells',vj 0]) ([])))))))))):=by kernel_rfl
theorem Qfj(n e:Int):QE 112 [(AV.tup [vj (0:Int),vj (1:Int)])] ([]) (KN 112 (YK n e) [])=( some [(0:Int)=n,(1:Int)=e]):=by kernel_rfl
theorem Qd0(n e:Int):QE 112 [(AV.tup [vj (0:Int),vj (2:Int)])] ([]) (KN 112 (YK n e) [])=( some [(0:Int)=n,(2:Int)=e]):=by kernel_rfl
theorem QYW(n e:Int):QE 112 [(AV.tup [vj (0:Int),vj (4:Int)])] ([]) (KN 112 (YK n e) [])=( some [(0:Int)=n,(4:Int)=e]):=by kernel_rfl
theorem Qen(cells' n e:Int):QE 112 [(AV.tup [vi cells',vj (0:Int)])] ([]) (KN 112 (YK n e) [])=( some [cells'=n,(0:Int)=e]):=by kernel_rfl
def QIA:Int×Int:=cond d.ok
 (cond (Qz p 0 (i64.wrap ((d.ps.n:Int)-1))) (cond (qI d (QK d) p==0) (0,4) (qI d (QK d) p,0)) (0,2)) (0,1)
def ZU:WF (Puz×Int×Unit):=λ|(d,p,_)=>(decide (d.ps.n<=1000),YK (QIA d p).1 (QIA d p).2,[])
def QRY:FC:=wFC ZU
theorem QWM:WOk (ZU (d,p,())).2.1 (ZU (d,p,())).2.2:=⟨rfl,by simp[ZU],rfl⟩
theorem QYK(hn:d.ps.n<=1000)(G:Ctx)(hrd:G.rd=none)(hG:G.n=112):Qx (mkE prog (j7 QQ d (QK d))) G (whH prog QQ d (QK d) p [(True,.exit 1,zZ (qI d (QK d) p))]) (Ql f17):=by
 have hT:Qd (j7 QQ d (QK d)):=Qf.add (WI d (by omega))
 refine KO (body:=QI f17 0) (QO hT) hrd (by kernel_rfl) ?_
 refine Jj λho=>?_;have hd:=(WQ (Zl ho)).1;have hT1:Qd (qY QQ d p):=Qf.add (YR d 0 p);refine Jq (E0:=mkE prog (j7 QQ d (QK d))) (E:=λ_:Nat×Int=>mkE prog (qY QQ d p)) (H:=λk=>QDC prog QQ d (QK d) p k.2 k.1 [(True,.exit 3,Yv d (QK d) p (Zv d (QK d) p k.2 k.1) k.1)]) (n0:=112) (s0:=(0,0)) (λ_=>rfl) (λ_=>QO hT1) (by omega) (λk _=>Qbt hd (Zo d hn).w p k.2 k.1 G hrd (by omega)) (λk _=>(by decide:112<=400)) ?_ (QZ7 d (QK d) p hn) (Nat.zero_le _) ?_
 .rintro k e J ⟨_,rfl⟩;exact(by decide:112<=400)
 .rintro e J ⟨rfl,rfl⟩;exact⟨_,qmc,trivial,rfl,rfl⟩
theorem Qdl(hx:(ZU (d,p,())).1=true):QS prog 17 (wFC (VW ZU (d,p,()))):=by
 have hn:d.ps.n<=1000:=qdt hx;have hT:Qd (j7 QQ d (QK d)):=Qf.add (WI d (by omega))
 refine Yh (c:=Ql f17) (E:=mkE prog (j7 QQ d (QK d))) (H:=whH prog QQ d (QK d) p [(True,.exit 1,zZ (qI d (QK d) p))]) (QO hT) func17 (by kernel_rfl) (by kernel_rfl) (N:=112) (by decide) (d,p,()) (λG h1 h2=>QYK d p hn G h1 h2) (QWM d p) ?_
 have hv:QIA d p=cond d.ok (cond (Qz p 0 (i64.wrap ((d.ps.n:Int)-1))) (cond (qI d (QK d) p==0) (0,4) (qI d (QK d) p,0)) (0,2)) (0,1):=rfl;have et:=QaW QQ d (QK d) p (qI d (QK d) p);generalize qI d (QK d) p=W at et hv ⊢;refine Qg et ?_;clear et;refine QG ?_ ?_;rotate_left;refine QF (λb0=>?_) (λb0=>?_);have ho:d.ok=false:=by simpa using b0
 rw[ho,cond_false]at hv;simp only[ZU,hv];refine⟨rfl,rfl,_,Qfj 0 1,?_⟩
 rotate_left
 have ho:d.ok=true:=by simpa using b0
 iterate 2 (refine QG ?_ ?_;rotate_left)
 refine QF (λb1=>?_) (λb1=>?_);have hw:Qz p 0 (i64.wrap ((d.ps.n:Int)-1))=false:=by simpa using b1
 rw[ho,hw,cond_true,cond_false]at hv;simp only[ZU,hv];refine⟨rfl,rfl,_,Qd0 0 2,?_⟩
 rotate_left
 iterate 24 refine Qq (by first|exact tv|exact ho|with_reducible exact qRr|exact rfl) ?_
 refine Qh λa0=>?_;refine Qj λg0=>?_;refine QF (λb2=>?_) (λb2=>?_);have hw:Qz p 0 (i64.wrap ((d.ps.n:Int)-1))=true:=by simpa using b1
 rw[ho,hw,cond_true,cond_true,show(W==0)=true from b2,cond_true]at hv;simp only[ZU,hv];refine⟨rfl,rfl,_,QYW 0 4,?_⟩
 rotate_left
 have hw:Qz p 0 (i64.wrap ((d.ps.n:Int)-1))=true:=by simpa using b1
 rw[ho,hw,cond_true,cond_true,show(W==0)=false from b2,cond_false]at hv;simp only[ZU,hv];refine⟨rfl,rfl,_,Qen W W 0,?_⟩
 rotate_left
 all_goals first|((with_reducible show _=true);(first|(simp;done)|(refine KA.2 ?_;repeat' first|with_reducible refine QP ?_ ?_|exact tv|with_reducible exact qRr|exact rfl|refine aI ?_ ?_)|(simp;omega)))|(repeat' first|with_reducible refine QP ?_ ?_|exact tv|with_reducible exact qRr|exact rfl|refine aI ?_ ?_)
theorem QYl:QS prog 17 QRY:=zH (by kernel_rfl) λ|(d,p,()),hx=>Qdl d p hx
end Go.Proofs.YtekbmehgcofnkaaGreat
namespace Go.SX
open Go Go.RowKit Go.Proofs.YtekbmehgcofnkaaGreat
structure Rc (α:Type) where
 n:Nat
 get:Nat->α
 c:Nat
def Rc.rw{α:Type}(x:Rc α):Rw α:=⟨x.n,x.get⟩
def QIo:AV->Option Nat
 | .slz _ _ _ (.lit c)=>some c
 | .slice _ _ _ _ (.lit c)=>some c
 | .nils=>some 0
 | _=>none
theorem QXN{ks:List CK}{v:AV}{c:Nat}(hc:QIo v=some c){lk:Nat->Option Blk}{p:Bool}{m:Nat}{g g':Nat->Nat->Int}(h:zD ks v lk=some (p,m,g))(hp:p=true)(hg:∀ i,QW ks g' i=QW ks g i){r:Nat->Loc}{w:World}(hb:∀ id b,lk id=some b->QL r id w b):
  ∃ l:Loc,∀(k:Nat) (r':Nat->Loc),r' k=l->(AV.slz k 0 m (.lit c)).den r'=v.den r/\QL r' k w (.frz ks m g'):=by
 have main:((∃ id e n,v = .slz id e n (.lit c))->∀ id e n,v = .slz id e n (.lit c)->(r id).nil=false)->∃ l:Loc,∀(k:Nat) (r':Nat->Loc),r' k=l->(AV.slz k 0 m (.lit c)).den r'=v.den r/\QL r' k w (.frz ks m g'):=by
  intro hnn;obtain⟨l,hl⟩:=QM0 h hp hg hb;refine⟨l,λk r' hr=>⟨?_,(hl k r' hr).2⟩⟩;have hd:=(hl k r' hr).1;unfold QIo at hc;split at hc<;>(try (cases hc;done))
  .simp only[qsI]at hc;subst hc;rename_i id e n c;have hn:=hnn ⟨_,_,_,rfl⟩ id e n rfl;rw[<-hd];simp only[AV.den,Loc.room,hn,Cap.den,Value.slice.injEq]at hd ⊢;obtain⟨_,_,h3⟩:=hd;refine⟨trivial,trivial,?_⟩;cases hk:(r' k).nil with
   | true=>rfl
   | false=>rw[hk]at h3;simp only[Nat.sub_zero]at h3 ⊢;exact h3.symm
  .simp only[qsI]at hc;subst hc;rw[<-hd];simp only[AV.den,Loc.room,Cap.den,Value.slice.injEq]at hd ⊢;obtain⟨_,_,h3⟩:=hd;refine⟨trivial,trivial,?_⟩;cases hk:(r' k).nil with
   | true=>rfl
   | false=>rw[hk]at h3;simp only[Nat.sub_zero]at h3 ⊢;exact h3.symm
  .simp only[qsI]at hc;subst hc;rw[<-hd];simp only[AV.den,Loc.room,Cap.den,Value.slice.injEq]at hd ⊢;obtain⟨_,_,h3⟩:=hd;refine⟨trivial,trivial,?_⟩;cases hk:(r' k).nil with
   | true=>rfl
   | false=>rw[hk]at h3;simp only[Nat.sub_zero]at h3 ⊢;exact h3.symm
 by_cases hv:∃ id e n,v = .slz id e n (.lit c)
 .obtain⟨id,e,n,rfl⟩:=hv;cases hn:(r id).nil with
  | false=>exact main λ_ id' e' n' h'=>by cases h';exact hn
  | true=>
   have fin:∀(N:Nat),(r id).esz=ks.length->(∀ k,(r id).foot k->k<w.heap.size)->m+e<=N->N=0->m=n->∃ l:Loc,∀(k:Nat) (r':Nat->Loc),r' k=l->(AV.slz k 0 m (.lit c)).den r'=(AV.slz id e n (.lit c)).den r/\QL r' k w (.frz ks m g'):=by
    intro N h1 h2 h3 h4 h5;refine⟨r id,λk r' hr=>⟨?_,?_⟩⟩
    .simp only[AV.den,hr,Loc.base,Loc.room,hn,h5]
    .simp only[QL];rw[hr];exact⟨h1,h2,λ_=>by omega,λi hi=>by omega⟩
   unfold zD at h;simp only at h;split at h<;>(try (cases h;done))
   .rename_i o ty ks' N g0 hlk;split at h<;>(try (cases h;done))
    rename_i hk;have:=Xf hk;subst this;simp only[qsI,qpI]at h;obtain⟨rfl,rfl,rfl⟩:=h;have hbb:=hb _ _ hlk;have hb0:Ka r id w ty ks'.length N (QW ks' g0):=hbb;exact fin N hb0.2.1 (hbb.lt rfl) (qdt hp) (hb0.2.2.2.1 hn) rfl
   .rename_i ks' N g0 hlk;split at h<;>(try (cases h;done))
    rename_i hk;have:=Xf hk;subst this;simp only[qsI,qpI]at h;obtain⟨rfl,rfl,rfl⟩:=h;have hbb:=hb _ _ hlk;exact fin N hbb.1 hbb.2.1 (qdt hp) (hbb.2.2.1 hn) rfl
 .exact main λh=>absurd h hv
instance {α : Type} [QA α] : Qm (Rc α) where
  val k x := .slz k 0 x.n (.lit x.c)
  blk k x := [(k,.frz (QA.ks α) x.n λi=>QA.enc (x.get i))]
  dec v lk := match QIo v,zD (QA.ks α) v lk with
    | some c,some (p,m,g) => some (p,⟨m,λi=>QA.dec (g i),c⟩)
    | _,_ => none
  ok v lk p x h hp := by
    split at h <;> (try (cases h; done))
    rename_i c p' m g hc hd;simp only[qsI,qpI]at h;obtain⟨rfl,rfl⟩ := h;refine⟨λk=>⟨by simp[AV.all],λq hq=>?_⟩,λr w hb=>?_⟩
    . simp only[List.mem_singleton]at hq; subst hq; exact⟨rfl,rfl,rfl⟩
    . obtain⟨l,hl⟩ := QXN hc (g' := λi=>QA.enc (QA.dec (g i) : α)) hd hp (λi=>QA.ok (g i)) hb
      refine⟨l,λk r' hr=>⟨(hl k r' hr).1,λq hq=>?_⟩⟩;simp only[List.mem_singleton]at hq; subst hq; exact(hl k r' hr).2
end Go.SX
namespace Go.Proofs.YtekbmehgcofnkaaGreat
open Go.SX Go.SX.Told
variable (C:Cap)(L:Rw Pt)(x:Pt)
def ZQ(i:Nat):Bool:=x.cell==(L.get i).cell||x.lay.piece==(L.get i).lay.piece
def ptC:List AV:=[vi x.cell,vi x.lay.piece,vi x.lay.turn]
def piB:List (Nat×Blk):=[(16,.cellsR 0 63 (ptC x))]++Qm.blk 8 L
def piU(v:Int):UC:=⟨0,⟨2,[(0,.slz 8 0 L.n C),(1,.fn (.func 57) [.ptr 16 0 0])],piB L x,24⟩,λ_=>.int false .i64 v,λ_=>[]⟩
def piJ(k:Nat):JSt:=⟨19,[(0,.slz 8 0 L.n C),(1,.fn (.func 57) [.ptr 16 0 0]),(7,.int false .i64 L.n),(8,.int false .i64 k)],piB L x,24⟩
def Yg(k:Int):JSt:=⟨19,[(4,.int false .i64 k)],[],24⟩
def qQ:JSt:=⟨19,[],[],24⟩
def QEy:Ex->List Nat
 | .normal=>[0,1,7,8]
 | .exit _=>[]
 | .ret=>[4]
theorem QdR(k:Nat)(g:Nat->Value):exec (mkE prog QT) (hnd (mkE prog QT) 2) (QI f101 0) (JSt.inst (piJ C L x k) g) (Q6 [] QEy)=QC.br (decide ((↑k:Int)<(↑L.n:Int))) (QC.need (decide ((0:Int)<=(↑k:Int)/\(↑k:Int)<(↑L.n:Int))&&decide (L.n<=L.n)) (QC.need (decide (k<L.n)) (QC.br (x.cell==(L.get k).cell) (QC.leaf (AV.tup [AV.nili,AV.ptr (19:Nat) (0:Nat) (0:Nat),vi (↑k:Int)]) ([])) (QC.br (x.lay.piece==(L.get k).lay.piece) (QC.leaf (AV.tup [AV.nili,AV.ptr (19:Nat) (0:Nat) (0:Nat),vi (↑k:Int)]) ([])) (QC.leaf (AV.tup [AV.nilp,AV.ptr (19:Nat) (0:Nat) (0:Nat),AV.slz (8:Nat) (0:Nat) L.n C,AV.fn (Fn.func (57:Nat)) [AV.ptr (16:Nat) (0:Nat) (0:Nat)],vi (↑L.n:Int),vi (i64.wrap ((↑k:Int)+(1:Int)))]) ([((8:Nat),Blk.frz [CK.int i64,CK.int i64,CK.int i64] L.n λi=>QA.enc (L.get i)),((16:Nat), Blk.cellsR (0:Nat) (63:Nat) [vi x.cell,vi x.lay.piece,vi x.lay.turn])])))))) (QC.leaf (AV.tup [AV.ptr (0:Nat) (0:Nat) (0:Nat),AV.ptr (19:Nat) (0:Nat) (0:Nat)]) ([])):=by kernel_rfl
theorem QXA(k:Nat)(j:Int):QE 24 [vi (↑k:Int)] ([]) (Yg j)=( some [(↑k:Int)=j]):=by kernel_rfl
theorem QZ9(k:Nat)(j:Int):QE 24 [vi (↑k:Int)] ([]) (Yg j)=( some [(↑k:Int)=j]):=by kernel_rfl
theorem QYn(k k':Nat):QE 24 [AV.slz (8:Nat) (0:Nat) L.n C,AV.fn (Fn.func (57:Nat)) [AV.ptr (16:Nat) (0:Nat) (0:Nat)],vi (↑L.n:Int),vi (i64.wrap ((↑k:Int)+(1:Int)))] ([((8:Nat),Blk.frz [CK.int i64,CK.int i64,CK.int i64] L.n λi=>QA.enc (L.get i)),((16:Nat),Blk.cellsR (0:Nat) (63:Nat) [vi x.cell,vi x.lay.piece,vi x.lay.turn])]) (piJ C L x k')=( some [0=0,L.n=L.n,C=C,Fn.func (57:Nat)=Fn.func (57:FuncId),0=0,0=0,(↑L.n:Int)=(↑L.n:Int), i64.wrap ((↑k:Int)+(1:Int))=(↑k':Int),x.cell=x.cell,x.lay.piece=x.lay.piece,x.lay.turn=x.lay.turn,L.n<=L.n,QB (3:Nat) L.n (λi=>QA.enc (L.get i)) λi=>QA.enc (L.get i)]):=by kernel_rfl
theorem QVj :QE 24 [] ([]) qQ=( some []):=by kernel_rfl
abbrev piH(P:Program)(C:Cap)(L:Rw Pt)(x:Pt)(X:List (Prop×Ex×JSt)):Hnd:={ hnd (mkE P QT) 2 with loop:=λ_=>KH 24 [] (piJ C L x (0:Nat)) X }
theorem Qeq(A B:Prop)(k v:Int):VQ (mkE prog QT) (piH prog C L x [(A,.ret,Yg k),(B,.exit 0,qQ)]) f101 (piU C L x v)=QC.ask (0=0) (QC.ask (L.n=L.n) (QC.ask (C=C) (QC.ask (Fn.func (57:FuncId)=Fn.func (57:FuncId)) (QC.ask (0=0) (QC.ask (0=0) (QC.ask ((↑L.n:Int)=(↑L.n:Int)) (QC.ask ((0:Int)=(0:Int)) (QC.ask (x.cell=x.cell) (QC.ask (x.lay.piece=x.lay.piece) (QC.ask (x.lay.turn=x.lay.turn) (QC.ask (L.n<=L.n) (QC.ask (QB (3:Nat) L.n (λi=>QA.enc (L.get i)) λi=>QA.enc (L.get i)) (QC.both (QC.asm (A) (QC.all (λ(g0:Nat -> Value)=>QC.leaf (vi k) ([])))) (QC.asm (B) (QC.all (λ(g1:Nat->Value)=>QC.leaf (vj (-1:Int)) ([]))))))))))))))))):=by kernel_rfl
theorem QeE(k v:Int):QE 24 [(vi k)] ([]) (KR (piU C L x v))=( some [k=v]):=by kernel_rfl
theorem Qbv(v:Int):QE 24 [(vj (-1:Int))] ([]) (KR (piU C L x v))=( some [(-1:Int)=v]):=by kernel_rfl
def XQ:Option Nat:=QU (ZQ L x) L.n 0
def piR(k:Nat)(e:Ex)(J:JSt):Prop:=(e = .ret/\(QU (ZQ L x) (L.n-k) k).isSome=true/\J=Yg (Kj (QU (ZQ L x) (L.n-k) k)))∨(e = .exit 0/\QU (ZQ L x) (L.n-k) k=none/\J=qQ)
theorem QhB(hn:L.n<=1000):J3 (piJ C L x) (λk=>k<=L.n) (λk=>L.n-k) (piR L x) 24 QEy [] (mkE prog QT) (λ_=>hnd (mkE prog QT) 2) (QI f101 0):=by
 refine⟨λk g0 hk=>Qg (QdR C L x k g0) ?_⟩;have hk:k<=L.n:=hk;have hit:∀(h:k<L.n),ZQ L x k=true->piR L x k .ret (Yg k):=λh hs=>.inl ⟨rfl,by rw[(VP h).1 hs];rfl,by rw[(VP h).1 hs];rfl⟩
 refine QF (λb0=>?_) (λb0=>?_);have h:k<L.n:=by have:=qdt b0;omega
 have hf:=VP (p:=ZQ L x) h
 iterate 2 (refine QG ?_ ?_;rotate_left)
 refine QF ?_ ?_<;>intro b1
 .refine⟨_,hit h (by unfold ZQ;rw[b1];rfl),rfl,rfl,_,QXA k k,⟨rfl,trivial⟩⟩
 refine QF ?_ ?_<;>intro b2
 .refine⟨_,hit h (by unfold ZQ;rw[b1,b2];rfl),rfl,rfl,_,QZ9 k k,⟨rfl,trivial⟩⟩
 have hb:ZQ L x k=false:=by unfold ZQ;rw[b1,b2];rfl
 refine⟨k+1,h,by show L.n-(k+1)<L.n-k;omega,λe J h=>by unfold piR at h ⊢;rw[hf.2 hb];exact h,rfl,rfl,_,QYn C L x k (k+1),?_⟩
 rotate_left
 .have h:L.n<=k:=by have:=qdf b0;omega
  exact⟨_,.inr ⟨rfl,by rw[show L.n-k=0 by omega];rfl,rfl⟩,rfl,rfl,_,QVj,trivial⟩
 all_goals first|((with_reducible show _=true);(first|rfl|(simp;omega)))|(repeat' first|with_reducible refine QP ?_ ?_|exact tv|exact qRr|exact VT h hn|refine aI ?_ ?_)
def piX:List (Prop×Ex×JSt):=[((XQ L x).isSome=true,.ret,Yg (Kj (XQ L x))),(XQ L x=none,.exit 0,qQ)]
theorem QW6(hn:L.n<=1000)(G:Ctx)(hrd:G.rd=none)(hG:G.n=24):Qx (mkE prog QT) G (piH prog C L x (piX L x)) (Ql f101):=by
 refine KO (body:=QI f101 0) (QO Qf) hrd (by kernel_rfl) ?_
 refine Vq (n0:=24) (QO Qf) (by omega) (λs hs=>Qw (QO Qf) 2 G _ hrd) (λs hs=>(by decide:24<=24)) ?_ (QhB C L x hn) (s0:=0) (Nat.zero_le _) ?_
 .rintro s e J (⟨_,_,rfl⟩|⟨_,_,rfl⟩)<;>exact(by decide:24<=24)
 .rintro e J (⟨rfl,h,rfl⟩|⟨rfl,h,rfl⟩)
  .exact⟨_,qmc,h,rfl,rfl⟩
  .exact⟨_,List.mem_cons_of_mem _ qmc,h,rfl,rfl⟩
theorem Qc3(v:Int):(piU C L x v).Ok:=⟨(by decide:0<=24),rfl,rfl,λq hq=>(by cases hq),rfl,λ_ _=>rfl,λ_ _=>rfl⟩
theorem Qfz(hn:L.n<=1000):QS prog 101 (uFC (piU C L x (Kj (XQ L x)))):=by
 refine Ky (E:=mkE prog QT) (QO Qf) func101 (by kernel_rfl) (by kernel_rfl) (Qc3 ..) (λG h1 h2=>QW6 C L x hn G h1 (by rw[h2];rfl)) ⟨?_⟩
 have et:=Qeq C L x ((XQ L x).isSome=true) (XQ L x=none) (Kj (XQ L x)) (Kj (XQ L x));refine Qg et ?_;clear et
 iterate 13 refine Qq (by first|exact tv|with_reducible exact qRr|exact rfl) ?_
 refine Kf ?_ ?_;refine Qh λa0=>?_;refine Qj λg0=>?_;refine⟨rfl,rfl,_,QeE C L x (Kj (XQ L x)) (Kj (XQ L x)),?_⟩
 rotate_left
 refine Qh λa1=>?_;refine Qj λg1=>?_
 .refine⟨rfl,rfl,_,Qbv C L x (Kj (XQ L x)),?_⟩;rw[a1]
  repeat' first|exact tv|exact rfl|refine aI ?_ ?_
 all_goals (repeat' first|exact tv|exact rfl|refine aI ?_ ?_)
