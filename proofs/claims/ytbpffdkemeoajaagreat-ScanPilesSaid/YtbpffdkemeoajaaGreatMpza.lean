/- - -/
import Derived.Test.YtbpffdkemeoajaaGreatMpz
open Go.Proofs.Tryz
open Go.IntKind (i64)
set_option maxRecDepth 100000
namespace Go.Proofs.YtbpffdkemeoajaaGreat
open Go.SX
def noH:Int->Bool:=λ_=>false
variable (pb:List Prop->Bool)(f:List QB)(x:QD)(l:List QB)(k:Nat)(moved turned n:Int)
def JV:Int:=i64.wrap (i64.wrap (1*2^min x.d.ps.n 64)-1)
def Kv(U:UC):Tab:=Qh Qu 35 (Jj pb U)
def Gp(C:List (List QB))(U:UC):Tab:=Qh (Kv pb (opO x C)) 80 (Jj pb U)
theorem Qau(e:Int):KI (mkE prog (Kv pb (opE x e))) (hnd (mkE prog (Kv pb (opE x e))) 1) f12 (QW.vals 0 ((x,()):QD×Unit)) (QW.blks 0 ((x,()):QD×Unit)) 8 =
  QE.need (pb ([x.d.pK.length = x.d.pK.length, x.d.pK.aK = x.d.pK.aK, x.d.pK.oK = x.d.pK.oK, x.d.pK.dK.lo = x.d.pK.dK.lo, x.d.pK.dK.hi = x.d.pK.dK.hi, x.d.wide = x.d.wide, x.d.high = x.d.high, x.d.turn = x.d.turn, (0 : Nat) = (0 : Nat), x.d.ps.n = x.d.ps.n, Cap.of (0 : Nat) = Cap.of (0 : Nat), (0 : Nat) = (0 : Nat), x.sK.n = x.sK.n, Cap.of (0 : Nat) = Cap.of (0 : Nat), (0 : Nat) = (0 : Nat), x.hang.n = x.hang.n, Cap.of (0 : Nat) = Cap.of (0 : Nat), x.lost = x.lost, x.fK = x.fK, x.d.ps.n <= x.d.ps.n, QC (28 : Nat) x.d.ps.n (λi=>QA.enc (x.d.ps.get i)) λi=>QA.enc (x.d.ps.get i), x.sK.n <= x.sK.n, QC (28 : Nat) x.sK.n (λi=>QA.enc (x.sK.get i)) λi=>QA.enc (x.sK.get i), x.hang.n <= x.hang.n, QC (4 : Nat) x.hang.n (λi=>QA.enc (x.hang.get i)) λi=>QA.enc (x.hang.get i)])) (QE.br (e != (0 : Int)) (QE.leaf (AV.tup [AV.int true i64 (0 : Int), AV.int true i64 (0 : Int), AV.int false i64 e]) ([])) (QE.need (decide ((0 : Int) <= (↑x.d.ps.n : Int))) (QE.fail ("a call without a contract")))) := by kernel_rfl
theorem QT6(C:List (List QB))(has':Int->Bool)(many' sure' may':Int):KI (mkE prog (Gp pb x C (msU x C (JV x) (QP f41 0).1 (QP f41 0).2 [] noH 0 (JV x) 0 has' many' sure' may'))) (hnd (mkE prog (Gp pb x C (msU x C (JV x) (QP f41 0).1 (QP f41 0).2 [] noH 0 (JV x) 0 has' many' sure' may'))) 8) f12 (QW.vals 0 ((x,()):QD×Unit)) (QW.blks 0 ((x,()):QD×Unit)) 8 = .need (pb (xq x++(xp x))) (.need (decide ((0:Int)<=(x.d.ps.n:Int))) (.need (pb (rz 12++([([]:List MapEntry)=[],GE (vj 0) noH λi=>vi (QJ [] i),LoopState.ready=LoopState.ready,(none:Option Code)=none,Array.mk [12]=Array.mk [12],(QP f41 0).1=(QP f41 0).1,(QP f41 0).2=(QP f41 0).2,0=0,0=0,(0:Int)=0, Fn.func 44=Fn.func 44]++(rz 10++([(0:Int)=0,false=false,0=0,0=0,0=0,0=0,Fn.func 79=Fn.func 79,0=0,0=0,(0:Int)=0,(0:Int)=0,i64.wrap (i64.wrap ((1:Int)*2^min x.d.ps.n 64)-1)=JV x,(0:Int)=0,Fn.func 80=Fn.func 80]++(rz 12++([Fn.func 44=Fn.func 44,0=0,0=0,0=0,0=0,0=0,0=0,i64.wrap (i64.wrap ((1:Int)*2^min x.d.ps.n 64)-1)=JV x]++(xq x++([0=0,C.length=C.length,cO=cO,C.length=C.length, Q1 2 C.length (λi=>(QG C i).length) (λi=>(QG C i).length) (λi j=>QA.enc ((QG C i).getD j ⟨0,0⟩)) λi j=>QA.enc ((QG C i).getD j ⟨0,0⟩)]++(xp x)))))))))) (.br (!decide (many'>0)) (.leaf (.tup [vj 0,vj 0,vj 6]) ([])) (.leaf (.tup [vi sure',vi may',vj 0]) ([]))))):=by kernel_rfl
theorem QSx(e a b c:Int):QI 8 [(AV.tup [vj (0:Int),vj (0:Int),vi e])] ([]) (KY 8 (.tup [vi a,vi b,vi c]) [])=( some [(0:Int)=a,(0:Int)=b,e=c]):=by kernel_rfl
theorem Qgk(a b c:Int):QI 8 [(AV.tup [vj (0:Int),vj (0:Int),vj (6:Int)])] ([]) (KY 8 (.tup [vi a,vi b,vi c]) [])=( some [(0:Int)=a,(0:Int)=b,(6:Int)=c]):=by kernel_rfl
theorem QUq(sure' may' a b c:Int):QI 8 [(AV.tup [vi sure',vi may',vj (0:Int)])] ([]) (KY 8 (.tup [vi a,vi b,vi c]) [])=( some [sure'=a,may'=b,(0:Int)=c]):=by kernel_rfl
theorem Qfh{q:Bool}{l:List QB}{c t:Nat}{y:QB}(h:y∈J3 q l c t):y∈l∨y=⟨c,t⟩:=by
 cases q with
 | true=>simpa[J3]using h
 | false=>exact .inl h
theorem QGQ{d:Puz}{s:QQ}{l:List QB}{c:Nat}{y:QB}:∀{t:Nat},y∈Q0 d s l c t->y∈l∨∃ u,u<t/\y=⟨c,(u:Nat)⟩
 | 0,h => .inl h
 | t+1,h=>by
  simp only[Q0]at h;rcases Qfh h with h|h
  .rcases QGQ h with h|⟨u,h1,h2⟩
   .exact .inl h
   .exact .inr ⟨u,by omega,h2⟩
  .exact .inr ⟨t,by omega,h⟩
theorem zs{d:Puz}{s:QQ}{y:QB}:∀{c:Nat},y∈Qy d s c->∃ k u:Nat,k<c/\u<4/\y=⟨(k:Nat),(u:Nat)⟩
 | 0,h=>by cases h
 | c+1,h=>by
  simp only[Qy]at h;rcases QGQ h with h|⟨u,h1,h2⟩
  .obtain⟨k,u,a,b,e⟩:=zs h;exact⟨k,u,by omega,b,e⟩
  .exact⟨c,u,by omega,h1,h2⟩
theorem QWa{x:QD}(hn:x.d.ps.n<=9){k:Nat}{y:QB}(h:y∈K3 x k):K8 y:=by
 simp only[K3,List.mem_cons]at h;rcases h with rfl|h
 .exact⟨.inl rfl,by decide⟩
 .obtain⟨c,u,h1,h2,rfl⟩:=zs h;exact⟨.inr ⟨by simp only;omega,by simp only;omega⟩,by simp only;omega,by simp only;omega⟩
theorem Y3{x:QD}:∀{k i:Nat},i<k->QG (Qn x k) i=K3 x i
 | k+1,i,h=>by
  rw[Qn,QH6,YJ]
  by_cases e:i<k
  .rw[if_pos e];exact Y3 e
  .have:i=k:=by omega
   subst this;rw[if_neg e,if_pos rfl]
theorem j4{C:List (List QB)}{i:Nat}(h:C.length<=i):QG C i=[]:=by
 unfold QG;rw[List.getD_eq_getElem?_getD,List.getElem?_eq_none h];rfl
theorem QDM{x:QD}(hn:x.d.ps.n<=9):YH x (Qn x x.sK.n):=by
 refine⟨YJ _ _,λi=>?_,λi c hc=>?_⟩
 .by_cases h:i<x.sK.n
  .rw[Y3 h];have:=Z9 x.d (x.sK.get i) x.d.ps.n;simp only[K3,List.length_cons];omega
  .rw[j4 (by rw[YJ];omega)];simp
 .by_cases h:i<x.sK.n
  .rw[Y3 h]at hc;exact QWa hn hc
  .rw[j4 (by rw[YJ];omega)]at hc;cases hc
theorem QAo(b:Bool):GE (.int b .i64 0) noH (Yn []):=⟨rfl,λ_=>rfl,λ_=>⟨λ_=>rfl,rfl⟩⟩
def miS:Res MsS:=onT x (Qn x x.sK.n) (msY (JV x)) x.sK.n [] (0,JV x,0) noH
def miV:Int×Int×Int:=match x.ok with
 | false=>(0,0,1)
 | true=>match Ky x with
  | true=>(0,0,11)
  | false=>match miS x with
   | .stop _ _=>(0,0,6)
   | .go s _=>match decide (s.1>0)with
    | true=>(s.2.1,s.2.2,0)
    | false=>(0,0,6)
def miF:WF (QD×Unit):=λ|(x,_)=>(decide (x.d.ps.n<=1000/\x.sK.n<=1000/\x.hang.n<=1000),.tup [vi (miV x).1,vi (miV x).2.1,vi (miV x).2.2],[])
def miC:FC:=wFC miF
theorem QPK(e:Int)(ht:QO prog 35 (uFC (opE x e)))(he:e≠0)(hv:miV x=(0,0,e)):QO prog 12 (wFC (JN miF (x,()))):=by
 have hT:QZ (Kv QV (opE x e)):=KC.add ht;refine Vt (c:=Qi f12) (E:=mkE prog (Kv QV (opE x e))) (H:=hnd (mkE prog (Kv QV (opE x e))) 1) (QL hT) func12 (by kernel_rfl) (by kernel_rfl) (N:=8) (by decide) (x,()) (λG h1 _=>Qw (QL hT) 1 G _ h1) ⟨rfl,by simp[miF],rfl⟩ ?_
 refine Qp (Qau QV x e) ?_;refine QF (KP.2 ?_) (QH (λ_=>?_) (λh=>by simp at h;exact absurd h he))
 .repeat' first|with_reducible refine QK ?_ ?_|exact tv|refine aI ?_ ?_
 .refine⟨rfl,rfl,_,QSx e (miV x).1 (miV x).2.1 (miV x).2.2,?_⟩;rw[hv];exact⟨rfl,rfl,rfl,trivial⟩
theorem QgM(hs:XZ x)(hx:x.ok=true)(hr:Ky x=false):QO prog 12 (wFC (JN miF (x,()))):=by
 have hg:=Jo hx;have hC:=QDM (x:=x) hg.d.n9;obtain⟨s,h,he⟩:=Z8 (C:=Qn x x.sK.n) (x:=x) (Y:=msY (JV x)) (λ_ _=>rfl) x.sK.n [] (0,JV x,0) noH;have hon:=QOK hg hC (JV x) x.sK.n [] (0,JV x,0) noH (by simp) (λc hc=>by cases hc)
 rw[he]at hon;have hT:QZ (Gp QV x (Qn x x.sK.n) (msU x (Qn x x.sK.n) (JV x) ZD Y8 [] noH 0 (JV x) 0 h s.1 s.2.1 s.2.2)):=(KC.add (qx x hs hx hr)).add hon
 have hv:miV x=match decide (s.1>0)with
   | true=>(s.2.1,s.2.2,0)
   | false=>(0,0,6):=by
  simp only[miV,hx,hr,miS,he]
 refine Vt (c:=Qi f12) (E:=mkE prog (Gp QV x (Qn x x.sK.n) (msU x (Qn x x.sK.n) (JV x) ZD Y8 [] noH 0 (JV x) 0 h s.1 s.2.1 s.2.2))) (H:=hnd (mkE prog (Gp QV x (Qn x x.sK.n) (msU x (Qn x x.sK.n) (JV x) ZD Y8 [] noH 0 (JV x) 0 h s.1 s.2.1 s.2.2))) 8) (QL hT) func12 (by kernel_rfl) (by kernel_rfl) (N:=8) (by decide) (x,()) (λG h1 _=>Qw (QL hT) 8 G _ h1) ⟨rfl,by simp[miF],rfl⟩ ?_
 refine Qp (QT6 QV x (Qn x x.sK.n) h s.1 s.2.1 s.2.2) ?_;refine QF (KP.2 ?_) (QF (by simp) (QF (KP.2 ?_) (QH (λq=>?_) (λq=>?_))))
 .repeat' first|with_reducible refine QK ?_ ?_|exact trivial|with_reducible rfl|exact qlr _|exact qRr|exact QS _ _ _ _|refine aI ?_ ?_
 .repeat' first|with_reducible refine QK ?_ ?_|exact trivial|with_reducible rfl|exact qlr _|exact qRr|exact QS _ _ _ _|exact QAo _|exact(show _=JV _ from rfl)|refine aI ?_ ?_
 .have q:decide (s.1>0)=false:=by simpa using q
  refine⟨rfl,rfl,_,Qgk (miV x).1 (miV x).2.1 (miV x).2.2,?_⟩;rw[hv,q];exact⟨rfl,rfl,rfl,trivial⟩
 .have q:decide (s.1>0)=true:=by simpa using q
  refine⟨rfl,rfl,_,QUq s.2.1 s.2.2 (miV x).1 (miV x).2.1 (miV x).2.2,?_⟩;rw[hv,q];exact⟨rfl,rfl,rfl,trivial⟩
theorem QY1(hx:(miF (x,())).1=true):QO prog 12 (wFC (JN miF (x,()))):=by
 obtain⟨h1,h2,h3⟩:=qdt hx;have hs:XZ x:=⟨h1,h2,h3⟩;cases ho:x.ok with
 | false=>exact QPK x 1 (QDa x hs ho) (by decide) (by simp only[miV,ho])
 | true=>cases hr:Ky x with
  | true=>exact QPK x 11 (QCo x hs ho hr) (by decide) (by simp only[miV,ho,hr])
  | false=>exact QgM x hs ho hr
theorem Qd0:QO prog 12 miC:=WL (by kernel_rfl) λ|(x,()),hx=>QY1 x hx
theorem QMZ{σ:Type}{G:σ->Prop}{f:σ->(Int->Bool)->QB->Res σ}(hf:∀ s h c s' h',G s->f s h c = .go s' h'->G s'):∀(l:List QB) (s:σ) (h:Int->Bool) {s':σ} {h':Int->Bool},G s->J2 f l s h = .go s' h'->G s'
 | [],s,h,s',h',hg,e=>by cases e;exact hg
 | c::l,s,h,s',h',hg,e=>by
  rw[J2]at e;split at e
  .rename_i s1 h1 e1;exact QMZ hf l s1 h1 (hf _ _ _ _ _ hg e1) e
  .cases e
theorem QBI{σ:Type}{x:QD}{C:List (List QB)}{Y:σ->List QB->σ×Bool}{G:σ->Prop}(hY:∀ s l,G s->l.length=x.sK.n->G (Y s l).1):∀(d:Nat) (l:List QB) (s:σ) (h:Int->Bool) {s':σ} {h':Int->Bool},l.length+d=x.sK.n->G s->onT x C Y d l s h = .go s' h'->G s'
 | 0,l,s,h,s',h',hn,hg,e=>by
  rw[onT,J4]at e;split at e
  .cases e;exact hg
  .have hy:=hY s l hg (by omega)
   split at e
   .rename_i e1;rw[e1]at hy;cases e;exact hy
   .cases e
 | d+1,l,s,h,s',h',hn,hg,e=>by
  rw[onT]at e;refine QMZ (G:=G) (λs h c s' h' hg e=>?_) _ s h hg e;unfold Ki at e;split at e
  .cases e;exact hg
  .split at e
   .cases e;exact hg
   .split at e
    .rename_i e1;cases e;exact QBI hY d (l++[c]) s _ (by simp;omega) hg e1
    .cases e
def clU:UC:=⟨0,⟨1,[(0,.slz 5 0 l.length (.of 0))],[frS 5 l],8⟩,λm=>.slz m 0 l.length (.of 0),λm=>[rwL m l]⟩
theorem QVM:Js (mkE prog Qu) (hnd (mkE prog Qu) 1) f43 (clU l)=QE.need (decide ((0:Nat)<l.length/\l.length<=l.length)) (QE.need (true&&(decide (l.length<=l.length)&&decide (((0:Nat)+l.length+((0:Nat)+l.length) / (4:Nat)+(192:Nat))*(16:Nat)<=(281474976710656:Nat)/\(0:Nat)+l.length<=(9223372036854775807:Nat)))) (QE.leaf (AV.slz (48:Nat) (0:Nat) ((0:Nat)+l.length) cO) ([((48:Nat),Blk.rowz true (80:Nat) [CK.int i64,CK.int i64] ((0:Nat)+l.length) (Qa (0:Nat) (λx x_1=>(0:Int)) λi=>QA.enc (l.getD i (QB.mk (0:Int) (0:Int)))))]))):=by kernel_rfl
theorem QTs(n:Nat)(g:Nat->Nat->Int)(l:List QB):QI 8 [.slz 48 0 n cO] [(48,.rowz true 80 kB n g)] (Kb (clU l))=( some [0=0,n=l.length,cO=cO,l.length<=n,QC (2:Nat) l.length g λi=>QA.enc (l.getD i (QB.mk (0:Int) (0:Int)))]):=by kernel_rfl
theorem QbU(m n:Nat)(f g:Nat->Nat->Int):QC m n (Qa 0 f g) g:=by
 intro i hi;have:Qa 0 f g i=g i:=by funext j;rw[Vb,if_neg (Nat.not_lt_zero i),Nat.sub_zero]
 rw[this];exact XC _ _ _
theorem QdX:(clU l).Ok:=by
 refine⟨(by decide:0<=8),rfl,rfl,?_,rfl,λnid h=>?_,λnid h=>?_⟩
 .intro q hq;simp only[UC.po,clU,rwL,List.mem_cons,List.not_mem_nil,or_false]at hq;subst hq;exact⟨rfl,rfl,rfl,λh=>absurd (show 8<0 from h) (by decide)⟩
 .have e0:=YU 0 8 0 nid (by decide)
  simp only[UC.va,clU,AV.mapId,Nat.add_zero]at e0 ⊢;rw[e0]
 .have e0:=YU 0 8 0 nid (by decide)
  simp only[UC.po,clU,rwL,List.map_cons,List.map_nil,Blk.mapId,Nat.add_zero]at e0 ⊢;rw[e0]
theorem QNY(hp:0<l.length)(hl:l.length<=1000):QO prog 43 (uFC (clU l)):=by
 refine JT (c:=Qi f43) (E:=mkE prog Qu) (QL KC) func43 (by kernel_rfl) (by kernel_rfl) (QdX l) (λG h1 _=>Qw (QL KC) 1 G _ h1) ⟨?_⟩
 refine Qp (QVM l) ?_;refine QF (by simp;omega) (QF (by simp;omega) ⟨rfl,rfl,_,QTs _ _ l,?_⟩)
 repeat' first|with_reducible refine QK ?_ ?_|exact tv|exact Nat.zero_add _|exact QbU _ _ _ _|omega|refine aI ?_ ?_
def tmS(b:Nat)(f:List QB)(moved turned:Int):List (Nat×Blk):=[(120,.cells 0 38 [.slz b 0 f.length (.of 0)]),rwL b f,(112,.cells 0 91 [vi moved]),(104,.cells 0 91 [vi turned])]
def tmB(b:Nat)(l f:List QB)(moved turned:Int):List (Nat×Blk):=(200,.frz kB l.length λi=>QA.enc (l.getD i ⟨0,0⟩))::tmS b f moved turned
def tmJ(l f:List QB)(n moved turned:Int)(k:Nat):JSt:=⟨44,[(0,.int false .i64 n),(2,.ptr 120 0 0),(3,.ptr 112 0 0),(4,.ptr 104 0 0),(14,.slz 200 0 l.length (.of 0)),(15,.int false .i64 l.length),(16,.int false .i64 k)],tmB 232 l f moved turned,288⟩
def tmE(n moved turned:Int):JSt:=⟨44,[(0,.int false .i64 n)],tmS 232 f moved turned,288⟩
def QOV:Ex->List Nat
 | .normal=>[0,2,3,4,14,15,16]
 | .exit _=>[0]
 | .ret=>[]
def QI2:List Nat:=[120,112,104]
noncomputable abbrev QDm(l:List QB)(n:Int):List AV:=
  [.nilp,.ptr 44 0 0,vi n,.ptr 120 0 0,.ptr 112 0 0,.ptr 104 0 0,.slz 200 0 l.length cO,vi (l.length:Int),vi (i64.wrap
  ((k:Int)+1))]
noncomputable abbrev WB:Nat×Blk:=
  (120,.cells 0 38 [.slz 232 0 f.length cO])
noncomputable abbrev QFU:Int:=
  (↑(BitVec.ofInt 64 moved ||| BitVec.ofInt 64 (i64.wrap ((1:Int)*2^min k 64))).toNat:Int)
noncomputable abbrev QBz:Nat×Blk:=
  (112,.cells 0 91 [vi (i64.wrap (QFU k moved))])
noncomputable abbrev QIf:Int:=
  (↑(BitVec.ofInt 64 turned ||| BitVec.ofInt 64 (i64.wrap ((1:Int)*2^min k 64))).toNat:Int)
noncomputable abbrev QDt:Nat×Blk:=
  (104,.cells 0 91 [vi (i64.wrap (QIf k turned))])
noncomputable abbrev W8:Nat×Blk:=
  (200,.frz kB l.length λi=>QA.enc (l.getD i ⟨0,0⟩))
noncomputable abbrev We:Nat×Blk:=
  (232,.rowz true 80 kB f.length λi=>QA.enc (f.getD i ⟨0,0⟩))
noncomputable abbrev Ho:Nat×Blk:=
  (104,.cells 0 91 [vi turned])
noncomputable abbrev HA:Nat×Blk:=
  (112,.cells 0 91 [vi moved])
theorem QZc(l f:List QB)(n moved turned:Int)(k:Nat)(g:Nat->Value):exec (mkE prog Qu) (hnd (mkE prog Qu) 3) (QT f42 0) (JSt.inst (tmJ l f n moved turned k) g) (KG QI2 QOV) = .br (decide ((k:Int)<(l.length:Int))) (.need (decide ((0:Int)<=(k:Int)/\(k:Int)<(l.length:Int))&&decide (l.length<=l.length)) (.need (decide (k<l.length)) (.need (decide ((0:Int)<=(k:Int)/\(k:Int)<(f.length:Int))&&decide (f.length<=f.length)) (.need (decide (k<f.length)) (.br ((l.getD k ⟨0,0⟩).cell != (f.getD k ⟨0,0⟩).cell) (.need (decide ((0:Int)<=(k:Int))) (.need (decide ((0:Int)<=(k:Int)/\(k:Int)<(f.length:Int))&&decide (f.length<=f.length)) (.need (decide (k<f.length)) (.br (!((l.getD k ⟨0,0⟩).cell==(f.getD k ⟨0,0⟩).cell&&((l.getD k ⟨0,0⟩).turn==(f.getD k ⟨0,0⟩).turn&&true))) (.need (decide ((0:Int)<=(k:Int))) (.leaf (.tup (QDm k l n)) ([(WB f),(QBz k moved), (QDt k turned),(W8 l),(We f)]))) (.leaf (.tup (QDm k l n)) ([(WB f),(QBz k moved),(Ho turned),(W8 l),(We f)])))))) (.need (decide ((0:Int)<=(k:Int)/\(k:Int)<(f.length:Int))&&decide (f.length<=f.length)) (.need (decide (k<f.length)) (.br (!((l.getD k ⟨0,0⟩).cell==(f.getD k ⟨0,0⟩).cell&&((l.getD k ⟨0,0⟩).turn==(f.getD k ⟨0,0⟩).turn&&true))) (.need (decide ((0:Int)<=(k:Int))) (.leaf (.tup (QDm k l n)) ([(WB f),(HA moved),(QDt k turned),(W8 l),(We f)]))) (.leaf (.tup (QDm k l n)) ([(WB f),(HA moved),(Ho turned),(W8 l),(We f)])))))))))) (.leaf (.tup [.ptr 0 0 0,.ptr 44 0 0,vi n]) ([(WB f),(HA moved),(Ho turned),(We f)])):=by kernel_rfl
noncomputable abbrev QDR(l:List QB)(n:Int):List AV:=
  [vi n,.ptr 120 0 0,.ptr 112 0 0,.ptr 104 0 0,.slz 200 0 l.length cO,vi (l.length:Int),vi (i64.wrap ((k:Int)+1))]
abbrev QDS(k':Nat)(l:List QB):List Prop:=
  [0=0,0=0,0=0,0=0,0=0,l.length=l.length,cO=cO,(l.length:Int)=(l.length:Int),i64.wrap ((k:Int)+1)=(k':Int),l.length <=
  l.length,QC 2 l.length (λi=>QA.enc (l.getD i ⟨0,0⟩)) λi=>QA.enc (l.getD i ⟨0,0⟩),0=0,f.length=f.length,cO=cO,f.length<=f.length,QC 2
  f.length (λi=>QA.enc (f.getD i ⟨0,0⟩)) λi=>QA.enc (f.getD i ⟨0,0⟩)]
theorem Qfb(l f:List QB)(n moved turned moved' turned':Int)(k k':Nat):QI 216 (QDR k l n) ([(WB f),(QBz k moved),(QDt k turned),(W8 l),(We f)]) (tmJ l f n moved' turned' k')=(some ([n=n,0=0,0=0]++(QDS f k k' l) ++ [i64.wrap (QFU k moved)=moved',i64.wrap (QIf k turned)=turned'])):=by kernel_rfl
theorem Qcp(l f:List QB)(n moved turned moved' turned':Int)(k k':Nat):QI 216 (QDR k l n) ([(WB f),(QBz k moved),(Ho turned),(W8 l),(We f)]) (tmJ l f n moved' turned' k')=(some ([n=n,0=0,0=0]++(QDS f k k' l) ++ [i64.wrap (QFU k moved)=moved',turned=turned'])):=by kernel_rfl
theorem QbD(l f:List QB)(n moved turned moved' turned':Int)(k k':Nat):QI 216 (QDR k l n) ([(WB f),(HA moved),(QDt k turned),(W8 l),(We f)]) (tmJ l f n moved' turned' k')=(some ([n=n,0=0,0=0]++(QDS f k k' l)++[moved=moved',i64.wrap (QIf k turned)=turned'])):=by kernel_rfl
theorem QdI(l f:List QB)(n moved turned moved' turned':Int)(k k':Nat):QI 216 (QDR k l n) ([(WB f),(HA moved),(Ho turned),(W8 l),(We f)]) (tmJ l f n moved' turned' k')=(some ([n=n,0=0,0=0]++(QDS f k k' l)++[moved=moved',turned=turned'])):=by kernel_rfl
theorem QYJ(n moved turned moved' turned':Int):QI 216 [vi n] ([((120:Nat),Blk.cells (0:Nat) (38:Nat) [AV.slz (232:Nat) (0:Nat) f.length cO]),((112:Nat),Blk.cells (0:Nat) (91:Nat) [vi moved]),((104:Nat),Blk.cells (0:Nat) (91:Nat) [vi turned]),((232:Nat),Blk.rowz true (80:Nat) [CK.int i64,CK.int i64] f.length λi=>QA.enc (f.getD i (QB.mk (0:Int) (0:Int))))]) (tmE f n moved' turned')=( some [n=n,0=0,f.length=f.length,cO=cO,f.length<=f.length,QC (2:Nat) f.length (λi=>QA.enc (f.getD i (QB.mk (0:Int) (0:Int)))) λi=>QA.enc (f.getD i (QB.mk (0:Int) (0:Int))),moved=moved',turned=turned']):=by kernel_rfl
def Xo(l f:List QB)(k:Nat):Bool := !((l.getD k ⟨0,0⟩).cell==(f.getD k ⟨0,0⟩).cell&&((l.getD k ⟨0,0⟩).turn==(f.getD k ⟨0,0⟩).turn&&true))
def mvL(l f:List QB)(m:Int):Nat->Int
 | 0=>m
 | k+1=>match (l.getD k ⟨0,0⟩).cell != (f.getD k ⟨0,0⟩).cell with
  | true=>Vl (mvL l f m k) k
  | false=>mvL l f m k
def tuL(l f:List QB)(m:Int):Nat->Int
 | 0=>m
 | k+1=>match Xo l f k with
  | true=>Vl (tuL l f m k) k
  | false=>tuL l f m k
theorem QZn(l f:List QB)(n moved turned:Int)(hl:l.length<=1000)(hf:l.length<=f.length):Kk (λk=>tmJ l f n (mvL l f moved k) (tuL l f turned k) k) (λk=>k<=l.length) (λk=>l.length-k) (λ_ e J=>e = .exit 0/\J=tmE f n (mvL l f moved l.length) (tuL l f turned l.length)) 216 QOV QI2 (mkE prog Qu) (λ_=>hnd (mkE prog Qu) 3) (QT f42 0):=by
 refine⟨λk g hk=>Qp (QZc l f n (mvL l f moved k) (tuL l f turned k) k g) ?_⟩;refine QH ?_ ?_<;>intro h
 .have h:k<l.length:=by have:=qdt h;omega
  have hw:=KW h hl;refine QF (by simp;omega) (QF (by simp;omega) (QF (by simp;omega) (QF (by simp;omega) (QH (λhc=>?_) (λhc=>?_)))))
  .refine QF (by simp) (QF (by simp;omega) (QF (by simp;omega) (QH (λhd=>QF (by simp) ?_) (λhd=>?_))))
   .refine⟨k+1,h,by show l.length-(k+1)<l.length-k;omega,λ_ _ h=>h,rfl,rfl,_,Qfb l f n (mvL l f moved k) (tuL l f turned k) (mvL l f moved (k+1)) (tuL l f turned (k+1)) k (k+1),?_⟩
    have e1:Vl (mvL l f moved k) k=mvL l f moved (k+1):=by simp only[mvL,hc]
    have e2:Vl (tuL l f turned k) k=tuL l f turned (k+1):=by simp only[tuL,Xo,hd]
    repeat' first|with_reducible refine QK ?_ ?_|exact tv|exact hw|exact e1|exact e2|refine aI ?_ ?_
   .refine⟨k+1,h,by show l.length-(k+1)<l.length-k;omega,λ_ _ h=>h,rfl,rfl,_,Qcp l f n (mvL l f moved k) (tuL l f turned k) (mvL l f moved (k+1)) (tuL l f turned (k+1)) k (k+1),?_⟩
    have e1:Vl (mvL l f moved k) k=mvL l f moved (k+1):=by simp only[mvL,hc]
    have e2:tuL l f turned k=tuL l f turned (k+1):=by simp only[tuL,Xo,hd]
    repeat' first|with_reducible refine QK ?_ ?_|exact tv|exact hw|exact e1|exact e2|refine aI ?_ ?_
  .refine QF (by simp;omega) (QF (by simp;omega) (QH (λhd=>QF (by simp) ?_) (λhd=>?_)))
   .refine⟨k+1,h,by show l.length-(k+1)<l.length-k;omega,λ_ _ h=>h,rfl,rfl,_,QbD l f n (mvL l f moved k) (tuL l f turned k) (mvL l f moved (k+1)) (tuL l f turned (k+1)) k (k+1),?_⟩
    have e1:mvL l f moved k=mvL l f moved (k+1):=by simp only[mvL,hc]
    have e2:Vl (tuL l f turned k) k=tuL l f turned (k+1):=by simp only[tuL,Xo,hd]
    repeat' first|with_reducible refine QK ?_ ?_|exact tv|exact hw|exact e1|exact e2|refine aI ?_ ?_
   .refine⟨k+1,h,by show l.length-(k+1)<l.length-k;omega,λ_ _ h=>h,rfl,rfl,_,QdI l f n (mvL l f moved k) (tuL l f turned k) (mvL l f moved (k+1)) (tuL l f turned (k+1)) k (k+1),?_⟩
    have e1:mvL l f moved k=mvL l f moved (k+1):=by simp only[mvL,hc]
    have e2:tuL l f turned k=tuL l f turned (k+1):=by simp only[tuL,Xo,hd]
    repeat' first|with_reducible refine QK ?_ ?_|exact tv|exact hw|exact e1|exact e2|refine aI ?_ ?_
 .have:k=l.length:=by have:=qdf h;omega
  subst this;refine⟨_,⟨rfl,rfl⟩,rfl,rfl,_,QYJ f n (mvL l f moved l.length) (tuL l f turned l.length) _ _,?_⟩
  repeat' first|with_reducible refine QK ?_ ?_|exact tv|refine aI ?_ ?_
def QEM:Tab:=Qh Qu 43 (Jj pb (clU l))
abbrev tmH(P:Program)(T:Tab)(l f:List QB)(n moved turned moved' turned':Int):Hnd:={ hnd (mkE P T) 1 with loop:=λ_=>Q4 216 QI2 (tmJ l f n moved turned (0:Nat)) [(True,.exit 0,tmE f n moved' turned')] }
theorem QbO{T:Tab}(hT:QZ T)(l f:List QB)(n moved turned:Int)(hl:l.length<=1000)(hf:l.length<=f.length)(G:Ctx)(hrd:G.rd=none)(hG:G.n=216):Q8 (mkE prog T) G (tmH prog T l f n moved turned (mvL l f moved l.length) (tuL l f turned l.length)) (Qi f42):=by
 refine Kg (body:=QT f42 0) (QL hT) hrd (by kernel_rfl) ?_
 refine YG (E:=mkE prog Qu) rfl (Kr (n0:=216) (QL KC) (by omega) (λs hs=>Qw (QL KC) 3 G _ hrd) (λs hs=>(by decide:216<=288)) ?_ (QZn l f n moved turned hl hf) (s0:=0) (Nat.zero_le _) ?_)
 .rintro s e J ⟨_,rfl⟩;exact(by decide:216<=288)
 .rintro e J ⟨rfl,rfl⟩;exact⟨_,qmc,trivial,rfl,rfl⟩
def tmU(l f:List QB)(n moved turned:Int)(f2:List QB)(moved' turned':Int):UC:=⟨128,⟨5,[(0,.int false .i64 n),(1,.slz 200 0 l.length (.of 0)),(2,.ptr 120 0 0),(3,.ptr 112 0 0),(4,.ptr 104 0 0)],tmB 208 l f moved turned,216⟩,λ_=>.int false .i64 (i64.wrap (n+1)),λm=>tmS m f2 moved' turned'⟩
noncomputable abbrev QQh(f2:List QB)(moved':Int)(turned':Int):List (Nat×Blk):=
  [(120,.cells 0 38 [.slz 232 0 f2.length cO]),(112,.cells 0 91 [vi moved']),(104,.cells 0 91 [vi turned']),(232,.rowz true 80 kB f2.length λi=>QA.enc (f2.getD i ⟨0,0⟩))]
theorem QVU(l f f2:List QB)(n moved turned moved' turned':Int):Js (mkE prog (QEM pb l)) (tmH prog (QEM pb l) l f2 n moved turned moved' turned') f42 (tmU l f n moved turned f2 moved' turned') = .br (n==0) (.need (pb ([0=0,l.length=l.length,cO=cO,l.length<=l.length,QC 2 l.length (λi=>QA.enc (l.getD i ⟨0,0⟩)) λi=>QA.enc (l.getD i ⟨0,0⟩)])) (.ak [n=n,0=0,0=0,0=0,0=0,0=0,0=0,0=0,l.length=l.length,cO=cO,(l.length:Int)=(l.length:Int),(0:Int)=0,l.length<=l.length,QC 2 l.length (λi=>QA.enc (l.getD i ⟨0,0⟩)) λi=>QA.enc (l.getD i ⟨0,0⟩),0=0,l.length=f2.length,cO=cO,f2.length<=l.length,QC 2 f2.length (λi=>QA.enc (l.getD i ⟨0,0⟩)) λi=>QA.enc (f2.getD i ⟨0,0⟩),moved=moved,turned=turned] (.asm (True) (.all (λ(g0:Nat->Value)=>.leaf (vi (i64.wrap (n+1))) ((QQh f2 moved' turned'))))))) (.ak [n=n,0=0,0=0,0=0,0=0,0=0,0=0,0=0,l.length=l.length,cO=cO,(l.length:Int)=(l.length:Int),(0:Int)=0,l.length<=l.length,QC 2 l.length (λi=>QA.enc (l.getD i ⟨0,0⟩)) λi=>QA.enc (l.getD i ⟨0,0⟩),0=0,f.length=f2.length,cO=cO,f2.length<=f.length,QC 2 f2.length (λi=>QA.enc (f.getD i ⟨0,0⟩)) λi=>QA.enc (f2.getD i ⟨0,0⟩),moved=moved,turned=turned] (.asm (True) (.all (λ(g1:Nat->Value)=>.leaf (vi (i64.wrap (n+1))) ((QQh f2 moved' turned')))))):=by kernel_rfl
theorem QN9(f2:List QB)(l f:List QB)(n moved turned moved' turned':Int):QI 216 [(vi (i64.wrap (n+(1:Int))))] ([((120:Nat),Blk.cells (0:Nat) (38:Nat) [AV.slz (232:Nat) (0:Nat) f2.length cO]),((112:Nat),Blk.cells (0:Nat) (91:Nat) [vi moved']),((104:Nat),Blk.cells (0:Nat) (91:Nat) [vi turned']),((232:Nat),Blk.rowz true (80:Nat) [CK.int i64,CK.int i64] f2.length λi=>QA.enc (f2.getD i (QB.mk (0:Int) (0:Int))))]) (Kb (tmU l f n moved turned f2 moved' turned'))=( some [i64.wrap (n+(1:Int))=i64.wrap (n+(1:Int)),0=0,f2.length=f2.length,cO=cO,f2.length<=f2.length, QC (2:Nat) f2.length (λi=>QA.enc (f2.getD i (QB.mk (0:Int) (0:Int)))) λi=>QA.enc (f2.getD i (QB.mk (0:Int) (0:Int))),moved'=moved',turned'=turned']):=by kernel_rfl
theorem Qa5(l f:List QB)(n moved turned:Int)(f2:List QB)(moved' turned':Int):(tmU l f n moved turned f2 moved' turned').Ok:=by
 refine⟨(by decide:128<=216),rfl,rfl,?_,rfl,λ_ _=>rfl,λnid h=>?_⟩
 .intro q hq;simp only[UC.po,tmU,tmS,rwL,List.mem_cons,List.not_mem_nil,or_false]at hq;rcases hq with rfl|rfl|rfl|rfl<;>refine⟨rfl,rfl,rfl,?_⟩<;>first|exact λ_=>rfl|exact λh=>absurd (show 216<128 from h) (by decide)
 .have e0:=YU 128 216 0 nid (by decide)
  simp only[UC.po,tmU,tmS,rwL,List.map_cons,List.map_nil,Blk.mapId,AV.mapId,AV.mapIdL,Nat.add_zero]at e0 ⊢;rw[e0];rfl
def KQ(l f:List QB):List QB:=match n==0 with
 | true=>l
 | false=>f
theorem Qbv(l f:List QB)(n moved turned:Int)(hp:0<l.length)(hl:l.length<=1000)(hf:(n==0)=false->f.length=l.length):QO prog 42 (uFC (tmU l f n moved turned (KQ n l f) (mvL l (KQ n l f) moved l.length) (tuL l (KQ n l f) turned l.length))):=by
 have hT:QZ (QEM QV l):=KC.add (QNY l hp hl)
 have hf2:l.length<=(KQ n l f).length:=by
  unfold KQ;split
  .exact qlr _
  .rename_i h;rw[hf h];exact qlr _
 have h1:(n==0)=true->KQ n l f=l:=λh=>by unfold KQ;rw[h]
 have h2:(n==0)=false->KQ n l f=f:=λh=>by unfold KQ;rw[h]
 refine JT (E:=mkE prog (QEM QV l)) (QL hT) func42 (by kernel_rfl) (by kernel_rfl) (Qa5 ..) (QbO hT l (KQ n l f) n moved turned hl hf2) ⟨?_⟩
 generalize KQ n l f=f2 at h1 h2;refine Qp (QVU QV l f f2 n moved turned _ _) ?_;refine QH (λh=>QF (KP.2 ?_) ?_) (λh=>?_)
 .repeat' first|with_reducible refine QK ?_ ?_|exact tv|refine aI ?_ ?_
 .obtain rfl:=h1 h
  repeat' first|refine QX (p:=_=_) rfl ?_|refine QX (p:=_<=_) (qlr _) ?_|refine QX (p:=QC _ _ _ _) (qRr) ?_
  refine KB λ_=>Q7 λg=>⟨rfl,rfl,_,QN9 f2 f2 f n moved turned _ _,?_⟩
  repeat' first|with_reducible refine QK ?_ ?_|exact tv|refine aI ?_ ?_
 .obtain rfl:=h2 h
  repeat' first|refine QX (p:=_=_) rfl ?_|refine QX (p:=_<=_) (qlr _) ?_|refine QX (p:=QC _ _ _ _) (qRr) ?_
  refine KB λ_=>Q7 λg=>⟨rfl,rfl,_,QN9 f2 l f2 n moved turned _ _,?_⟩
  repeat' first|with_reducible refine QK ?_ ?_|exact tv|refine aI ?_ ?_
