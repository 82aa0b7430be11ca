/- - -/
import Derived.Test.YtekbmehgcofnkaaGreatKzm
import Derived.Test.YtekbmehgcofnkaaGreatKze
import Derived.Test.YtekbmehgcofnkaaGreatKzb
import Derived.Test.YtekbmehgcofnkaaGreatKzj
import Derived.Test.YtekbmehgcofnkaaGreatKzg
set_option linter.all false
open Go.Proofs.Tryz
open Go.IntKind (i64)
set_option maxRecDepth 100000
namespace Go.Proofs.YtekbmehgcofnkaaGreat
open Go.SX Go.SX.Told
def q7(pb:List Prop->Bool)(d:Puz)(E:ECt):Tab:=Qa (Qa QRd 106 QNs) 60 (KE pb (nbU d E))
def QCM(f:List Tw)(e:Int):AV := .tup [.slz 0 0 f.length (.of 0),.int false .i64 e]
def QAF(f:List Tw):List (Nat×Blk):=[rwT 0 f]
abbrev QIP(P:Program)(pb:List Prop->Bool)(d:Puz)(E:ECt)(o:List Tw):Hnd:={ hnd (mkE P (q7 pb d E)) 8 with loop:=λ_=>Kr (d.ok=true) (QEY 376 jh (toJ d E (0:Nat) (0:Nat) []) [(True,.exit 0,(toF o).dfrs 368)]) }
variable (d:Puz)(E:ECt)
abbrev QR3:List Prop:=
  (waa d++([cO=cO]++wad d))
theorem Qcs(pb:List Prop->Bool)(d:Puz)(E:ECt)(o:List Tw):Kl (mkE prog (q7 pb d E)) (QIP prog pb d E o) f21 (Qd.vals 0 ((d,()):Puz×Unit)) (Qd.blks 0 ((d,()):Puz×Unit)) 112 = .need (decide (d.ps.n<=d.ps.n)&&true&&decide (d.ps.n<=1000)) (.br (!d.ok) (.leaf (.tup [.nils,vj 1]) ([])) (.need (pb ((QR3 d))) (.need (pb ((QR3 d))) (.ak [d.ok=true] (.ak (rz 8) (.ak ([(d.ps.n:Int)=(d.ps.n:Int),(0:Int)=0]++waa d++[cO=cO,0=0,E.1=E.1,E.2=E.2,0=0]++waa d++[cO=cO,0=0,E.1=E.1,E.2=E.2,0=0,0=0,0=0,0=0]++waa d++([cO=cO]++wad d)) (.asm (True) (.all (λ(g0:Nat->Value)=>.need (decide (o.length<=o.length)&&true&&decide (o.length<=1000000)) (.need (decide (o.length=o.length)&&decide (o.length<4611686018427387904)) (.leaf (.tup [.slz 440 0 o.length cO,vj 0]) ([(440,.rowz true 89 kB o.length (YR o.length λi=>QA.enc ((Rw.mk o.length λi=>o.getD i (Tw.mk (0:Int) (0:Int))).get i)))])))))))))))):=by kernel_rfl
theorem QVh(f:List Tw)(e:Int):QE 112 [(AV.tup [AV.nils,vj (1:Int)])] ([]) (KP 112 (QCM f e) (QAF f))=( some [f.length=(0:Nat),(1:Int)=e,f.length=(0:Nat)]):=by kernel_rfl
theorem QXm(o f:List Tw)(e:Int):QE 112 [(AV.tup [AV.slz (440:Nat) (0:Nat) o.length cO,vj (0:Int)])] ([((440:Nat),Blk.rowz true (89:Nat) [CK.int i64,CK.int i64] o.length (YR o.length λi=>QA.enc ((Rw.mk o.length λi=>o.getD i (Tw.mk (0:Int) (0:Int))).get i)))]) (KP 112 (QCM f e) (QAF f))=( some [0=0,o.length=f.length,cO=cO,(0:Int)=e,f.length<=o.length,QB (2:Nat) f.length (YR o.length λi=>QA.enc ((Rw.mk o.length λi=>o.getD i (Tw.mk (0:Int) (0:Int))).get i)) λi=>QA.enc (f.getD i (Tw.mk (0:Int) (0:Int)))]):=by kernel_rfl
theorem QSN(p:Nat)(s:Nat×List Tw):(Vs d E p 0 s).2.length<=s.2.length+p:=by
 have key:∀(l:List Nat) (s:Nat×List Tw),(l.foldl (λs q=>tiZ d E p q s) s).2.length<=s.2.length+l.length:=by
  intro l
  induction l with
  | nil=>intro s;exact qlr _
  | cons q l ih=>
   intro s;rw[List.foldl_cons,List.length_cons];have h1:=ih (tiZ d E p q s);have h2:=QZ9 d E p q s;omega
 have:=key (List.range p) s;rw[List.length_range]at this;unfold Vs;rw[List.drop_zero];exact this
def toX(p:Nat)(s:Nat×List Tw):List (Prop×Ex×JSt):=[(True,.exit 2,(toJ d E p (Vs d E p 0 s).1 (Vs d E p 0 s).2).dfrs 368)]
theorem QbA{d:Puz}(hd:KK d){E:ECt}(hE:WfE E)(p:Nat)(s:Nat×List Tw)(hs:s.2.length<=1000*p)(G:Ctx)(hrd:G.rd=none)(hG:G.n<=368):Qx (mkE prog QS) G (toH prog d E p s.1 s.2 (toX d E p s)) (QH f21 0):=by
 refine KR (body:=QY (QH f21 0)) (QN Qb) hrd (by kernel_rfl) ?_
 refine JK λhp=>?_;have hEnv:∀(k:Nat×Nat×List Tw) (g:Nat->Value),(k.1<=p/\k.2.2.length<=1000*p+k.1)->(qH prog d E p k g).Sound:=λk g hk=>QZt hd hE hp k g hk.2;refine QOp (E0:=mkE prog QS) (E:=qH prog d E p) (H:=λk g=>hnd (qH prog d E p k g) 8) (n0:=376) (D:=368) (s0:=(0,s)) (λ_ _=>rfl) hEnv (by omega) hG (λk g hk=>Qu (hEnv k g hk) 8 G _ hrd) (λk _=>⟨(by decide:376<=416),rfl⟩) ?_ (Qbh d E p hp hd.n) ⟨Nat.zero_le _,hs⟩ ?_
 .rintro k e J ⟨_,rfl⟩;exact⟨(by decide:376<=416),rfl⟩
 .rintro e J ⟨rfl,rfl⟩;exact⟨_,qmc,trivial,rfl,rfl⟩
def HI(k:Nat×Nat×List Tw)(e:Ex)(J:JSt):Prop:=e = .exit 0/\J=toF (vO d E k.1 k.2).2
theorem QfT(hn:d.ps.n<=1000):QDa (λk:Nat×Nat×List Tw=>toJ d E k.1 k.2.1 k.2.2) (λk=>k.1<=d.ps.n/\k.2.2.length<=1000*k.1) (λk=>d.ps.n-k.1) (HI d E) 376 368 QQC jh (λ_ _=>mkE prog QS) (λk _=>toH prog d E k.1 k.2.1 k.2.2 (toX d E k.1 k.2)) (QH f21 0):=by
 refine⟨λk g0 hk=>?_⟩;obtain⟨p,z,o⟩:=k;obtain⟨hk,hol⟩:=hk;have hk:p<=d.ps.n:=hk;have hol:o.length<=1000*p:=hol;have hw:p<d.ps.n->i64.wrap ((p:Int)+1)=((p+1:Nat):Int):=λh=>Vj h hn;have hlen:=QSN d E p (z,o)
 have next:p<d.ps.n->∀ e J,HI d E (p+1,Vs d E p 0 (z,o)) e J->HI d E (p,z,o) e J:=by
  intro h e J hr;unfold HI vO at hr ⊢;rw[QRl h];exact hr
 have last:d.ps.n<=p->HI d E (p,z,o) (.exit 0) (toF o):=by
  intro h;unfold HI vO;simp only[QKd h,and_self]
 unfold toX;simp only;generalize Vs d E p 0 (z,o)=s at next hlen ⊢
 obtain⟨z',o'⟩:=s
 have hl2:p<d.ps.n->o'.length<=1000*(p+1):=λh=>by
  have:o'.length<=o.length+p:=hlen;omega
 have et:=QW3 d E p z o z' o' g0;refine Qe et ?_;clear et;refine QF (λb0=>?_) (λb0=>?_);have h:p<d.ps.n:=by have:=qdt b0;omega
 have hw:=hw h
 iterate 70 refine Qp (by first|exact tv|exact h|with_reducible exact qRr|exact rfl) ?_
 refine Qf λa0=>?_;refine Qh λg0=>?_;refine⟨(p+1,z',o'),⟨h,hl2 h⟩,by show d.ps.n-(p+1)<d.ps.n-p;omega,next h,rfl,rfl,_,QaZ d E (p+1) z' p o',?_⟩
 rotate_left
 have h:d.ps.n<=p:=by have:=qdf b0;omega
 refine⟨_,last h,rfl,rfl,_,QTX o z d E p,?_⟩
 rotate_left
 all_goals (repeat' first|with_reducible refine QO ?_ ?_|exact tv|with_reducible exact qRr|with_reducible exact hw|exact rfl|refine aI ?_ ?_)
def Xm:List Tw:=(vO d E 0 (0,[])).2
theorem QW7(pb:List Prop->Bool){d:Puz}{E:ECt}(hE:WfE E)(hT:Qc (q7 pb d E))(G:Ctx)(hrd:G.rd=none)(hG:G.n<=368):Qx (mkE prog (q7 pb d E)) G (QIP prog pb d E (Xm d E)) (Qk f21):=by
 refine KR (body:=QH f21 0) (QN hT) hrd (by kernel_rfl) ?_
 refine JK λhok=>?_;have hd:=(qi (jb hok)).1;refine QOp (E0:=mkE prog (q7 pb d E)) (E:=λ_ _=>mkE prog QS) (H:=λ(k:Nat×Nat×List Tw) _=>toH prog d E k.1 k.2.1 k.2.2 (toX d E k.1 k.2)) (n0:=376) (D:=368) (s0:=(0,0,[])) (λ_ _=>rfl) (λ_ _ _=>QN Qb) (by omega) hG (λk g hk=>QbA hd hE k.1 k.2 hk.2 G hrd hG) (λk _=>⟨(by decide:376<=416),rfl⟩) ?_ (QfT d E hd.n) ⟨Nat.zero_le _,Nat.zero_le _⟩ ?_
 .rintro k e J ⟨_,rfl⟩;exact⟨(by decide:376<=416),rfl⟩
 .rintro e J ⟨rfl,rfl⟩;exact⟨_,qmc,trivial,rfl,rfl⟩
def Zh:List Tw×Int:=cond d.ok (Jj (Xm d (QK d)),0) ([],1)
def Zm:WF (Puz×Unit):=λ|(d,_)=>(decide (d.ps.n<=1000),QCM (Zh d).1 (Zh d).2,QAF (Zh d).1)
def QOS:FC:=wFC Zm
theorem QYp:WOk (Zm (d,())).2.1 (Zm (d,())).2.2:=⟨rfl,by simp[Zm,QAF,rwT,Blk.own,Blk.all],rfl⟩
theorem Qd4:(Xm d E).length<=d.ps.n*d.ps.n:=by
 have key:∀(l:List Nat) (s:Nat×List Tw),(∀ p∈l,p<=d.ps.n)->(l.foldl (λs p=>Vs d E p 0 s) s).2.length<=s.2.length+l.length*d.ps.n:=by
  intro l
  induction l with
  | nil=>intro s _;exact Nat.le_add_right _ _
  | cons p l ih=>
   intro s hl;rw[List.foldl_cons,List.length_cons,Nat.succ_mul];have h1:=ih (Vs d E p 0 s) (λq hq=>hl q (List.mem_cons_of_mem _ hq));have h2:=QSN d E p s;have h3:=hl p qmc;omega
 have:=key (List.range d.ps.n) (0,[]) (λp hp=>Nat.le_of_lt (List.mem_range.1 hp));rw[List.length_range]at this;unfold Xm vO;rw[List.drop_zero];simpa using this
theorem QUW(hx:(Zm (d,())).1=true):QR prog 21 (wFC (VF Zm (d,()))):=by
 have hn:d.ps.n<=1000:=qdt hx;have hO:=Ze d hn;have hT:Qc (q7 QP d (QK d)):=(Qa4.add QTC).add (Zw d (by omega))
 have hll:=Qd4 d (QK d);have hmm:=Nat.mul_le_mul hn hn;refine YY (c:=Qk f21) (E:=mkE prog (q7 QP d (QK d))) (H:=QIP prog QP d (QK d) (Xm d (QK d))) (QN hT) func21 (by kernel_rfl) (by kernel_rfl) (N:=112) (by decide) (d,()) (λG h1 h2=>QW7 QP hO.w hT G h1 (by rw[h2];decide)) (QYp d) ?_
 generalize hE:Xm d (QK d)=o at hll;have hv:Zh d=cond d.ok (Jj o,0) ([],1):=by unfold Zh;rw[hE]
 have hs:=QI5 o
 have hl:(List.range o.length).map (Yd λi=>QA.enc (o.getD i (⟨0,0⟩:Tw)))=o:=by
  apply List.ext_getElem
  .simp
  .intro i h1 h2;rw[List.getElem_map,List.getElem_range];show(⟨(o.getD i ⟨0,0⟩:Tw).a,(o.getD i ⟨0,0⟩:Tw).b⟩:Tw)=_;rw[Xs h2]
 have hr:∀ k,QB 2 k (YR o.length λi=>QA.enc ((Rw.mk o.length λi=>o.getD i (⟨0,0⟩:Tw)).get i)) λi=>QA.enc ((Jj o).getD i (⟨0,0⟩:Tw)):=by
  intro k i _;show eqF 2 0 (YR o.length (λi=>QA.enc (o.getD i (⟨0,0⟩:Tw))) i) _;unfold YR;rw[hl];exact QA8 _ _ _
 have et:=Qcs QP d (QK d) o;refine Qe et ?_;clear et;refine QG ?_ ?_;rotate_left;refine QF (λb0=>?_) (λb0=>?_);have b0:d.ok=false:=by simpa using b0
 rw[b0,cond_false]at hv;simp only[Zm,hv];refine⟨rfl,rfl,_,QVh [] 1,?_⟩
 rotate_left
 have b0:d.ok=true:=by simpa using b0
 rw[b0,cond_true]at hv
 iterate 2 (refine QG ?_ ?_;rotate_left)
 iterate 57 refine Qp (by first|exact tv|exact b0|with_reducible exact qRr|exact rfl) ?_
 refine Qf λa0=>?_;refine Qh λg0=>?_
 iterate 2 (refine QG ?_ ?_;rotate_left)
 simp only[Zm,hv];refine⟨rfl,rfl,_,QXm o (Jj o) 0,?_⟩
 rotate_left
 all_goals first|((with_reducible show _=true);(first|(refine Q7.2 ?_;repeat' first|with_reducible refine QO ?_ ?_|exact tv|with_reducible exact qRr|exact rfl|refine aI ?_ ?_)|(simp;omega)))|(repeat' first|with_reducible refine QO ?_ ?_|exact tv|with_reducible exact qRr|with_reducible exact hr _|omega|exact rfl|refine aI ?_ ?_)
theorem QRt:QR prog 21 QOS:=GP (by kernel_rfl) λ|(d,()),hx=>QUW d hx
open Go Go.Sort Go.SX Go.SX.Told
def goB{σ:Type}:QZ σ->Bool
 | .go _=>true
 | .stop _=>false
theorem QKZ{σ α:Type}{f:σ->α->QZ σ}{p:α->Bool}(h:∀ s a,goB (f s a) = !p a):∀(l:List α) (s:σ),goB (Qw f l s) = !l.any p
 | [],_=>rfl
 | a::l,s=>by
  have ha:=h s a;simp only[Qw,List.any_cons];cases hf:f s a with
  | go s'=>
   rw[hf]at ha;have:p a=false:=by simpa[goB]using ha
   rw[this,Bool.false_or];exact QKZ h l s'
  | stop s'=>
   rw[hf]at ha;have:p a=true:=by simpa[goB]using ha
   rw[this];rfl
variable {x:Tw}(d:Puz)(E:ECt)
def twB(a b:Nat):Bool:=(JT d E).any λl=>Vn d E (l.map (swS b a))
theorem QVJ(p q:Nat)(s:Nat×List Tw):(tiZ d E p q s).2=s.2++cond (twB d E q p) [⟨q,p⟩] []:=by
 have h:=QKZ (f:=λ(s:TJ) l=>twA d E p q l s) (p:=λl=>Vn d E (l.map (swS p q))) (λs l=>by
  unfold twA;cases Vn d E (l.map (swS p q))<;>rfl) (JT d E) ⟨s.1,trivial⟩
 rw[<-QKY]at h;unfold tiZ twB;cases hr:onY d E (twA d E p q) d.ps.n [] ⟨s.1,trivial⟩with
 | go z=>
  rw[hr]at h;have:((JT d E).any λl=>Vn d E (l.map (swS p q)))=false:=by simpa[goB]using h
  rw[this];simp
 | stop z=>
  rw[hr]at h;have:((JT d E).any λl=>Vn d E (l.map (swS p q)))=true:=by simpa[goB]using h
  rw[this];simp
def H1(p q:Nat):List Tw:=cond (twB d E q p) [⟨q,p⟩] []
theorem QF4{α β σ:Type}{f:σ->α->σ}{v:σ->List β}{g:α->List β}(h:∀ s a,v (f s a)=v s++g a):∀(l:List α) (s:σ),v (l.foldl f s)=v s++l.flatMap g
 | [],s=>by simp
 | a::l,s=>by rw[List.foldl_cons,QF4 h l,h,List.flatMap_cons,List.append_assoc]
theorem QU1(p:Nat)(s:Nat×List Tw):(Vs d E p 0 s).2=s.2++(List.range p).flatMap (H1 d E p):=by
 unfold Vs;rw[List.drop_zero];exact QF4 (v:=Prod.snd) (λs q=>QVJ d E p q s) _ _
theorem QRx:Xm d E=(List.range d.ps.n).flatMap λp=>(List.range p).flatMap (H1 d E p):=by
 unfold Xm vO;rw[List.drop_zero];exact(QF4 (v:=Prod.snd) (λs p=>QU1 d E p s) _ _).trans (List.nil_append _)
theorem QAs{d:Puz}{E:ECt}{p q:Nat}:x∈H1 d E p q↔twB d E q p=true/\x=⟨q,p⟩:=by
 unfold H1;cases twB d E q p<;>simp
theorem Qd8{d:Puz}{E:ECt}:x∈Xm d E↔∃ a b,a<b/\b<d.ps.n/\twB d E a b=true/\x=⟨a,b⟩:=by
 rw[QRx];simp only[List.mem_flatMap,List.mem_range,QAs];constructor
 .rintro⟨p,hp,q,hq,h1,h2⟩;exact⟨q,p,hq,hp,h1,h2⟩
 .rintro⟨a,b,hab,hb,h1,h2⟩;exact⟨b,hb,a,hab,h1,h2⟩
theorem QTv:(Xm d E).Nodup:=by
 rw[QRx];unfold List.Nodup;rw[List.pairwise_flatMap];refine⟨λp _=>?_,List.pairwise_lt_range.imp λ{p p'} hp x hx y hy=>?_⟩
 .rw[List.pairwise_flatMap];refine⟨λq _=>?_,List.pairwise_lt_range.imp λ{q q'} hq x hx y hy=>?_⟩
  .unfold H1;cases twB d E q p
   .exact List.Pairwise.nil
   .exact List.pairwise_singleton _ _
  .obtain⟨_,rfl⟩:=QAs.1 hx;obtain⟨_,rfl⟩:=QAs.1 hy;intro e;simp only[Tw.mk.injEq]at e;omega
 .obtain⟨q,_,hx⟩:=List.mem_flatMap.1 hx;obtain⟨q',_,hy⟩:=List.mem_flatMap.1 hy;obtain⟨_,rfl⟩:=QAs.1 hx;obtain⟨_,rfl⟩:=QAs.1 hy;intro e;simp only[Tw.mk.injEq]at e;omega
def QDI(a:Nat):List Tw:=(List.range d.ps.n).flatMap λb=>cond (decide (a<b)&&twB d E a b) [⟨a,b⟩] []
def qz:List Tw:=(List.range d.ps.n).flatMap (QDI d E)
theorem QBq{d:Puz}{E:ECt}{a:Nat}:x∈QDI d E a↔∃ b,a<b/\b<d.ps.n/\twB d E a b=true/\x=⟨a,b⟩:=by
 unfold QDI;rw[List.mem_flatMap];constructor
 .rintro⟨b,hb,hx⟩;cases h:decide (a<b)&&twB d E a b with
  | false=>rw[h]at hx;cases hx
  | true=>
   rw[h]at hx;rw[qbA,qdE]at h;exact⟨b,h.1,List.mem_range.1 hb,h.2,by simpa using hx⟩
 .rintro⟨b,h1,h2,h3,rfl⟩;refine⟨b,List.mem_range.2 h2,?_⟩;rw[qde h1,h3];exact List.mem_singleton.2 rfl
theorem QQH:(qz d E).Pairwise λx y=>Jh x y<0:=by
 unfold qz;rw[List.pairwise_flatMap];refine⟨λa _=>?_,List.pairwise_lt_range.imp λ{a a'} ha x hx y hy=>?_⟩
 .unfold QDI;rw[List.pairwise_flatMap];refine⟨λb _=>?_,List.pairwise_lt_range.imp λ{b b'} hb x hx y hy=>?_⟩
  .cases decide (a<b)&&twB d E a b
   .exact List.Pairwise.nil
   .exact List.pairwise_singleton _ _
  .cases h:decide (a<b)&&twB d E a b with
   | false=>rw[h]at hx;cases hx
   | true=>
    cases h':decide (a<b')&&twB d E a b' with
    | false=>rw[h']at hy;cases hy
    | true=>
     rw[h]at hx;rw[h']at hy;have hx:x=⟨a,b⟩:=by simpa using hx
     have hy:y=⟨a,b'⟩:=by simpa using hy
     subst hx hy;rw[Xz];exact .inr ⟨rfl,by show(b:Int)<b';omega⟩
 .obtain⟨b,_,_,_,rfl⟩:=QBq.1 hx;obtain⟨b',_,_,_,rfl⟩:=QBq.1 hy;rw[Xz];exact .inl (by show(a:Int)<a';omega)
theorem QYA(x:Tw):¬ Jh x x<0:=by rw[Xz];omega
theorem Qbg{l l':List Tw}(h:l.Perm l'):Jj l=Jj l':=by
 have h1:(Jj l).Pairwise λx y=>(!(ltOf Jh) y x)=true:=List.pairwise_mergeSort (λa b c h1 h2=>by
   simp only[ltOf,Bool.not_eq_true',decide_eq_false_iff_not,Xz]at *;omega) (λa b=>by
   simp only[ltOf,qbO,Bool.not_eq_true',decide_eq_false_iff_not,Xz];omega) l
 have h2:(Jj l').Pairwise λx y=>(!(ltOf Jh) y x)=true:=List.pairwise_mergeSort (λa b c h1 h2=>by
   simp only[ltOf,Bool.not_eq_true',decide_eq_false_iff_not,Xz]at *;omega) (λa b=>by
   simp only[ltOf,qbO,Bool.not_eq_true',decide_eq_false_iff_not,Xz];omega) l'
 have hp:(Jj l).Perm (Jj l'):=(List.mergeSort_perm l _).trans (h.trans (List.mergeSort_perm l' _).symm);exact hp.eq_of_pairwise (λa b _ _ q1 q2=>QNy a b (by simpa using q2) (by simpa using q1)) h1 h2
theorem QZU:Jj (Xm d E)=qz d E:=by
 have hnd:(qz d E).Nodup:=(QQH d E).imp λ{x y} h q=>by subst q;exact QYA x h
 have hp:(Xm d E).Perm (qz d E):=by
  rw[List.perm_ext_iff_of_nodup (QTv d E) hnd];intro x;rw[Qd8];unfold qz;rw[List.mem_flatMap];constructor
  .rintro⟨a,b,h1,h2,h3,rfl⟩;exact⟨a,List.mem_range.2 (by omega),QBq.2 ⟨b,h1,h2,h3,rfl⟩⟩
  .rintro⟨a,_,hx⟩;obtain⟨b,h1,h2,h3,rfl⟩:=QBq.1 hx;exact⟨a,b,h1,h2,h3,rfl⟩
 rw[Qbg hp];unfold Jj;refine List.mergeSort_of_pairwise ((QQH d E).imp λ{x y} h=>?_);have:¬ Jh y x<0:=by rw[Xz]at h ⊢;omega
 simp[ltOf,this]
end Go.Proofs.YtekbmehgcofnkaaGreat
namespace Go.SX
theorem QE6{P:Go.Program}{f:Go.FuncId}{α:Type}[Qd α]{F G:WF α}(h:QR P f (wFC F))(hFG:∀ x,(G x).1=true->F x=G x):QR P f (wFC G):=by
 refine⟨h.1,λargs nid all r w lk blks eff hH ha hv he hp=>?_⟩;simp only[wFC]at hv he;split at he<;>(try (cases he;done))
 rename_i p x hd;simp only[qsI]at he;subst he;have hp':(p&&(G x).1)=true:=hp;rw[qbA]at hp';refine h.2 args nid all r w lk blks _ hH ha hv ?_ hp;simp only[wFC,hd,hFG x hp'.2]
end Go.SX
namespace Go.Proofs.YtekbmehgcofnkaaGreat
open Go Go.Sort Go.SX Go.SX.Told
variable {l:List Lay}{i:Nat}(d:Puz)
def Kp:List Jn×List Jn×Int:=cond d.ok (XT d 2,XT d 1,0) ([],[],1)
def QOb:WF (Puz×Unit):=λ|(d,_)=>(decide (d.ps.n<=1000),QB2 (Kp d).1 (Kp d).2.1 (Kp d).2.2,QBC (Kp d).1 (Kp d).2.1)
theorem QT8{d:Puz}(hn:d.ps.n<=1000):Wv d=Kp d:=by
 unfold Wv Kp;rw[QHF d hn (by decide),QHF d hn (by decide)]
def QOZ:FC:=wFC QOb
theorem QUf:QR prog 40 QOZ:=QE6 QYQ fun
 | (d,_),h=>by
  have hn:d.ps.n<=1000:=qdt h;simp only[Zn,QOb,QT8 hn]
def w0L:LJ:=if h:(XT d 1).length<=1000000000 then ⟨_,h⟩else ⟨[],by decide⟩
theorem QXD{d:Puz}(hn:d.ps.n<=1000):w0Z d=w0L d:=by
 unfold w0Z w0L;have:=QHF d hn (m:=1) (by decide)
 simp only[this]
def Hi:List Jn×Int:=cond d.ok ((match onY d (QK d) (faY d) d.ps.n [] (w0L d)with | .go s | .stop s=>s.1),0) ([],1)
def QM9:WF (Puz×Unit):=λ|(d,_)=>(decide (d.ps.n<=1000),QAe (Hi d).1 (Hi d).2,zT (Hi d).1)
theorem QaF{d:Puz}(hn:d.ps.n<=1000):Yp d=Hi d:=by
 unfold Yp Hi;rw[QXD hn];rfl
def QHV:FC:=wFC QM9
theorem QM8:QR prog 43 QHV:=QE6 QZh fun
 | (d,_),h=>by
  have hn:d.ps.n<=1000:=qdt h;simp only[Xq,QM9,QaF hn]
def QDG:List Tw×Int:=cond d.ok (qz d (QK d),0) ([],1)
def QKT:WF (Puz×Unit):=λ|(d,_)=>(decide (d.ps.n<=1000),QCM (QDG d).1 (QDG d).2,QAF (QDG d).1)
def QLz:FC:=wFC QKT
theorem QXq:QR prog 21 QLz:=QE6 QRt fun
 | (d,_),_=>by simp only[Zm,QKT,Zh,QDG,QZU]
def QIU(s:SoS):List Lay×List Lay×Int×Int:=cond (s.1==0) ([],[],0,4) (s.2.1,s.2.2,s.1,0)
theorem QWe{d:Puz}(ho:d.ok=true):Qt d=cond (JT d (QK d)).isEmpty ([],[],0,4) ((JT d (QK d)).getD 0 [],(JT d (QK d)).getD 1 [],((min (JT d (QK d)).length 100:Nat):Int),0):=by
 have h:=QXI d (QK d);unfold Qt;rw[ho,cond_true]
 have key:∀ r:QZ SoS,(match r with | .go s | .stop s=>cond (s.1==0) (([]:List Lay),([]:List Lay),(0:Int),(4:Int)) (s.2.1,s.2.2,s.1,0))=QIU (match r with | .go s | .stop s=>s):=by
  intro r;cases r<;>rfl
 refine((key _).trans (congrArg QIU h)).trans ?_;cases hs:JT d (QK d)with
 | nil=>rfl
 | cons a L=>
  have:(((min (a::L).length 100:Nat):Int)==0)=false:=by
   rw[beq_eq_false_iff_ne,List.length_cons];omega
  simp only[QIU,this,cond_false,List.isEmpty_cons]
structure q8 (d:Puz) (E:ECt) (l:List Lay):Prop where
 len:l.length=d.ps.n
 st:∀ i (h:i<l.length),l[i]∈G7 d/\Wq (l.take i) l[i]=false/\Q0 d E (l.take i) l[i]=true
theorem Qe1{d:Puz}{E:ECt}:l∈JT d E↔q8 d E l:=by
 unfold JT QAk;rw[Qdp]
 have hk:∀ i (h:i<l.length),(GZ QBw d E ([]++l.take i) l[i]=true↔Wq (l.take i) l[i]=false/\Q0 d E (l.take i) l[i]=true):=by
  intro i h;unfold GZ QBw;rw[List.nil_append,Bool.true_and,qbA,Bool.not_eq_true']
 constructor
 .rintro⟨t,h1,h2,h3,_⟩;rw[List.nil_append]at h2;subst h2;rw[QOE]at h3;exact⟨h1,λi h=>⟨(h3 i h).1,(hk i h).1 (h3 i h).2⟩⟩
 .intro h;refine⟨l,h.len,rfl,?_,rfl⟩;rw[QOE];exact λi hi=>⟨(h.st i hi).1,(hk i hi).2 (h.st i hi).2⟩
theorem QZ3{d:Puz}{x:Lay}:x∈G7 d↔∃ p t:Nat,p<d.ps.n/\t<QX d p/\x=⟨p,t⟩:=by
 unfold G7;rw[List.mem_flatMap];constructor
 .rintro⟨p,hp,hx⟩;obtain⟨t,ht,rfl⟩:=List.mem_map.1 hx;exact⟨p,t,List.mem_range.1 hp,List.mem_range.1 ht,rfl⟩
 .rintro⟨p,t,hp,ht,rfl⟩;exact⟨p,List.mem_range.2 hp,List.mem_map.2 ⟨t,List.mem_range.2 ht,rfl⟩⟩
theorem Qc8(p:Nat):QX d p<=4:=by
 unfold QX tnV;cases d.turn&&decide (0<(p:Int))<;>decide
theorem QX2{d:Puz}{x:Lay}(h:x∈G7 d):Q9 d x:=by
 obtain⟨p,t,hp,ht,rfl⟩:=QZ3.1 h;have:=Qc8 d p;exact⟨⟨by show(0:Int)<=p;omega,by show(p:Int)<_;omega⟩,by show(0:Int)<=t;omega,by show(t:Int)<=3;omega⟩
theorem q8.lay{d:Puz}{E:ECt}(h:q8 d E l)(hi:i<l.length):Q9 d l[i]:=QX2 (h.st i hi).1
theorem QMN{k:Nat}(hik:i<k)(hk:k<l.length)(h:Wq (l.take k) l[k]=false):l[i].piece≠l[k].piece:=by
 intro e
 have:Wq (l.take k) l[k]=true:=by
  unfold Wq;rw[List.any_eq_true];refine⟨l[i],?_,beq_iff_eq.2 e⟩;rw[List.mem_take_iff_getElem];exact⟨i,by omega,rfl⟩
 rw[h]at this;cases this
theorem q8.ne{d:Puz}{E:ECt}(h:q8 d E l){k:Nat}(hi:i<l.length)(hk:k<l.length)(hik:i≠k):l[i].piece≠l[k].piece:=by
 rcases Nat.lt_or_gt_of_ne hik with q|q
 .exact QMN q hk (h.st k hk).2.1
 .exact λe=>QMN q hi (h.st i hi).2.1 e.symm
theorem q8.every{d:Puz}{E:ECt}(h:q8 d E l){p:Nat}(hp:p<d.ps.n):∃ c,∃ hc:c<l.length,l[c].piece=p:=by
 have hl:=λi hi=>(h.lay (i:=i) hi).p
 have hm:¬ p ∉ l.map λx=>x.piece.toNat:=by
  intro hm
  have hnd:(l.map λx=>x.piece.toNat).Nodup:=by
   unfold List.Nodup;rw[List.pairwise_map,List.pairwise_iff_getElem];intro i j hi hj hij e;have h1:=hl i hi;have h2:=hl j hj;exact h.ne hi hj (by omega) (by omega)
  have:=(List.nodup_cons.2 ⟨hm,hnd⟩).length_le_of_subset (l₂:=List.range d.ps.n) (λx hx=>by
   rcases List.mem_cons.1 hx with rfl|hx
   .exact List.mem_range.2 hp
   .obtain⟨y,hy,rfl⟩:=List.mem_map.1 hx;obtain⟨i,hi,rfl⟩:=List.getElem_of_mem hy;have:=hl i hi;exact List.mem_range.2 (by omega))
  rw[List.length_cons,List.length_map,List.length_range,h.len]at this;omega
 have hm:=Decidable.not_not.1 hm;obtain⟨y,hy,e⟩:=List.mem_map.1 hm;obtain⟨i,hi,rfl⟩:=List.getElem_of_mem hy;have:=hl i hi;exact⟨i,hi,by omega⟩
