/- - -/
import Derived.Test.YtekbmehgcofnkaaGreatMzm
import Derived.Test.YtekbmehgcofnkaaGreatMze
import Derived.Test.YtekbmehgcofnkaaGreatMzb
import Derived.Test.YtekbmehgcofnkaaGreatMzj
open Go.Proofs.Tryz
open Go.IntKind (i64)
set_option maxRecDepth 100000
namespace Go.Proofs.YtekbmehgcofnkaaGreat
open Go.SX Go.SX.Told
def jx(pb:List Prop->Bool)(d:Puz)(E:ECt):Tab:=Qa (Qa QOq 106 QLo) 60 (KM pb (nbU d E))
def QEa(f:List Tw)(e:Int):AV := .tup [.slz 0 0 f.length (.of 0),.int false .i64 e]
def H8(f:List Tw):List (Nat×Blk):=[rwT 0 f]
abbrev QGL(P:Program)(pb:List Prop->Bool)(d:Puz)(E:ECt)(o:List Tw):Hnd:={ hnd (mkE P (jx pb d E)) 8 with loop:=λ_=>JT (d.ok=true) (QDf 376 jp (toJ d E (0:Nat) (0:Nat) []) [(True,.exit 0,(toF o).dfrs 368)]) }
variable (d:Puz)(E:ECt)
abbrev QR0:List Prop:=
  (waa d++([cO=cO]++wad d))
theorem Qab(pb:List Prop->Bool)(d:Puz)(E:ECt)(o:List Tw):Kd (mkE prog (jx pb d E)) (QGL prog pb d E o) f21 (Qb.vals 0 ((d,()):Puz×Unit)) (Qb.blks 0 ((d,()):Puz×Unit)) 112 = .need (decide (d.ps.n<=d.ps.n)&&true&&decide (d.ps.n<=1000)) (.br (!d.ok) (.leaf (.tup [.nils,vj 1]) ([])) (.need (pb ((QR0 d))) (.need (pb ((QR0 d))) (.ak [d.ok=true] (.ak (rz 8) (.ak ([(d.ps.n:Int)=(d.ps.n:Int),(0:Int)=0]++waa d++[cO=cO,0=0,E.1=E.1,E.2=E.2,0=0]++waa d++[cO=cO,0=0,E.1=E.1,E.2=E.2,0=0,0=0,0=0,0=0]++waa d++([cO=cO]++wad d)) (.asm (True) (.all (λ(g0:Nat->Value)=>.need (decide (o.length<=o.length)&&true&&decide (o.length<=1000000)) (.need (decide (o.length=o.length)&&decide (o.length<4611686018427387904)) (.leaf (.tup [.slz 440 0 o.length cO,vj 0]) ([(440,.rowz true 89 kB o.length (YH o.length λi=>QA.enc ((Rw.mk o.length λi=>o.getD i (Tw.mk (0:Int) (0:Int))).get i)))])))))))))))):=by kernel_rfl
theorem Qdw(f:List Tw)(e:Int):QF 112 [(AV.tup [AV.nils,vj (1:Int)])] ([]) (KW 112 (QEa f e) (H8 f))=( some [f.length=(0:Nat),(1:Int)=e,f.length=(0:Nat)]):=by kernel_rfl
theorem Qb6(o f:List Tw)(e:Int):QF 112 [(AV.tup [AV.slz (440:Nat) (0:Nat) o.length cO,vj (0:Int)])] ([((440:Nat),Blk.rowz true (89:Nat) [CK.int i64,CK.int i64] o.length (YH o.length λi=>QA.enc ((Rw.mk o.length λi=>o.getD i (Tw.mk (0:Int) (0:Int))).get i)))]) (KW 112 (QEa f e) (H8 f))=( some [0=0,o.length=f.length,cO=cO,(0:Int)=e,f.length<=o.length,QB (2:Nat) f.length (YH o.length λi=>QA.enc ((Rw.mk o.length λi=>o.getD i (Tw.mk (0:Int) (0:Int))).get i)) λi=>QA.enc (f.getD i (Tw.mk (0:Int) (0:Int)))]):=by kernel_rfl
theorem QRI(p:Nat)(s:Nat×List Tw):(V0 d E p 0 s).2.length<=s.2.length+p:=by
 have key:∀(l:List Nat) (s:Nat×List Tw),(l.foldl (λs q=>tiZ d E p q s) s).2.length<=s.2.length+l.length:=by
  intro l
  induction l with
  | nil=>intro s;exact qlr _
  | cons q l ih=>
   intro s;rw[List.foldl_cons,List.length_cons];have h1:=ih (tiZ d E p q s);have h2:=QgN d E p q s;omega
 have:=key (List.range p) s;rw[List.length_range]at this;unfold V0;rw[List.drop_zero];exact this
def toX(p:Nat)(s:Nat×List Tw):List (Prop×Ex×JSt):=[(True,.exit 2,(toJ d E p (V0 d E p 0 s).1 (V0 d E p 0 s).2).dfrs 368)]
theorem QaM{d:Puz}(hd:KO d){E:ECt}(hE:WfE E)(p:Nat)(s:Nat×List Tw)(hs:s.2.length<=1000*p)(G:Ctx)(hrd:G.rd=none)(hG:G.n<=368):Qw (mkE prog QT) G (toH prog d E p s.1 s.2 (toX d E p s)) (QH f21 0):=by
 refine KN (body:=QU (QH f21 0)) (QO Qh) hrd (by kernel_rfl) ?_
 refine Jh λhp=>?_;have hEnv:∀(k:Nat×Nat×List Tw) (g:Nat->Value),(k.1<=p/\k.2.2.length<=1000*p+k.1)->(qf prog d E p k g).Sound:=λk g hk=>QjY hd hE hp k g hk.2;refine QOh (E0:=mkE prog QT) (E:=qf prog d E p) (H:=λk g=>hnd (qf prog d E p k g) 8) (n0:=376) (D:=368) (s0:=(0,s)) (λ_ _=>rfl) hEnv (by omega) hG (λk g hk=>Qv (hEnv k g hk) 8 G _ hrd) (λk _=>⟨(by decide:376<=416),rfl⟩) ?_ (Qhv d E p hp hd.n) ⟨Nat.zero_le _,hs⟩ ?_
 .rintro k e J ⟨_,rfl⟩;exact⟨(by decide:376<=416),rfl⟩
 .rintro e J ⟨rfl,rfl⟩;exact⟨_,qmc,trivial,rfl,rfl⟩
def Hw(k:Nat×Nat×List Tw)(e:Ex)(J:JSt):Prop:=e = .exit 0/\J=toF (Hp d E k.1 k.2).2
theorem QZO(hn:d.ps.n<=1000):QFe (λk:Nat×Nat×List Tw=>toJ d E k.1 k.2.1 k.2.2) (λk=>k.1<=d.ps.n/\k.2.2.length<=1000*k.1) (λk=>d.ps.n-k.1) (Hw d E) 376 368 QPB jp (λ_ _=>mkE prog QT) (λk _=>toH prog d E k.1 k.2.1 k.2.2 (toX d E k.1 k.2)) (QH f21 0):=by
 refine⟨λk g0 hk=>?_⟩;obtain⟨p,z,o⟩:=k;obtain⟨hk,hol⟩:=hk;have hk:p<=d.ps.n:=hk;have hol:o.length<=1000*p:=hol;have hw:p<d.ps.n->i64.wrap ((p:Int)+1)=((p+1:Nat):Int):=λh=>Ja h hn;have hlen:=QRI d E p (z,o)
 have next:p<d.ps.n->∀ e J,Hw d E (p+1,V0 d E p 0 (z,o)) e J->Hw d E (p,z,o) e J:=by
  intro h e J hr;unfold Hw Hp at hr ⊢;rw[QMG h];exact hr
 have last:d.ps.n<=p->Hw d E (p,z,o) (.exit 0) (toF o):=by
  intro h;unfold Hw Hp;simp only[QNU h,and_self]
 unfold toX;simp only;generalize V0 d E p 0 (z,o)=s at next hlen ⊢
 obtain⟨z',o'⟩:=s
 have hl2:p<d.ps.n->o'.length<=1000*(p+1):=λh=>by
  have:o'.length<=o.length+p:=hlen;omega
 have et:=QhY d E p z o z' o' g0;refine Qf et ?_;clear et;refine QE (λb0=>?_) (λb0=>?_);have h:p<d.ps.n:=by have:=qdt b0;omega
 have hw:=hw h
 iterate 70 refine Qu (by first|exact tv|exact h|with_reducible exact qRr|exact rfl) ?_
 refine Qg λa0=>?_;refine Qj λg0=>?_;refine⟨(p+1,z',o'),⟨h,hl2 h⟩,by show d.ps.n-(p+1)<d.ps.n-p;omega,next h,rfl,rfl,_,QfU d E (p+1) z' p o',?_⟩
 rotate_left
 have h:d.ps.n<=p:=by have:=qdf b0;omega
 refine⟨_,last h,rfl,rfl,_,QfQ o z d E p,?_⟩
 rotate_left
 all_goals (repeat' first|with_reducible refine QL ?_ ?_|exact tv|with_reducible exact qRr|with_reducible exact hw|exact rfl|refine aI ?_ ?_)
def Xi:List Tw:=(Hp d E 0 (0,[])).2
theorem QbO(pb:List Prop->Bool){d:Puz}{E:ECt}(hE:WfE E)(hT:Qc (jx pb d E))(G:Ctx)(hrd:G.rd=none)(hG:G.n<=368):Qw (mkE prog (jx pb d E)) G (QGL prog pb d E (Xi d E)) (Qk f21):=by
 refine KN (body:=QH f21 0) (QO hT) hrd (by kernel_rfl) ?_
 refine Jh λhok=>?_;have hd:=(ZA (Y4 hok)).1;refine QOh (E0:=mkE prog (jx pb d E)) (E:=λ_ _=>mkE prog QT) (H:=λ(k:Nat×Nat×List Tw) _=>toH prog d E k.1 k.2.1 k.2.2 (toX d E k.1 k.2)) (n0:=376) (D:=368) (s0:=(0,0,[])) (λ_ _=>rfl) (λ_ _ _=>QO Qh) (by omega) hG (λk g hk=>QaM hd hE k.1 k.2 hk.2 G hrd hG) (λk _=>⟨(by decide:376<=416),rfl⟩) ?_ (QZO d E hd.n) ⟨Nat.zero_le _,Nat.zero_le _⟩ ?_
 .rintro k e J ⟨_,rfl⟩;exact⟨(by decide:376<=416),rfl⟩
 .rintro e J ⟨rfl,rfl⟩;exact⟨_,qmc,trivial,rfl,rfl⟩
def z6:List Tw×Int:=cond d.ok (J1 (Xi d (QK d)),0) ([],1)
def Zt:WF (Puz×Unit):=λ|(d,_)=>(decide (d.ps.n<=1000),QEa (z6 d).1 (z6 d).2,H8 (z6 d).1)
def Qhj:FC:=wFC Zt
theorem QeW:WOk (Zt (d,())).2.1 (Zt (d,())).2.2:=⟨rfl,by simp[Zt,H8,rwT,Blk.own,Blk.all],rfl⟩
theorem Qf6:(Xi d E).length<=d.ps.n*d.ps.n:=by
 have key:∀(l:List Nat) (s:Nat×List Tw),(∀ p∈l,p<=d.ps.n)->(l.foldl (λs p=>V0 d E p 0 s) s).2.length<=s.2.length+l.length*d.ps.n:=by
  intro l
  induction l with
  | nil=>intro s _;exact Nat.le_add_right _ _
  | cons p l ih=>
   intro s hl;rw[List.foldl_cons,List.length_cons,Nat.succ_mul];have h1:=ih (V0 d E p 0 s) (λq hq=>hl q (List.mem_cons_of_mem _ hq));have h2:=QRI d E p s;have h3:=hl p qmc;omega
 have:=key (List.range d.ps.n) (0,[]) (λp hp=>Nat.le_of_lt (List.mem_range.1 hp));rw[List.length_range]at this;unfold Xi Hp;rw[List.drop_zero];simpa using this
theorem QZl(hx:(Zt (d,())).1=true):QR prog 21 (wFC (VY Zt (d,()))):=by
 have hn:d.ps.n<=1000:=qdt hx;have hO:=Y1 d hn;have hT:Qc (jx QQ d (QK d)):=(Qeb.add QiI).add (Zn d (by omega))
 have hll:=Qf6 d (QK d);have hmm:=Nat.mul_le_mul hn hn;refine Yu (c:=Qk f21) (E:=mkE prog (jx QQ d (QK d))) (H:=QGL prog QQ d (QK d) (Xi d (QK d))) (QO hT) func21 (by kernel_rfl) (by kernel_rfl) (N:=112) (by decide) (d,()) (λG h1 h2=>QbO QQ hO.w hT G h1 (by rw[h2];decide)) (QeW d) ?_
 generalize hE:Xi d (QK d)=o at hll;have hv:z6 d=cond d.ok (J1 o,0) ([],1):=by unfold z6;rw[hE]
 have hs:=QTs o
 have hl:(List.range o.length).map (Yb λi=>QA.enc (o.getD i (⟨0,0⟩:Tw)))=o:=by
  apply List.ext_getElem
  .simp
  .intro i h1 h2;rw[List.getElem_map,List.getElem_range];show(⟨(o.getD i ⟨0,0⟩:Tw).a,(o.getD i ⟨0,0⟩:Tw).b⟩:Tw)=_;rw[Vu h2]
 have hr:∀ k,QB 2 k (YH o.length λi=>QA.enc ((Rw.mk o.length λi=>o.getD i (⟨0,0⟩:Tw)).get i)) λi=>QA.enc ((J1 o).getD i (⟨0,0⟩:Tw)):=by
  intro k i _;show eqF 2 0 (YH o.length (λi=>QA.enc (o.getD i (⟨0,0⟩:Tw))) i) _;unfold YH;rw[hl];exact QFO _ _ _
 have et:=Qab QQ d (QK d) o;refine Qf et ?_;clear et;refine QG ?_ ?_;rotate_left;refine QE (λb0=>?_) (λb0=>?_);have b0:d.ok=false:=by simpa using b0
 rw[b0,cond_false]at hv;simp only[Zt,hv];refine⟨rfl,rfl,_,Qdw [] 1,?_⟩
 rotate_left
 have b0:d.ok=true:=by simpa using b0
 rw[b0,cond_true]at hv
 iterate 2 (refine QG ?_ ?_;rotate_left)
 iterate 57 refine Qu (by first|exact tv|exact b0|with_reducible exact qRr|exact rfl) ?_
 refine Qg λa0=>?_;refine Qj λg0=>?_
 iterate 2 (refine QG ?_ ?_;rotate_left)
 simp only[Zt,hv];refine⟨rfl,rfl,_,Qb6 o (J1 o) 0,?_⟩
 rotate_left
 all_goals first|((with_reducible show _=true);(first|(refine KI.2 ?_;repeat' first|with_reducible refine QL ?_ ?_|exact tv|with_reducible exact qRr|exact rfl|refine aI ?_ ?_)|(simp;omega)))|(repeat' first|with_reducible refine QL ?_ ?_|exact tv|with_reducible exact qRr|with_reducible exact hr _|omega|exact rfl|refine aI ?_ ?_)
theorem Qg0:QR prog 21 Qhj:=Gc (by kernel_rfl) λ|(d,()),hx=>QZl d hx
open Go Go.Sort Go.SX Go.SX.Told
def goB{σ:Type}:Qd σ->Bool
 | .go _=>true
 | .stop _=>false
theorem QK1{σ α:Type}{f:σ->α->Qd σ}{p:α->Bool}(h:∀ s a,goB (f s a) = !p a):∀(l:List α) (s:σ),goB (Q5 f l s) = !l.any p
 | [],_=>rfl
 | a::l,s=>by
  have ha:=h s a;simp only[Q5,List.any_cons];cases hf:f s a with
  | go s'=>
   rw[hf]at ha;have:p a=false:=by simpa[goB]using ha
   rw[this,Bool.false_or];exact QK1 h l s'
  | stop s'=>
   rw[hf]at ha;have:p a=true:=by simpa[goB]using ha
   rw[this];rfl
variable {x:Tw}(d:Puz)(E:ECt)
def twB(a b:Nat):Bool:=(JO d E).any λl=>V3 d E (l.map (swS b a))
theorem QgT(p q:Nat)(s:Nat×List Tw):(tiZ d E p q s).2=s.2++cond (twB d E q p) [⟨q,p⟩] []:=by
 have h:=QK1 (f:=λ(s:TJ) l=>twA d E p q l s) (p:=λl=>V3 d E (l.map (swS p q))) (λs l=>by
  unfold twA;cases V3 d E (l.map (swS p q))<;>rfl) (JO d E) ⟨s.1,trivial⟩
 rw[<-QTZ]at h;unfold tiZ twB;cases hr:onY d E (twA d E p q) d.ps.n [] ⟨s.1,trivial⟩with
 | go z=>
  rw[hr]at h;have:((JO d E).any λl=>V3 d E (l.map (swS p q)))=false:=by simpa[goB]using h
  rw[this];simp
 | stop z=>
  rw[hr]at h;have:((JO d E).any λl=>V3 d E (l.map (swS p q)))=true:=by simpa[goB]using h
  rw[this];simp
def H9(p q:Nat):List Tw:=cond (twB d E q p) [⟨q,p⟩] []
theorem QJt{α β σ:Type}{f:σ->α->σ}{v:σ->List β}{g:α->List β}(h:∀ s a,v (f s a)=v s++g a):∀(l:List α) (s:σ),v (l.foldl f s)=v s++l.flatMap g
 | [],s=>by simp
 | a::l,s=>by rw[List.foldl_cons,QJt h l,h,List.flatMap_cons,List.append_assoc]
theorem Qbc(p:Nat)(s:Nat×List Tw):(V0 d E p 0 s).2=s.2++(List.range p).flatMap (H9 d E p):=by
 unfold V0;rw[List.drop_zero];exact QJt (v:=Prod.snd) (λs q=>QgT d E p q s) _ _
theorem QNC:Xi d E=(List.range d.ps.n).flatMap λp=>(List.range p).flatMap (H9 d E p):=by
 unfold Xi Hp;rw[List.drop_zero];exact(QJt (v:=Prod.snd) (λs p=>Qbc d E p s) _ _).trans (List.nil_append _)
theorem QBR{d:Puz}{E:ECt}{p q:Nat}:x∈H9 d E p q↔twB d E q p=true/\x=⟨q,p⟩:=by
 unfold H9;cases twB d E q p<;>simp
theorem Qfo{d:Puz}{E:ECt}:x∈Xi d E↔∃ a b,a<b/\b<d.ps.n/\twB d E a b=true/\x=⟨a,b⟩:=by
 rw[QNC];simp only[List.mem_flatMap,List.mem_range,QBR];constructor
 .rintro⟨p,hp,q,hq,h1,h2⟩;exact⟨q,p,hq,hp,h1,h2⟩
 .rintro⟨a,b,hab,hb,h1,h2⟩;exact⟨b,hb,a,hab,h1,h2⟩
theorem Qd8:(Xi d E).Nodup:=by
 rw[QNC];unfold List.Nodup;rw[List.pairwise_flatMap];refine⟨λp _=>?_,List.pairwise_lt_range.imp λ{p p'} hp x hx y hy=>?_⟩
 .rw[List.pairwise_flatMap];refine⟨λq _=>?_,List.pairwise_lt_range.imp λ{q q'} hq x hx y hy=>?_⟩
  .unfold H9;cases twB d E q p
   .exact List.Pairwise.nil
   .exact List.pairwise_singleton _ _
  .obtain⟨_,rfl⟩:=QBR.1 hx;obtain⟨_,rfl⟩:=QBR.1 hy;intro e;simp only[Tw.mk.injEq]at e;omega
 .obtain⟨q,_,hx⟩:=List.mem_flatMap.1 hx;obtain⟨q',_,hy⟩:=List.mem_flatMap.1 hy;obtain⟨_,rfl⟩:=QBR.1 hx;obtain⟨_,rfl⟩:=QBR.1 hy;intro e;simp only[Tw.mk.injEq]at e;omega
def QC6(a:Nat):List Tw:=(List.range d.ps.n).flatMap λb=>cond (decide (a<b)&&twB d E a b) [⟨a,b⟩] []
def vx:List Tw:=(List.range d.ps.n).flatMap (QC6 d E)
theorem QDr{d:Puz}{E:ECt}{a:Nat}:x∈QC6 d E a↔∃ b,a<b/\b<d.ps.n/\twB d E a b=true/\x=⟨a,b⟩:=by
 unfold QC6;rw[List.mem_flatMap];constructor
 .rintro⟨b,hb,hx⟩;cases h:decide (a<b)&&twB d E a b with
  | false=>rw[h]at hx;cases hx
  | true=>
   rw[h]at hx;rw[qbA,qdE]at h;exact⟨b,h.1,List.mem_range.1 hb,h.2,by simpa using hx⟩
 .rintro⟨b,h1,h2,h3,rfl⟩;refine⟨b,List.mem_range.2 h2,?_⟩;rw[qde h1,h3];exact List.mem_singleton.2 rfl
theorem QUa:(vx d E).Pairwise λx y=>Jl x y<0:=by
 unfold vx;rw[List.pairwise_flatMap];refine⟨λa _=>?_,List.pairwise_lt_range.imp λ{a a'} ha x hx y hy=>?_⟩
 .unfold QC6;rw[List.pairwise_flatMap];refine⟨λb _=>?_,List.pairwise_lt_range.imp λ{b b'} hb x hx y hy=>?_⟩
  .cases decide (a<b)&&twB d E a b
   .exact List.Pairwise.nil
   .exact List.pairwise_singleton _ _
  .cases h:decide (a<b)&&twB d E a b with
   | false=>rw[h]at hx;cases hx
   | true=>
    cases h':decide (a<b')&&twB d E a b' with
    | false=>rw[h']at hy;cases hy
    | true=>
     rw[h]at hx;rw[h']at hy;have hx:x=⟨a,b⟩:=by simpa using hx
     have hy:y=⟨a,b'⟩:=by simpa using hy
     subst hx hy;rw[Xo];exact .inr ⟨rfl,by show(b:Int)<b';omega⟩
 .obtain⟨b,_,_,_,rfl⟩:=QDr.1 hx;obtain⟨b',_,_,_,rfl⟩:=QDr.1 hy;rw[Xo];exact .inl (by show(a:Int)<a';omega)
theorem Qie(x:Tw):¬ Jl x x<0:=by rw[Xo];omega
theorem QZb{l l':List Tw}(h:l.Perm l'):J1 l=J1 l':=by
 have h1:(J1 l).Pairwise λx y=>(!(ltOf Jl) y x)=true:=List.pairwise_mergeSort (λa b c h1 h2=>by
   simp only[ltOf,Bool.not_eq_true',decide_eq_false_iff_not,Xo]at *;omega) (λa b=>by
   simp only[ltOf,qbO,Bool.not_eq_true',decide_eq_false_iff_not,Xo];omega) l
 have h2:(J1 l').Pairwise λx y=>(!(ltOf Jl) y x)=true:=List.pairwise_mergeSort (λa b c h1 h2=>by
   simp only[ltOf,Bool.not_eq_true',decide_eq_false_iff_not,Xo]at *;omega) (λa b=>by
   simp only[ltOf,qbO,Bool.not_eq_true',decide_eq_false_iff_not,Xo];omega) l'
 have hp:(J1 l).Perm (J1 l'):=(List.mergeSort_perm l _).trans (h.trans (List.mergeSort_perm l' _).symm);exact hp.eq_of_pairwise (λa b _ _ q1 q2=>QRP a b (by simpa using q2) (by simpa using q1)) h1 h2
theorem Qjp:J1 (Xi d E)=vx d E:=by
 have hnd:(vx d E).Nodup:=(QUa d E).imp λ{x y} h q=>by subst q;exact Qie x h
 have hp:(Xi d E).Perm (vx d E):=by
  rw[List.perm_ext_iff_of_nodup (Qd8 d E) hnd];intro x;rw[Qfo];unfold vx;rw[List.mem_flatMap];constructor
  .rintro⟨a,b,h1,h2,h3,rfl⟩;exact⟨a,List.mem_range.2 (by omega),QDr.2 ⟨b,h1,h2,h3,rfl⟩⟩
  .rintro⟨a,_,hx⟩;obtain⟨b,h1,h2,h3,rfl⟩:=QDr.1 hx;exact⟨a,b,h1,h2,h3,rfl⟩
 rw[QZb hp];unfold J1;refine List.mergeSort_of_pairwise ((QUa d E).imp λ{x y} h=>?_);have:¬ Jl y x<0:=by rw[Xo]at h ⊢;omega
 simp[ltOf,this]
end Go.Proofs.YtekbmehgcofnkaaGreat
namespace Go.SX
theorem QJ7{P:Go.Program}{f:Go.FuncId}{α:Type}[Qb α]{F G:WF α}(h:QR P f (wFC F))(hFG:∀ x,(G x).1=true->F x=G x):QR P f (wFC G):=by
 refine⟨h.1,λargs nid all r w lk blks eff hH ha hv he hp=>?_⟩;simp only[wFC]at hv he;split at he<;>(try (cases he;done))
 rename_i p x hd;simp only[qsI]at he;subst he;have hp':(p&&(G x).1)=true:=hp;rw[qbA]at hp';refine h.2 args nid all r w lk blks _ hH ha hv ?_ hp;simp only[wFC,hd,hFG x hp'.2]
end Go.SX
namespace Go.Proofs.YtekbmehgcofnkaaGreat
open Go Go.Sort Go.SX Go.SX.Told
variable (d:Puz)
def KP:List Jn×List Jn×Int:=cond d.ok (Qe d 2,Qe d 1,0) ([],[],1)
def QTh:WF (Puz×Unit):=λ|(d,_)=>(decide (d.ps.n<=1000),QCT (KP d).1 (KP d).2.1 (KP d).2.2,QA5 (KP d).1 (KP d).2.1)
theorem Qgu{d:Puz}(hn:d.ps.n<=1000):Wv d=KP d:=by
 unfold Wv KP;rw[QCm d hn (by decide),QCm d hn (by decide)]
def QUB:FC:=wFC QTh
theorem Qdl:QR prog 40 QUB:=QJ7 QcP fun
 | (d,_),h=>by
  have hn:d.ps.n<=1000:=qdt h;simp only[WT,QTh,Qgu hn]
def w0L:LJ:=if h:(Qe d 1).length<=1000000000 then ⟨_,h⟩else ⟨[],by decide⟩
theorem QVY{d:Puz}(hn:d.ps.n<=1000):w0Z d=w0L d:=by
 unfold w0Z w0L;have:=QCm d hn (m:=1) (by decide)
 simp only[this]
def QB3:List Jn×Int:=cond d.ok ((match onY d (QK d) (faY d) d.ps.n [] (w0L d)with | .go s | .stop s=>s.1),0) ([],1)
def QQg:WF (Puz×Unit):=λ|(d,_)=>(decide (d.ps.n<=1000),QAs (QB3 d).1 (QB3 d).2,zd (QB3 d).1)
theorem QaF{d:Puz}(hn:d.ps.n<=1000):Yv d=QB3 d:=by
 unfold Yv QB3;rw[QVY hn];rfl
def QSC:FC:=wFC QQg
theorem QhU:QR prog 43 QSC:=QJ7 QjT fun
 | (d,_),h=>by
  have hn:d.ps.n<=1000:=qdt h;simp only[Xs,QQg,QaF hn]
def QCa:List Tw×Int:=cond d.ok (vx d (QK d),0) ([],1)
def QLU:WF (Puz×Unit):=λ|(d,_)=>(decide (d.ps.n<=1000),QEa (QCa d).1 (QCa d).2,H8 (QCa d).1)
def QPH:FC:=wFC QLU
theorem QdG:QR prog 21 QPH:=QJ7 Qg0 fun
 | (d,_),_=>by simp only[Zt,QLU,z6,QCa,Qjp]
