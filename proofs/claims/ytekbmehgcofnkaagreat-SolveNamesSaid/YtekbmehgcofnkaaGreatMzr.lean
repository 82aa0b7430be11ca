/- - -/
import Derived.Test.YtekbmehgcofnkaaGreatMzq
import Derived.Test.YtekbmehgcofnkaaGreatMzg
import Derived.Test.YtekbmehgcofnkaaGreatMzd
import Derived.Test.YtekbmehgcofnkaaGreatMzn
import Derived.Test.YtekbmehgcofnkaaGreatMz
import Derived.Test.YtekbmehgcofnkaaGreatMzj
open Go.Proofs.Tryz
open Go.IntKind (i64)
set_option maxRecDepth 100000
namespace Go.Proofs.YtekbmehgcofnkaaGreat
open Go.SX Go.SX.Told
def j9(pb:List Prop->Bool)(d:Puz)(E:ECt):Tab:=Qa (Qa QOF 106 QNi) 60 (KG pb (nbU d E))
def QB9(f:List Tw)(e:Int):AV := .tup [.slz 0 0 f.length (.of 0),.int false .i64 e]
def QAh(f:List Tw):List (Nat×Blk):=[rwT 0 f]
abbrev QGX(P:Program)(pb:List Prop->Bool)(d:Puz)(E:ECt)(o:List Tw):Hnd:={ hnd (mkE P (j9 pb d E)) 8 with loop:=λ_=>JP (d.ok=true) (QE8 376 vE (toJ d E (0:Nat) (0:Nat) []) [(True,.exit 0,(toF o).dfrs 368)]) }
variable (d:Puz)(E:ECt)
abbrev QLa:List Prop:=
  (wab d++([cO=cO]++wae d))
theorem QXp(pb:List Prop->Bool)(d:Puz)(E:ECt)(o:List Tw):Kn (mkE prog (j9 pb d E)) (QGX prog pb d E o) f21 (Qe.vals 0 ((d,()):Puz×Unit)) (Qe.blks 0 ((d,()):Puz×Unit)) 112 = .need (decide (d.ps.n<=d.ps.n)&&true&&decide (d.ps.n<=1000)) (.br (!d.ok) (.leaf (.tup [.nils,vj 1]) ([])) (.need (pb ((QLa d))) (.need (pb ((QLa d))) (.ak [d.ok=true] (.ak (rz 8) (.ak ([(d.ps.n:Int)=(d.ps.n:Int),(0:Int)=0]++wab d++[cO=cO,0=0,E.1=E.1,E.2=E.2,0=0]++wab d++[cO=cO,0=0,E.1=E.1,E.2=E.2,0=0,0=0,0=0,0=0]++wab d++([cO=cO]++wae d)) (.asm (True) (.all (λ(g0:Nat->Value)=>.need (decide (o.length<=o.length)&&true&&decide (o.length<=1000000)) (.need (decide (o.length=o.length)&&decide (o.length<4611686018427387904)) (.leaf (.tup [.slz 440 0 o.length cO,vj 0]) ([(440,.rowz true 89 kB o.length (Xy o.length λi=>QA.enc ((Rw.mk o.length λi=>o.getD i (Tw.mk (0:Int) (0:Int))).get i)))])))))))))))):=by kernel_rfl
theorem Qe7(f:List Tw)(e:Int):QE 112 [(AV.tup [AV.nils,vj (1:Int)])] ([]) (KN 112 (QB9 f e) (QAh f))=( some [f.length=(0:Nat),(1:Int)=e,f.length=(0:Nat)]):=by kernel_rfl
theorem QeG(o f:List Tw)(e:Int):QE 112 [(AV.tup [AV.slz (440:Nat) (0:Nat) o.length cO,vj (0:Int)])] ([((440:Nat),Blk.rowz true (89:Nat) [CK.int i64,CK.int i64] o.length (Xy o.length λi=>QA.enc ((Rw.mk o.length λi=>o.getD i (Tw.mk (0:Int) (0:Int))).get i)))]) (KN 112 (QB9 f e) (QAh f))=( some [0=0,o.length=f.length,cO=cO,(0:Int)=e,f.length<=o.length,QB (2:Nat) f.length (Xy o.length λi=>QA.enc ((Rw.mk o.length λi=>o.getD i (Tw.mk (0:Int) (0:Int))).get i)) λi=>QA.enc (f.getD i (Tw.mk (0:Int) (0:Int)))]):=by kernel_rfl
theorem QO3(p:Nat)(s:Nat×List Tw):(V2 d E p 0 s).2.length<=s.2.length+p:=by
 have key:∀(l:List Nat) (s:Nat×List Tw),(l.foldl (λs q=>tiZ d E p q s) s).2.length<=s.2.length+l.length:=by
  intro l
  induction l with
  | nil=>intro s;exact qlr _
  | cons q l ih=>
   intro s;rw[List.foldl_cons,List.length_cons];have h1:=ih (tiZ d E p q s);have h2:=Qcg d E p q s;omega
 have:=key (List.range p) s;rw[List.length_range]at this;unfold V2;rw[List.drop_zero];exact this
def toX(p:Nat)(s:Nat×List Tw):List (Prop×Ex×JSt):=[(True,.exit 2,(toJ d E p (V2 d E p 0 s).1 (V2 d E p 0 s).2).dfrs 368)]
theorem QeD{d:Puz}(hd:KB d){E:ECt}(hE:WfE E)(p:Nat)(s:Nat×List Tw)(hs:s.2.length<=1000*p)(G:Ctx)(hrd:G.rd=none)(hG:G.n<=368):Qx (mkE prog QT) G (toH prog d E p s.1 s.2 (toX d E p s)) (QI f21 0):=by
 refine KO (body:=QZ (QI f21 0)) (QO Qf) hrd (by kernel_rfl) ?_
 refine Jj λhp=>?_;have hEnv:∀(k:Nat×Nat×List Tw) (g:Nat->Value),(k.1<=p/\k.2.2.length<=1000*p+k.1)->(qK prog d E p k g).Sound:=λk g hk=>QUI hd hE hp k g hk.2;refine QRE (E0:=mkE prog QT) (E:=qK prog d E p) (H:=λk g=>hnd (qK prog d E p k g) 8) (n0:=376) (D:=368) (s0:=(0,s)) (λ_ _=>rfl) hEnv (by omega) hG (λk g hk=>Qw (hEnv k g hk) 8 G _ hrd) (λk _=>⟨(by decide:376<=416),rfl⟩) ?_ (QdP d E p hp hd.n) ⟨Nat.zero_le _,hs⟩ ?_
 .rintro k e J ⟨_,rfl⟩;exact⟨(by decide:376<=416),rfl⟩
 .rintro e J ⟨rfl,rfl⟩;exact⟨_,qmc,trivial,rfl,rfl⟩
def zx(k:Nat×Nat×List Tw)(e:Ex)(J:JSt):Prop:=e = .exit 0/\J=toF (Gq d E k.1 k.2).2
theorem Qbk(hn:d.ps.n<=1000):QEX (λk:Nat×Nat×List Tw=>toJ d E k.1 k.2.1 k.2.2) (λk=>k.1<=d.ps.n/\k.2.2.length<=1000*k.1) (λk=>d.ps.n-k.1) (zx d E) 376 368 QKb vE (λ_ _=>mkE prog QT) (λk _=>toH prog d E k.1 k.2.1 k.2.2 (toX d E k.1 k.2)) (QI f21 0):=by
 refine⟨λk g0 hk=>?_⟩;obtain⟨p,z,o⟩:=k;obtain⟨hk,hol⟩:=hk;have hk:p<=d.ps.n:=hk;have hol:o.length<=1000*p:=hol;have hw:p<d.ps.n->i64.wrap ((p:Int)+1)=((p+1:Nat):Int):=λh=>VT h hn;have hlen:=QO3 d E p (z,o)
 have next:p<d.ps.n->∀ e J,zx d E (p+1,V2 d E p 0 (z,o)) e J->zx d E (p,z,o) e J:=by
  intro h e J hr;unfold zx Gq at hr ⊢;rw[QOw h];exact hr
 have last:d.ps.n<=p->zx d E (p,z,o) (.exit 0) (toF o):=by
  intro h;unfold zx Gq;simp only[QMH h,and_self]
 unfold toX;simp only;generalize V2 d E p 0 (z,o)=s at next hlen ⊢
 obtain⟨z',o'⟩:=s
 have hl2:p<d.ps.n->o'.length<=1000*(p+1):=λh=>by
  have:o'.length<=o.length+p:=hlen;omega
 have et:=QUR d E p z o z' o' g0;refine Qg et ?_;clear et;refine QF (λb0=>?_) (λb0=>?_);have h:p<d.ps.n:=by have:=qdt b0;omega
 have hw:=hw h
 iterate 70 refine Qq (by first|exact tv|exact h|with_reducible exact qRr|exact rfl) ?_
 refine Qh λa0=>?_;refine Qj λg0=>?_;refine⟨(p+1,z',o'),⟨h,hl2 h⟩,by show d.ps.n-(p+1)<d.ps.n-p;omega,next h,rfl,rfl,_,QbM d E (p+1) z' p o',?_⟩
 rotate_left
 have h:d.ps.n<=p:=by have:=qdf b0;omega
 refine⟨_,last h,rfl,rfl,_,QVY o z d E p,?_⟩
 rotate_left
 all_goals (repeat' first|with_reducible refine QP ?_ ?_|exact tv|with_reducible exact qRr|with_reducible exact hw|exact rfl|refine aI ?_ ?_)
def YW:List Tw:=(Gq d E 0 (0,[])).2
theorem QU8(pb:List Prop->Bool){d:Puz}{E:ECt}(hE:WfE E)(hT:Qd (j9 pb d E))(G:Ctx)(hrd:G.rd=none)(hG:G.n<=368):Qx (mkE prog (j9 pb d E)) G (QGX prog pb d E (YW d E)) (Ql f21):=by
 refine KO (body:=QI f21 0) (QO hT) hrd (by kernel_rfl) ?_
 refine Jj λhok=>?_;have hd:=(WQ (Zl hok)).1;refine QRE (E0:=mkE prog (j9 pb d E)) (E:=λ_ _=>mkE prog QT) (H:=λ(k:Nat×Nat×List Tw) _=>toH prog d E k.1 k.2.1 k.2.2 (toX d E k.1 k.2)) (n0:=376) (D:=368) (s0:=(0,0,[])) (λ_ _=>rfl) (λ_ _ _=>QO Qf) (by omega) hG (λk g hk=>QeD hd hE k.1 k.2 hk.2 G hrd hG) (λk _=>⟨(by decide:376<=416),rfl⟩) ?_ (Qbk d E hd.n) ⟨Nat.zero_le _,Nat.zero_le _⟩ ?_
 .rintro k e J ⟨_,rfl⟩;exact⟨(by decide:376<=416),rfl⟩
 .rintro e J ⟨rfl,rfl⟩;exact⟨_,qmc,trivial,rfl,rfl⟩
def G4:List Tw×Int:=cond d.ok (J1 (YW d (QK d)),0) ([],1)
def WE:WF (Puz×Unit):=λ|(d,_)=>(decide (d.ps.n<=1000),QB9 (G4 d).1 (G4 d).2,QAh (G4 d).1)
def QfL:FC:=wFC WE
theorem QWh:WOk (WE (d,())).2.1 (WE (d,())).2.2:=⟨rfl,by simp[WE,QAh,rwT,Blk.own,Blk.all],rfl⟩
theorem Qaf:(YW d E).length<=d.ps.n*d.ps.n:=by
 have key:∀(l:List Nat) (s:Nat×List Tw),(∀ p∈l,p<=d.ps.n)->(l.foldl (λs p=>V2 d E p 0 s) s).2.length<=s.2.length+l.length*d.ps.n:=by
  intro l
  induction l with
  | nil=>intro s _;exact Nat.le_add_right _ _
  | cons p l ih=>
   intro s hl;rw[List.foldl_cons,List.length_cons,Nat.succ_mul];have h1:=ih (V2 d E p 0 s) (λq hq=>hl q (List.mem_cons_of_mem _ hq));have h2:=QO3 d E p s;have h3:=hl p qmc;omega
 have:=key (List.range d.ps.n) (0,[]) (λp hp=>Nat.le_of_lt (List.mem_range.1 hp));rw[List.length_range]at this;unfold YW Gq;rw[List.drop_zero];simpa using this
theorem QfM(hx:(WE (d,())).1=true):QS prog 21 (wFC (VW WE (d,()))):=by
 have hn:d.ps.n<=1000:=qdt hx;have hO:=Zo d hn;have hT:Qd (j9 QQ d (QK d)):=(Qax.add QX3).add (WI d (by omega))
 have hll:=Qaf d (QK d);have hmm:=Nat.mul_le_mul hn hn;refine Yh (c:=Ql f21) (E:=mkE prog (j9 QQ d (QK d))) (H:=QGX prog QQ d (QK d) (YW d (QK d))) (QO hT) func21 (by kernel_rfl) (by kernel_rfl) (N:=112) (by decide) (d,()) (λG h1 h2=>QU8 QQ hO.w hT G h1 (by rw[h2];decide)) (QWh d) ?_
 generalize hE:YW d (QK d)=o at hll;have hv:G4 d=cond d.ok (J1 o,0) ([],1):=by unfold G4;rw[hE]
 have hs:=QSq o
 have hl:(List.range o.length).map (Yr λi=>QA.enc (o.getD i (⟨0,0⟩:Tw)))=o:=by
  apply List.ext_getElem
  .simp
  .intro i h1 h2;rw[List.getElem_map,List.getElem_range];show(⟨(o.getD i ⟨0,0⟩:Tw).a,(o.getD i ⟨0,0⟩:Tw).b⟩:Tw)=_;rw[JL h2]
 have hr:∀ k,QB 2 k (Xy o.length λi=>QA.enc ((Rw.mk o.length λi=>o.getD i (⟨0,0⟩:Tw)).get i)) λi=>QA.enc ((J1 o).getD i (⟨0,0⟩:Tw)):=by
  intro k i _;show eqF 2 0 (Xy o.length (λi=>QA.enc (o.getD i (⟨0,0⟩:Tw))) i) _;unfold Xy;rw[hl];exact QEp _ _ _
 have et:=QXp QQ d (QK d) o;refine Qg et ?_;clear et;refine QG ?_ ?_;rotate_left;refine QF (λb0=>?_) (λb0=>?_);have b0:d.ok=false:=by simpa using b0
 rw[b0,cond_false]at hv;simp only[WE,hv];refine⟨rfl,rfl,_,Qe7 [] 1,?_⟩
 rotate_left
 have b0:d.ok=true:=by simpa using b0
 rw[b0,cond_true]at hv
 iterate 2 (refine QG ?_ ?_;rotate_left)
 iterate 57 refine Qq (by first|exact tv|exact b0|with_reducible exact qRr|exact rfl) ?_
 refine Qh λa0=>?_;refine Qj λg0=>?_
 iterate 2 (refine QG ?_ ?_;rotate_left)
 simp only[WE,hv];refine⟨rfl,rfl,_,QeG o (J1 o) 0,?_⟩
 rotate_left
 all_goals first|((with_reducible show _=true);(first|(refine KA.2 ?_;repeat' first|with_reducible refine QP ?_ ?_|exact tv|with_reducible exact qRr|exact rfl|refine aI ?_ ?_)|(simp;omega)))|(repeat' first|with_reducible refine QP ?_ ?_|exact tv|with_reducible exact qRr|with_reducible exact hr _|omega|exact rfl|refine aI ?_ ?_)
theorem Qc8:QS prog 21 QfL:=zH (by kernel_rfl) λ|(d,()),hx=>QfM d hx
open Go Go.Sort Go.SX Go.SX.Told
def goB{σ:Type}:Qb σ->Bool
 | .go _=>true
 | .stop _=>false
theorem QQ2{σ α:Type}{f:σ->α->Qb σ}{p:α->Bool}(h:∀ s a,goB (f s a) = !p a):∀(l:List α) (s:σ),goB (Qv f l s) = !l.any p
 | [],_=>rfl
 | a::l,s=>by
  have ha:=h s a;simp only[Qv,List.any_cons];cases hf:f s a with
  | go s'=>
   rw[hf]at ha;have:p a=false:=by simpa[goB]using ha
   rw[this,Bool.false_or];exact QQ2 h l s'
  | stop s'=>
   rw[hf]at ha;have:p a=true:=by simpa[goB]using ha
   rw[this];rfl
variable {x:Tw}(d:Puz)(E:ECt)
def twB(a b:Nat):Bool:=(Ko d E).any λl=>V4 d E (l.map (swS b a))
theorem QXf(p q:Nat)(s:Nat×List Tw):(tiZ d E p q s).2=s.2++cond (twB d E q p) [⟨q,p⟩] []:=by
 have h:=QQ2 (f:=λ(s:TJ) l=>twA d E p q l s) (p:=λl=>V4 d E (l.map (swS p q))) (λs l=>by
  unfold twA;cases V4 d E (l.map (swS p q))<;>rfl) (Ko d E) ⟨s.1,trivial⟩
 rw[<-QHa]at h;unfold tiZ twB;cases hr:onY d E (twA d E p q) d.ps.n [] ⟨s.1,trivial⟩with
 | go z=>
  rw[hr]at h;have:((Ko d E).any λl=>V4 d E (l.map (swS p q)))=false:=by simpa[goB]using h
  rw[this];simp
 | stop z=>
  rw[hr]at h;have:((Ko d E).any λl=>V4 d E (l.map (swS p q)))=true:=by simpa[goB]using h
  rw[this];simp
def QA0(p q:Nat):List Tw:=cond (twB d E q p) [⟨q,p⟩] []
theorem QGx{α β σ:Type}{f:σ->α->σ}{v:σ->List β}{g:α->List β}(h:∀ s a,v (f s a)=v s++g a):∀(l:List α) (s:σ),v (l.foldl f s)=v s++l.flatMap g
 | [],s=>by simp
 | a::l,s=>by rw[List.foldl_cons,QGx h l,h,List.flatMap_cons,List.append_assoc]
theorem QYQ(p:Nat)(s:Nat×List Tw):(V2 d E p 0 s).2=s.2++(List.range p).flatMap (QA0 d E p):=by
 unfold V2;rw[List.drop_zero];exact QGx (v:=Prod.snd) (λs q=>QXf d E p q s) _ _
theorem QQi:YW d E=(List.range d.ps.n).flatMap λp=>(List.range p).flatMap (QA0 d E p):=by
 unfold YW Gq;rw[List.drop_zero];exact(QGx (v:=Prod.snd) (λs p=>QYQ d E p s) _ _).trans (List.nil_append _)
theorem Hz{d:Puz}{E:ECt}{p q:Nat}:x∈QA0 d E p q↔twB d E q p=true/\x=⟨q,p⟩:=by
 unfold QA0;cases twB d E q p<;>simp
theorem Qgm{d:Puz}{E:ECt}:x∈YW d E↔∃ a b,a<b/\b<d.ps.n/\twB d E a b=true/\x=⟨a,b⟩:=by
 rw[QQi];simp only[List.mem_flatMap,List.mem_range,Hz];constructor
 .rintro⟨p,hp,q,hq,h1,h2⟩;exact⟨q,p,hq,hp,h1,h2⟩
 .rintro⟨a,b,hab,hb,h1,h2⟩;exact⟨b,hb,a,hab,h1,h2⟩
theorem Qg8:(YW d E).Nodup:=by
 rw[QQi];unfold List.Nodup;rw[List.pairwise_flatMap];refine⟨λp _=>?_,List.pairwise_lt_range.imp λ{p p'} hp x hx y hy=>?_⟩
 .rw[List.pairwise_flatMap];refine⟨λq _=>?_,List.pairwise_lt_range.imp λ{q q'} hq x hx y hy=>?_⟩
  .unfold QA0;cases twB d E q p
   .exact List.Pairwise.nil
   .exact List.pairwise_singleton _ _
  .obtain⟨_,rfl⟩:=Hz.1 hx;obtain⟨_,rfl⟩:=Hz.1 hy;intro e;simp only[Tw.mk.injEq]at e;omega
 .obtain⟨q,_,hx⟩:=List.mem_flatMap.1 hx;obtain⟨q',_,hy⟩:=List.mem_flatMap.1 hy;obtain⟨_,rfl⟩:=Hz.1 hx;obtain⟨_,rfl⟩:=Hz.1 hy;intro e;simp only[Tw.mk.injEq]at e;omega
def QDV(a:Nat):List Tw:=(List.range d.ps.n).flatMap λb=>cond (decide (a<b)&&twB d E a b) [⟨a,b⟩] []
def jL:List Tw:=(List.range d.ps.n).flatMap (QDV d E)
theorem QDk{d:Puz}{E:ECt}{a:Nat}:x∈QDV d E a↔∃ b,a<b/\b<d.ps.n/\twB d E a b=true/\x=⟨a,b⟩:=by
 unfold QDV;rw[List.mem_flatMap];constructor
 .rintro⟨b,hb,hx⟩;cases h:decide (a<b)&&twB d E a b with
  | false=>rw[h]at hx;cases hx
  | true=>
   rw[h]at hx;rw[qbA,qdE]at h;exact⟨b,h.1,List.mem_range.1 hb,h.2,by simpa using hx⟩
 .rintro⟨b,h1,h2,h3,rfl⟩;refine⟨b,List.mem_range.2 h2,?_⟩;rw[qde h1,h3];exact List.mem_singleton.2 rfl
theorem QQY:(jL d E).Pairwise λx y=>Jk x y<0:=by
 unfold jL;rw[List.pairwise_flatMap];refine⟨λa _=>?_,List.pairwise_lt_range.imp λ{a a'} ha x hx y hy=>?_⟩
 .unfold QDV;rw[List.pairwise_flatMap];refine⟨λb _=>?_,List.pairwise_lt_range.imp λ{b b'} hb x hx y hy=>?_⟩
  .cases decide (a<b)&&twB d E a b
   .exact List.Pairwise.nil
   .exact List.pairwise_singleton _ _
  .cases h:decide (a<b)&&twB d E a b with
   | false=>rw[h]at hx;cases hx
   | true=>
    cases h':decide (a<b')&&twB d E a b' with
    | false=>rw[h']at hy;cases hy
    | true=>
     rw[h]at hx;rw[h']at hy;have hx:x=⟨a,b⟩:=by simpa using hx
     have hy:y=⟨a,b'⟩:=by simpa using hy
     subst hx hy;rw[X5];exact .inr ⟨rfl,by show(b:Int)<b';omega⟩
 .obtain⟨b,_,_,_,rfl⟩:=QDk.1 hx;obtain⟨b',_,_,_,rfl⟩:=QDk.1 hy;rw[X5];exact .inl (by show(a:Int)<a';omega)
theorem QXt(x:Tw):¬ Jk x x<0:=by rw[X5];omega
theorem Qhq{l l':List Tw}(h:l.Perm l'):J1 l=J1 l':=by
 have h1:(J1 l).Pairwise λx y=>(!(ltOf Jk) y x)=true:=List.pairwise_mergeSort (λa b c h1 h2=>by
   simp only[ltOf,Bool.not_eq_true',decide_eq_false_iff_not,X5]at *;omega) (λa b=>by
   simp only[ltOf,qbO,Bool.not_eq_true',decide_eq_false_iff_not,X5];omega) l
 have h2:(J1 l').Pairwise λx y=>(!(ltOf Jk) y x)=true:=List.pairwise_mergeSort (λa b c h1 h2=>by
   simp only[ltOf,Bool.not_eq_true',decide_eq_false_iff_not,X5]at *;omega) (λa b=>by
   simp only[ltOf,qbO,Bool.not_eq_true',decide_eq_false_iff_not,X5];omega) l'
 have hp:(J1 l).Perm (J1 l'):=(List.mergeSort_perm l _).trans (h.trans (List.mergeSort_perm l' _).symm);exact hp.eq_of_pairwise (λa b _ _ q1 q2=>QTB a b (by simpa using q2) (by simpa using q1)) h1 h2
theorem QaC:J1 (YW d E)=jL d E:=by
 have hnd:(jL d E).Nodup:=(QQY d E).imp λ{x y} h q=>by subst q;exact QXt x h
 have hp:(YW d E).Perm (jL d E):=by
  rw[List.perm_ext_iff_of_nodup (Qg8 d E) hnd];intro x;rw[Qgm];unfold jL;rw[List.mem_flatMap];constructor
  .rintro⟨a,b,h1,h2,h3,rfl⟩;exact⟨a,List.mem_range.2 (by omega),QDk.2 ⟨b,h1,h2,h3,rfl⟩⟩
  .rintro⟨a,_,hx⟩;obtain⟨b,h1,h2,h3,rfl⟩:=QDk.1 hx;exact⟨a,b,h1,h2,h3,rfl⟩
 rw[Qhq hp];unfold J1;refine List.mergeSort_of_pairwise ((QQY d E).imp λ{x y} h=>?_);have:¬ Jk y x<0:=by rw[X5]at h ⊢;omega
 simp[ltOf,this]
end Go.Proofs.YtekbmehgcofnkaaGreat
namespace Go.SX
theorem QHq{P:Go.Program}{f:Go.FuncId}{α:Type}[Qe α]{F G:WF α}(h:QS P f (wFC F))(hFG:∀ x,(G x).1=true->F x=G x):QS P f (wFC G):=by
 refine⟨h.1,λargs nid all r w lk blks eff hH ha hv he hp=>?_⟩;simp only[wFC]at hv he;split at he<;>(try (cases he;done))
 rename_i p x hd;simp only[qsI]at he;subst he;have hp':(p&&(G x).1)=true:=hp;rw[qbA]at hp';refine h.2 args nid all r w lk blks _ hH ha hv ?_ hp;simp only[wFC,hd,hFG x hp'.2]
end Go.SX
namespace Go.Proofs.YtekbmehgcofnkaaGreat
open Go Go.Sort Go.SX Go.SX.Told
variable (d:Puz)
def KC:List Jn×List Jn×Int:=cond d.ok (Ks d 2,Ks d 1,0) ([],[],1)
def QSD:WF (Puz×Unit):=λ|(d,_)=>(decide (d.ps.n<=1000),QDS (KC d).1 (KC d).2.1 (KC d).2.2,QAX (KC d).1 (KC d).2.1)
theorem Qae{d:Puz}(hn:d.ps.n<=1000):W6 d=KC d:=by
 unfold W6 KC;rw[QD2 d hn (by decide),QD2 d hn (by decide)]
def QHH:FC:=wFC QSD
theorem QP7:QS prog 40 QHH:=QHq Qaw fun
 | (d,_),h=>by
  have hn:d.ps.n<=1000:=qdt h;simp only[Zg,QSD,Qae hn]
def w0L:LJ:=if h:(Ks d 1).length<=1000000000 then ⟨_,h⟩else ⟨[],by decide⟩
theorem QNS{d:Puz}(hn:d.ps.n<=1000):w0Z d=w0L d:=by
 unfold w0Z w0L;have:=QD2 d hn (m:=1) (by decide)
 simp only[this]
def KD:List Jn×Int:=cond d.ok ((match onY d (QK d) (faY d) d.ps.n [] (w0L d)with | .go s | .stop s=>s.1),0) ([],1)
def QMY:WF (Puz×Unit):=λ|(d,_)=>(decide (d.ps.n<=1000),QAf (KD d).1 (KD d).2,GA (KD d).1)
theorem QZm{d:Puz}(hn:d.ps.n<=1000):Yu d=KD d:=by
 unfold Yu KD;rw[QNS hn];rfl
def QFh:FC:=wFC QMY
theorem QQL:QS prog 43 QFh:=QHq Qb1 fun
 | (d,_),h=>by
  have hn:d.ps.n<=1000:=qdt h;simp only[Xt,QMY,QZm hn]
def QFQ:List Tw×Int:=cond d.ok (jL d (QK d),0) ([],1)
def QKu:WF (Puz×Unit):=λ|(d,_)=>(decide (d.ps.n<=1000),QB9 (QFQ d).1 (QFQ d).2,QAh (QFQ d).1)
def QTS:FC:=wFC QKu
theorem QfS:QS prog 21 QTS:=QHq Qc8 fun
 | (d,_),_=>by simp only[WE,QKu,G4,QFQ,QaC]
def QDv:Tab:=Qa (Qa (Qa (Qa (Qa QTw 24 QG1) 43 QFh) 17 QRY) 19 QS3) 21 QTS
theorem QLB:Qd QDv:=((((QhK.add QRZ).add QQL).add QYl).add QhF).add QfS
theorem QZN:KW (mkG prog (X7 prog QDv [] 12)) (hnd (mkG prog (X7 prog QDv [] 12)) 100) false f16 [] [] 0 = .leaf (.bool true true) []:=by kernel_rfl
theorem QLp:QS prog 16 QA8:=QPB (QGC QLB [] 12) 100 func16 (by kernel_rfl) (by kernel_rfl) QZN
def QGf:Tab:=Qa (Qa QDv 40 QHH) 16 QA8
theorem Qcq:Qd QGf:=(QLB.add QP7).add QLp
theorem QgP:KW (mkG prog (X7 prog QGf [] 12)) (hnd (mkG prog (X7 prog QGf [] 12)) 100) false f10 [] [] 0 = .leaf (.bool true true) []:=by kernel_rfl
theorem QcR:QS prog 10 QA8:=QPB (QGC Qcq [] 12) 100 func10 (by kernel_rfl) (by kernel_rfl) QgP
