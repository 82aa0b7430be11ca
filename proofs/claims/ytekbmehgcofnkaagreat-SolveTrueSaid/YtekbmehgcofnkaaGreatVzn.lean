/- - -/
import Derived.Test.YtekbmehgcofnkaaGreatVzm
open Go.Proofs.Tryz
open Go.IntKind (i64)
set_option maxRecDepth 100000
namespace Go.Proofs.YtekbmehgcofnkaaGreat
open Go.SX Go.SX.Told
def jv(pb:List Prop->Bool)(d:Puz)(E:ECt):Tab:=Qc (Qc QRV 106 QSk) 60 (KT pb (nbU d E))
def QFn(f:List Tw)(e:Int):AV := .tup [.slz 0 0 f.length (.of 0),.int false .i64 e]
def QBK(f:List Tw):List (Nat×Blk):=[rwT 0 f]
abbrev QIi(P:Program)(pb:List Prop->Bool)(d:Puz)(E:ECt)(o:List Tw):Hnd:={ hnd (mkE P (jv pb d E)) 8 with loop:=λ_=>Ks (d.ok=true) (QGk 376 vo (toJ d E (0:Nat) (0:Nat) []) [(True,.exit 0,(toF o).dfrs 368)]) }
variable (d:Puz)(E:ECt)
abbrev QL2:List Prop:=(waa d++([cO=cO]++wad d))
theorem Qkq(pb:List Prop->Bool)(d:Puz)(E:ECt)(o:List Tw):Kg (mkE prog (jv pb d E)) (QIi prog pb d E o) f21 (QZ.vals 0 ((d,()):Puz×Unit)) (QZ.blks 0 ((d,()):Puz×Unit)) 112 = .need (decide (d.ps.n<=d.ps.n)&&true&&decide (d.ps.n<=1000)) (.br (!d.ok) (.leaf (.tup [.nils,vj 1]) ([])) (.need (pb ((QL2 d))) (.need (pb ((QL2 d))) (.ak [d.ok=true] (.ak (rz 8) (.ak ([(d.ps.n:Int)=(d.ps.n:Int),(0:Int)=0]++waa d++[cO=cO,0=0,E.1=E.1,E.2=E.2,0=0]++waa d++[cO=cO,0=0,E.1=E.1,E.2=E.2,0=0,0=0,0=0,0=0]++waa d++([cO=cO]++wad d)) (.asm (True) (.all (λ(g0:Nat->Value)=>.need (decide (o.length<=o.length)&&true&&decide (o.length<=1000000)) (.need (decide (o.length=o.length)&&decide (o.length<4611686018427387904)) (.leaf (.tup [.slz 440 0 o.length cO,vj 0]) ([(440,.rowz true 89 kB o.length (Yz o.length λi=>QA.enc ((Rw.mk o.length λi=>o.getD i (Tw.mk (0:Int) (0:Int))).get i)))])))))))))))):=by kernel_rfl
theorem QaR(f:List Tw)(e:Int):QF 112 [(AV.tup [AV.nils,vj (1:Int)])] ([]) (Kk 112 (QFn f e) (QBK f))=( some [f.length=(0:Nat),(1:Int)=e,f.length=(0:Nat)]):=by kernel_rfl
theorem Qfx(o f:List Tw)(e:Int):QF 112 [(AV.tup [AV.slz (440:Nat) (0:Nat) o.length cO,vj (0:Int)])] ([((440:Nat),Blk.rowz true (89:Nat) [CK.int i64,CK.int i64] o.length (Yz o.length λi=>QA.enc ((Rw.mk o.length λi=>o.getD i (Tw.mk (0:Int) (0:Int))).get i)))]) (Kk 112 (QFn f e) (QBK f))=( some [0=0,o.length=f.length,cO=cO,(0:Int)=e,f.length<=o.length,QB (2:Nat) f.length (Yz o.length λi=>QA.enc ((Rw.mk o.length λi=>o.getD i (Tw.mk (0:Int) (0:Int))).get i)) λi=>QA.enc (f.getD i (Tw.mk (0:Int) (0:Int)))]):=by kernel_rfl
theorem QO5(p:Nat)(s:Nat×List Tw):(XG d E p 0 s).2.length<=s.2.length+p:=by
 have key:∀(l:List Nat) (s:Nat×List Tw),(l.foldl (λs q=>tiZ d E p q s) s).2.length<=s.2.length+l.length:=by
  intro l
  induction l with
  | nil=>intro s;exact qlr _
  | cons q l ih=>
   intro s;rw[List.foldl_cons,List.length_cons];have h1:=ih (tiZ d E p q s);have h2:=QWU d E p q s;omega
 have:=key (List.range p) s;rw[List.length_range]at this;unfold XG;rw[List.drop_zero];exact this
def toX(p:Nat)(s:Nat×List Tw):List (Prop×Ex×JSt):=[(True,.exit 2,(toJ d E p (XG d E p 0 s).1 (XG d E p 0 s).2).dfrs 368)]
theorem Qff{d:Puz}(hd:Kb d){E:ECt}(hE:WfE E)(p:Nat)(s:Nat×List Tw)(hs:s.2.length<=1000*p)(G:Ctx)(hrd:G.rd=none)(hG:G.n<=368):Q0 (mkE prog QV) G (toH prog d E p s.1 s.2 (toX d E p s)) (QI f21 0):=by
 refine KO (body:=QW (QI f21 0)) (QP Qm) hrd (by kernel_rfl) ?_
 refine JJ λhp=>?_;have hEnv:∀(k:Nat×Nat×List Tw) (g:Nat->Value),(k.1<=p/\k.2.2.length<=1000*p+k.1)->(jp prog d E p k g).Sound:=λk g hk=>Qbi hd hE hp k g hk.2;refine QMr (E0:=mkE prog QV) (E:=jp prog d E p) (H:=λk g=>hnd (jp prog d E p k g) 8) (n0:=376) (D:=368) (s0:=(0,s)) (λ_ _=>rfl) hEnv (by omega) hG (λk g hk=>Qz (hEnv k g hk) 8 G _ hrd) (λk _=>⟨(by decide:376<=416),rfl⟩) ?_ (QXH d E p hp hd.n) ⟨Nat.zero_le _,hs⟩ ?_
 .rintro k e J ⟨_,rfl⟩;exact⟨(by decide:376<=416),rfl⟩
 .rintro e J ⟨rfl,rfl⟩;exact⟨_,qmc,trivial,rfl,rfl⟩
def G0(k:Nat×Nat×List Tw)(e:Ex)(J:JSt):Prop:=e = .exit 0/\J=toF (HO d E k.1 k.2).2
theorem QfA(hn:d.ps.n<=1000):QEn (λk:Nat×Nat×List Tw=>toJ d E k.1 k.2.1 k.2.2) (λk=>k.1<=d.ps.n/\k.2.2.length<=1000*k.1) (λk=>d.ps.n-k.1) (G0 d E) 376 368 QQl vo (λ_ _=>mkE prog QV) (λk _=>toH prog d E k.1 k.2.1 k.2.2 (toX d E k.1 k.2)) (QI f21 0):=by
 refine⟨λk g0 hk=>?_⟩;obtain⟨p,z,o⟩:=k;obtain⟨hk,hol⟩:=hk;have hk:p<=d.ps.n:=hk;have hol:o.length<=1000*p:=hol;have hw:p<d.ps.n->i64.wrap ((p:Int)+1)=((p+1:Nat):Int):=λh=>Vo h hn;have hlen:=QO5 d E p (z,o)
 have next:p<d.ps.n->∀ e J,G0 d E (p+1,XG d E p 0 (z,o)) e J->G0 d E (p,z,o) e J:=by
  intro h e J hr;unfold G0 HO at hr ⊢;rw[QRu h];exact hr
 have last:d.ps.n<=p->G0 d E (p,z,o) (.exit 0) (toF o):=by
  intro h;unfold G0 HO;simp only[QOU h,and_self]
 unfold toX;simp only;generalize XG d E p 0 (z,o)=s at next hlen ⊢
 obtain⟨z',o'⟩:=s
 have hl2:p<d.ps.n->o'.length<=1000*(p+1):=λh=>by
  have:o'.length<=o.length+p:=hlen;omega
 have et:=Qe9 d E p z o z' o' g0;refine Qh et ?_;clear et;refine QE (λb0=>?_) (λb0=>?_);have h:p<d.ps.n:=by have:=qdt b0;omega
 have hw:=hw h
 iterate 70 refine Qt (by first|exact tv|exact h|with_reducible exact qRr|exact rfl) ?_
 refine Qk λa0=>?_;refine Ql λg0=>?_;refine⟨(p+1,z',o'),⟨h,hl2 h⟩,by show d.ps.n-(p+1)<d.ps.n-p;omega,next h,rfl,rfl,_,QbH d E (p+1) z' p o',?_⟩
 rotate_left
 have h:d.ps.n<=p:=by have:=qdf b0;omega
 refine⟨_,last h,rfl,rfl,_,Qc1 o z d E p,?_⟩
 rotate_left
 all_goals (repeat' first|with_reducible refine QM ?_ ?_|exact tv|with_reducible exact qRr|with_reducible exact hw|exact rfl|refine aI ?_ ?_)
def XJ:List Tw:=(HO d E 0 (0,[])).2
theorem Qiw(pb:List Prop->Bool){d:Puz}{E:ECt}(hE:WfE E)(hT:Qf (jv pb d E))(G:Ctx)(hrd:G.rd=none)(hG:G.n<=368):Q0 (mkE prog (jv pb d E)) G (QIi prog pb d E (XJ d E)) (Qn f21):=by
 refine KO (body:=QI f21 0) (QP hT) hrd (by kernel_rfl) ?_
 refine JJ λhok=>?_;have hd:=(JW (JU hok)).1;refine QMr (E0:=mkE prog (jv pb d E)) (E:=λ_ _=>mkE prog QV) (H:=λ(k:Nat×Nat×List Tw) _=>toH prog d E k.1 k.2.1 k.2.2 (toX d E k.1 k.2)) (n0:=376) (D:=368) (s0:=(0,0,[])) (λ_ _=>rfl) (λ_ _ _=>QP Qm) (by omega) hG (λk g hk=>Qff hd hE k.1 k.2 hk.2 G hrd hG) (λk _=>⟨(by decide:376<=416),rfl⟩) ?_ (QfA d E hd.n) ⟨Nat.zero_le _,Nat.zero_le _⟩ ?_
 .rintro k e J ⟨_,rfl⟩;exact⟨(by decide:376<=416),rfl⟩
 .rintro e J ⟨rfl,rfl⟩;exact⟨_,qmc,trivial,rfl,rfl⟩
def JC:List Tw×Int:=cond d.ok (Jy (XJ d (QH d)),0) ([],1)
def Wm:WF (Puz×Unit):=λ|(d,_)=>(decide (d.ps.n<=1000),QFn (JC d).1 (JC d).2,QBK (JC d).1)
def QOR:FC:=wFC Wm
theorem QW7:WOk (Wm (d,())).2.1 (Wm (d,())).2.2:=⟨rfl,by simp[Wm,QBK,rwT,Blk.own,Blk.all],rfl⟩
theorem QYx:(XJ d E).length<=d.ps.n*d.ps.n:=by
 have key:∀(l:List Nat) (s:Nat×List Tw),(∀ p∈l,p<=d.ps.n)->(l.foldl (λs p=>XG d E p 0 s) s).2.length<=s.2.length+l.length*d.ps.n:=by
  intro l
  induction l with
  | nil=>intro s _;exact Nat.le_add_right _ _
  | cons p l ih=>
   intro s hl;rw[List.foldl_cons,List.length_cons,Nat.succ_mul];have h1:=ih (XG d E p 0 s) (λq hq=>hl q (List.mem_cons_of_mem _ hq));have h2:=QO5 d E p s;have h3:=hl p qmc;omega
 have:=key (List.range d.ps.n) (0,[]) (λp hp=>Nat.le_of_lt (List.mem_range.1 hp));rw[List.length_range]at this;unfold XJ HO;rw[List.drop_zero];simpa using this
theorem Qfg(hx:(Wm (d,())).1=true):QS prog 21 (wFC (Vl Wm (d,()))):=by
 have hn:d.ps.n<=1000:=qdt hx;have hO:=qH d hn;have hT:Qf (jv QK d (QH d)):=(QkU.add Qbb).add (qC d (by omega))
 have hll:=QYx d (QH d);have hmm:=Nat.mul_le_mul hn hn;refine ZX (c:=Qn f21) (E:=mkE prog (jv QK d (QH d))) (H:=QIi prog QK d (QH d) (XJ d (QH d))) (QP hT) func21 (by kernel_rfl) (by kernel_rfl) (N:=112) (by decide) (d,()) (λG h1 h2=>Qiw QK hO.w hT G h1 (by rw[h2];decide)) (QW7 d) ?_
 generalize hE:XJ d (QH d)=o at hll;have hv:JC d=cond d.ok (Jy o,0) ([],1):=by unfold JC;rw[hE]
 have hs:=QJS o
 have hl:(List.range o.length).map (Y6 λi=>QA.enc (o.getD i (⟨0,0⟩:Tw)))=o:=by
  apply List.ext_getElem
  .simp
  .intro i h1 h2;rw[List.getElem_map,List.getElem_range];show(⟨(o.getD i ⟨0,0⟩:Tw).a,(o.getD i ⟨0,0⟩:Tw).b⟩:Tw)=_;rw[Jb h2]
 have hr:∀ k,QB 2 k (Yz o.length λi=>QA.enc ((Rw.mk o.length λi=>o.getD i (⟨0,0⟩:Tw)).get i)) λi=>QA.enc ((Jy o).getD i (⟨0,0⟩:Tw)):=by
  intro k i _;show eqF 2 0 (Yz o.length (λi=>QA.enc (o.getD i (⟨0,0⟩:Tw))) i) _;unfold Yz;rw[hl];exact QGO _ _ _
 have et:=Qkq QK d (QH d) o;refine Qh et ?_;clear et;refine QG ?_ ?_;rotate_left;refine QE (λb0=>?_) (λb0=>?_);have b0:d.ok=false:=by simpa using b0
 rw[b0,cond_false]at hv;simp only[Wm,hv];refine⟨rfl,rfl,_,QaR [] 1,?_⟩
 rotate_left
 have b0:d.ok=true:=by simpa using b0
 rw[b0,cond_true]at hv
 iterate 2 (refine QG ?_ ?_;rotate_left)
 iterate 57 refine Qt (by first|exact tv|exact b0|with_reducible exact qRr|exact rfl) ?_
 refine Qk λa0=>?_;refine Ql λg0=>?_
 iterate 2 (refine QG ?_ ?_;rotate_left)
 simp only[Wm,hv];refine⟨rfl,rfl,_,Qfx o (Jy o) 0,?_⟩
 rotate_left
 all_goals first|((with_reducible show _=true);(first|(refine KG.2 ?_;repeat' first|with_reducible refine QM ?_ ?_|exact tv|with_reducible exact qRr|exact rfl|refine aI ?_ ?_)|(simp;omega)))|(repeat' first|with_reducible refine QM ?_ ?_|exact tv|with_reducible exact qRr|with_reducible exact hr _|omega|exact rfl|refine aI ?_ ?_)
theorem QUP:QS prog 21 QOR:=QCx (by kernel_rfl) λ|(d,()),hx=>Qfg d hx
open Go Go.Sort Go.SX Go.SX.Told
def goB{σ:Type}:Qi σ->Bool
 | .go _=>true
 | .stop _=>false
theorem QUJ{σ α:Type}{f:σ->α->Qi σ}{p:α->Bool}(h:∀ s a,goB (f s a) = !p a):∀(l:List α) (s:σ),goB (KC f l s) = !l.any p
 | [],_=>rfl
 | a::l,s=>by
  have ha:=h s a;simp only[KC,List.any_cons];cases hf:f s a with
  | go s'=>
   rw[hf]at ha;have:p a=false:=by simpa[goB]using ha
   rw[this,Bool.false_or];exact QUJ h l s'
  | stop s'=>
   rw[hf]at ha;have:p a=true:=by simpa[goB]using ha
   rw[this];rfl
variable (d:Puz)(E:ECt)
def twB(a b:Nat):Bool:=(Q7 d E).any λl=>V9 d E (l.map (swS b a))
theorem QeK(p q:Nat)(s:Nat×List Tw):(tiZ d E p q s).2=s.2++cond (twB d E q p) [⟨q,p⟩] []:=by
 have h:=QUJ (f:=λ(s:TJ) l=>twA d E p q l s) (p:=λl=>V9 d E (l.map (swS p q))) (λs l=>by
  unfold twA;cases V9 d E (l.map (swS p q))<;>rfl) (Q7 d E) ⟨s.1,trivial⟩
 rw[<-QM2]at h;unfold tiZ twB;cases hr:onY d E (twA d E p q) d.ps.n [] ⟨s.1,trivial⟩with
 | go z=>
  rw[hr]at h;have:((Q7 d E).any λl=>V9 d E (l.map (swS p q)))=false:=by simpa[goB]using h
  rw[this];simp
 | stop z=>
  rw[hr]at h;have:((Q7 d E).any λl=>V9 d E (l.map (swS p q)))=true:=by simpa[goB]using h
  rw[this];simp
def QBl(p q:Nat):List Tw:=cond (twB d E q p) [⟨q,p⟩] []
theorem QIr{α β σ:Type}{f:σ->α->σ}{v:σ->List β}{g:α->List β}(h:∀ s a,v (f s a)=v s++g a):∀(l:List α) (s:σ),v (l.foldl f s)=v s++l.flatMap g
 | [],s=>by simp
 | a::l,s=>by rw[List.foldl_cons,QIr h l,h,List.flatMap_cons,List.append_assoc]
theorem Qj2(p:Nat)(s:Nat×List Tw):(XG d E p 0 s).2=s.2++(List.range p).flatMap (QBl d E p):=by
 unfold XG;rw[List.drop_zero];exact QIr (v:=Prod.snd) (λs q=>QeK d E p q s) _ _
theorem QO3:XJ d E=(List.range d.ps.n).flatMap λp=>(List.range p).flatMap (QBl d E p):=by
 unfold XJ HO;rw[List.drop_zero];exact(QIr (v:=Prod.snd) (λs p=>Qj2 d E p s) _ _).trans (List.nil_append _)
theorem QAr{d:Puz}{E:ECt}{p q:Nat}{x:Tw}:x∈QBl d E p q↔twB d E q p=true/\x=⟨q,p⟩:=by
 unfold QBl;cases twB d E q p<;>simp
theorem QSy{d:Puz}{E:ECt}{x:Tw}:x∈XJ d E↔∃ a b,a<b/\b<d.ps.n/\twB d E a b=true/\x=⟨a,b⟩:=by
 rw[QO3];simp only[List.mem_flatMap,List.mem_range,QAr];constructor
 .rintro⟨p,hp,q,hq,h1,h2⟩;exact⟨q,p,hq,hp,h1,h2⟩
 .rintro⟨a,b,hab,hb,h1,h2⟩;exact⟨b,hb,a,hab,h1,h2⟩
theorem Qd7:(XJ d E).Nodup:=by
 rw[QO3];unfold List.Nodup;rw[List.pairwise_flatMap];refine⟨λp _=>?_,List.pairwise_lt_range.imp λ{p p'} hp x hx y hy=>?_⟩
 .rw[List.pairwise_flatMap];refine⟨λq _=>?_,List.pairwise_lt_range.imp λ{q q'} hq x hx y hy=>?_⟩
  .unfold QBl;cases twB d E q p
   .exact List.Pairwise.nil
   .exact List.pairwise_singleton _ _
  .obtain⟨_,rfl⟩:=QAr.1 hx;obtain⟨_,rfl⟩:=QAr.1 hy;intro e;simp only[Tw.mk.injEq]at e;omega
 .obtain⟨q,_,hx⟩:=List.mem_flatMap.1 hx;obtain⟨q',_,hy⟩:=List.mem_flatMap.1 hy;obtain⟨_,rfl⟩:=QAr.1 hx;obtain⟨_,rfl⟩:=QAr.1 hy;intro e;simp only[Tw.mk.injEq]at e;omega
def QEp(a:Nat):List Tw:=(List.range d.ps.n).flatMap λb=>cond (decide (a<b)&&twB d E a b) [⟨a,b⟩] []
def vA:List Tw:=(List.range d.ps.n).flatMap (QEp d E)
theorem QEE{d:Puz}{E:ECt}{a:Nat}{x:Tw}:x∈QEp d E a↔∃ b,a<b/\b<d.ps.n/\twB d E a b=true/\x=⟨a,b⟩:=by
 unfold QEp;rw[List.mem_flatMap];constructor
 .rintro⟨b,hb,hx⟩;cases h:decide (a<b)&&twB d E a b with
  | false=>rw[h]at hx;cases hx
  | true=>
   rw[h]at hx;rw[qbA,qdE]at h;exact⟨b,h.1,List.mem_range.1 hb,h.2,by simpa using hx⟩
 .rintro⟨b,h1,h2,h3,rfl⟩;refine⟨b,List.mem_range.2 h2,?_⟩;rw[qde h1,h3];exact List.mem_singleton.2 rfl
theorem QTW:(vA d E).Pairwise λx y=>J3 x y<0:=by
 unfold vA;rw[List.pairwise_flatMap];refine⟨λa _=>?_,List.pairwise_lt_range.imp λ{a a'} ha x hx y hy=>?_⟩
 .unfold QEp;rw[List.pairwise_flatMap];refine⟨λb _=>?_,List.pairwise_lt_range.imp λ{b b'} hb x hx y hy=>?_⟩
  .cases decide (a<b)&&twB d E a b
   .exact List.Pairwise.nil
   .exact List.pairwise_singleton _ _
  .cases h:decide (a<b)&&twB d E a b with
   | false=>rw[h]at hx;cases hx
   | true=>
    cases h':decide (a<b')&&twB d E a b' with
    | false=>rw[h']at hy;cases hy
    | true=>
     rw[h]at hx;rw[h']at hy;have hx:x=⟨a,b⟩:=by simpa using hx
     have hy:y=⟨a,b'⟩:=by simpa using hy
     subst hx hy;rw[Ym];exact .inr ⟨rfl,by show(b:Int)<b';omega⟩
 .obtain⟨b,_,_,_,rfl⟩:=QEE.1 hx;obtain⟨b',_,_,_,rfl⟩:=QEE.1 hy;rw[Ym];exact .inl (by show(a:Int)<a';omega)
theorem Qd5(x:Tw):¬ J3 x x<0:=by rw[Ym];omega
theorem Qdu{l l':List Tw}(h:l.Perm l'):Jy l=Jy l':=by
 have h1:(Jy l).Pairwise λx y=>(!(ltOf J3) y x)=true:=List.pairwise_mergeSort (λa b c h1 h2=>by
   simp only[ltOf,Bool.not_eq_true',decide_eq_false_iff_not,Ym]at *;omega) (λa b=>by
   simp only[ltOf,qbO,Bool.not_eq_true',decide_eq_false_iff_not,Ym];omega) l
 have h2:(Jy l').Pairwise λx y=>(!(ltOf J3) y x)=true:=List.pairwise_mergeSort (λa b c h1 h2=>by
   simp only[ltOf,Bool.not_eq_true',decide_eq_false_iff_not,Ym]at *;omega) (λa b=>by
   simp only[ltOf,qbO,Bool.not_eq_true',decide_eq_false_iff_not,Ym];omega) l'
 have hp:(Jy l).Perm (Jy l'):=(List.mergeSort_perm l _).trans (h.trans (List.mergeSort_perm l' _).symm);exact hp.eq_of_pairwise (λa b _ _ q1 q2=>QO2 a b (by simpa using q2) (by simpa using q1)) h1 h2
theorem QhA:Jy (XJ d E)=vA d E:=by
 have hnd:(vA d E).Nodup:=(QTW d E).imp λ{x y} h q=>by subst q;exact Qd5 x h
 have hp:(XJ d E).Perm (vA d E):=by
  rw[List.perm_ext_iff_of_nodup (Qd7 d E) hnd];intro x;rw[QSy];unfold vA;rw[List.mem_flatMap];constructor
  .rintro⟨a,b,h1,h2,h3,rfl⟩;exact⟨a,List.mem_range.2 (by omega),QEE.2 ⟨b,h1,h2,h3,rfl⟩⟩
  .rintro⟨a,_,hx⟩;obtain⟨b,h1,h2,h3,rfl⟩:=QEE.1 hx;exact⟨a,b,h1,h2,h3,rfl⟩
 rw[Qdu hp];unfold Jy;refine List.mergeSort_of_pairwise ((QTW d E).imp λ{x y} h=>?_);have:¬ J3 y x<0:=by rw[Ym]at h ⊢;omega
 simp[ltOf,this]
end Go.Proofs.YtekbmehgcofnkaaGreat
namespace Go.SX
theorem QVX{P:Go.Program}{f:Go.FuncId}{α:Type}[QZ α]{F G:WF α}(h:QS P f (wFC F))(hFG:∀ x,(G x).1=true->F x=G x):QS P f (wFC G):=by
 refine⟨h.1,λargs nid all r w lk blks eff hH ha hv he hp=>?_⟩;simp only[wFC]at hv he;split at he<;>(try (cases he;done))
 rename_i p x hd;simp only[qsI]at he;subst he;have hp':(p&&(G x).1)=true:=hp;rw[qbA]at hp';refine h.2 args nid all r w lk blks _ hH ha hv ?_ hp;simp only[wFC,hd,hFG x hp'.2]
end Go.SX
namespace Go.Proofs.YtekbmehgcofnkaaGreat
open Go Go.Sort Go.SX Go.SX.Told
variable {l:List Lay}{x:Lay}{i:Nat}(d:Puz)
def w0L:LJ:=if h:(jM d 1).length<=1000000000 then ⟨_,h⟩else ⟨[],by decide⟩
theorem Qex{d:Puz}(hn:d.ps.n<=1000):w0Z d=w0L d:=by
 unfold w0Z w0L;have:=Qdh d hn (m:=1) (by decide)
 simp only[this]
def QBj:List Jn×Int:=cond d.ok ((match onY d (QH d) (faY d) d.ps.n [] (w0L d)with | .go s | .stop s=>s.1),0) ([],1)
def QWJ:WF (Puz×Unit):=λ|(d,_)=>(decide (d.ps.n<=1000),QCr (QBj d).1 (QBj d).2,Gp (QBj d).1)
theorem Qf5{d:Puz}(hn:d.ps.n<=1000):Y5 d=QBj d:=by
 unfold Y5 QBj;rw[Qex hn];rfl
def QNj:FC:=wFC QWJ
theorem QhQ:QS prog 43 QNj:=QVX QZD fun
 | (d,_),h=>by
  have hn:d.ps.n<=1000:=qdt h;simp only[YB,QWJ,Qf5 hn]
def QFS:List Tw×Int:=cond d.ok (vA d (QH d),0) ([],1)
def QNl:WF (Puz×Unit):=λ|(d,_)=>(decide (d.ps.n<=1000),QFn (QFS d).1 (QFS d).2,QBK (QFS d).1)
def QVm:FC:=wFC QNl
theorem Qcb:QS prog 21 QVm:=QVX QUP fun
 | (d,_),_=>by simp only[Wm,QNl,JC,QFS,QhA]
def QIv(s:SoS):List Lay×List Lay×Int×Int:=cond (s.1==0) ([],[],0,4) (s.2.1,s.2.2,s.1,0)
theorem QFo{d:Puz}(ho:d.ok=true):QO d=cond (Q7 d (QH d)).isEmpty ([],[],0,4) ((Q7 d (QH d)).getD 0 [],(Q7 d (QH d)).getD 1 [],((min (Q7 d (QH d)).length 100:Nat):Int),0):=by
 have h:=Qla d (QH d);unfold QO;rw[ho,cond_true]
 have key:∀ r:Qi SoS,(match r with | .go s | .stop s=>cond (s.1==0) (([]:List Lay),([]:List Lay),(0:Int),(4:Int)) (s.2.1,s.2.2,s.1,0))=QIv (match r with | .go s | .stop s=>s):=by
  intro r;cases r<;>rfl
 refine((key _).trans (congrArg QIv h)).trans ?_;cases hs:Q7 d (QH d)with
 | nil=>rfl
 | cons a L=>
  have:(((min (a::L).length 100:Nat):Int)==0)=false:=by
   rw[beq_eq_false_iff_ne,List.length_cons];omega
  simp only[QIv,this,cond_false,List.isEmpty_cons]
structure XK (d:Puz) (E:ECt) (l:List Lay):Prop where
 len:l.length=d.ps.n
 st:∀ i (h:i<l.length),l[i]∈zl d/\YK (l.take i) l[i]=false/\KA d E (l.take i) l[i]=true
theorem Vr{d:Puz}{E:ECt}:l∈Q7 d E↔XK d E l:=by
 unfold Q7 jG;rw[QUl]
 have hk:∀ i (h:i<l.length),(qQ QDl d E ([]++l.take i) l[i]=true↔YK (l.take i) l[i]=false/\KA d E (l.take i) l[i]=true):=by
  intro i h;unfold qQ QDl;rw[List.nil_append,Bool.true_and,qbA,Bool.not_eq_true']
 constructor
 .rintro⟨t,h1,h2,h3,_⟩;rw[List.nil_append]at h2;subst h2;rw[QGl]at h3;exact⟨h1,λi h=>⟨(h3 i h).1,(hk i h).1 (h3 i h).2⟩⟩
 .intro h;refine⟨l,h.len,rfl,?_,rfl⟩;rw[QGl];exact λi hi=>⟨(h.st i hi).1,(hk i hi).2 (h.st i hi).2⟩
theorem vP{d:Puz}:x∈zl d↔∃ p t:Nat,p<d.ps.n/\t<Qe d p/\x=⟨p,t⟩:=by
 unfold zl;rw[List.mem_flatMap];constructor
 .rintro⟨p,hp,hx⟩;obtain⟨t,ht,rfl⟩:=List.mem_map.1 hx;exact⟨p,t,List.mem_range.1 hp,List.mem_range.1 ht,rfl⟩
 .rintro⟨p,t,hp,ht,rfl⟩;exact⟨p,List.mem_range.2 hp,List.mem_map.2 ⟨t,List.mem_range.2 ht,rfl⟩⟩
theorem QZi(p:Nat):Qe d p<=4:=by
 unfold Qe tnV;cases d.turn&&decide (0<(p:Int))<;>decide
theorem QDI{d:Puz}(h:x∈zl d):KJ d x:=by
 obtain⟨p,t,hp,ht,rfl⟩:=vP.1 h;have:=QZi d p;exact⟨⟨by show(0:Int)<=p;omega,by show(p:Int)<_;omega⟩,by show(0:Int)<=t;omega,by show(t:Int)<=3;omega⟩
theorem XK.lay{d:Puz}{E:ECt}(h:XK d E l)(hi:i<l.length):KJ d l[i]:=QDI (h.st i hi).1
theorem QMG{k:Nat}(hik:i<k)(hk:k<l.length)(h:YK (l.take k) l[k]=false):l[i].piece≠l[k].piece:=by
 intro e
 have:YK (l.take k) l[k]=true:=by
  unfold YK;rw[List.any_eq_true];refine⟨l[i],?_,beq_iff_eq.2 e⟩;rw[List.mem_take_iff_getElem];exact⟨i,by omega,rfl⟩
 rw[h]at this;cases this
theorem XK.ne{d:Puz}{E:ECt}(h:XK d E l){k:Nat}(hi:i<l.length)(hk:k<l.length)(hik:i≠k):l[i].piece≠l[k].piece:=by
 rcases Nat.lt_or_gt_of_ne hik with q|q
 .exact QMG q hk (h.st k hk).2.1
 .exact λe=>QMG q hi (h.st i hi).2.1 e.symm
theorem QSJ{d:Puz}(h:KJ d x){s:Int}(h0:0<=s):0<=onS x s/\onS x s<4:=by
 have:=h.t;exact⟨Int.tmod_nonneg 4 (by omega),Int.tmod_lt_of_pos _ (by decide)⟩
