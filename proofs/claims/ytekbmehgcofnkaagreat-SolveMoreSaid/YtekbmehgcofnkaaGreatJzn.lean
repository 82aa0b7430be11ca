/- - -/
import Derived.Test.YtekbmehgcofnkaaGreatJzm
set_option linter.all false
open Go.Proofs.Tryz
open Go.IntKind (i64)
set_option maxRecDepth 100000
namespace Go.Proofs.YtekbmehgcofnkaaGreat
open Go.SX Go.SX.Told
def vT(pb:List Prop->Bool)(d:Puz)(E:ECt):Tab:=QZ (QZ QSN 106 QOK) 60 (KI pb (nbU d E))
def QC2(f:List Tw)(e:Int):AV := .tup [.slz 0 0 f.length (.of 0),.int false .i64 e]
def QAw(f:List Tw):List (Nat×Blk):=[rwT 0 f]
abbrev QGN(P:Program)(pb:List Prop->Bool)(d:Puz)(E:ECt)(o:List Tw):Hnd:={ hnd (mkE P (vT pb d E)) 8 with loop:=λ_=>J9 (d.ok=true) (QCE 376 jq (toJ d E (0:Nat) (0:Nat) []) [(True,.exit 0,(toF o).dfrs 368)]) }
variable (d:Puz)(E:ECt)
abbrev QPh:List Prop:=(waa d++([cO=cO]++wad d))
theorem QbM(pb:List Prop->Bool)(d:Puz)(E:ECt)(o:List Tw):Kf (mkE prog (vT pb d E)) (QGN prog pb d E o) f21 (QX.vals 0 ((d,()):Puz×Unit)) (QX.blks 0 ((d,()):Puz×Unit)) 112 = .need (decide (d.ps.n<=d.ps.n)&&true&&decide (d.ps.n<=1000)) (.br (!d.ok) (.leaf (.tup [.nils,vj 1]) ([])) (.need (pb ((QPh d))) (.need (pb ((QPh d))) (.ak [d.ok=true] (.ak (rz 8) (.ak ([(d.ps.n:Int)=(d.ps.n:Int),(0:Int)=0]++waa d++[cO=cO,0=0,E.1=E.1,E.2=E.2,0=0]++waa d++[cO=cO,0=0,E.1=E.1,E.2=E.2,0=0,0=0,0=0,0=0]++waa d++([cO=cO]++wad d)) (.asm (True) (.all (λ(g0:Nat->Value)=>.need (decide (o.length<=o.length)&&true&&decide (o.length<=1000000)) (.need (decide (o.length=o.length)&&decide (o.length<4611686018427387904)) (.leaf (.tup [.slz 440 0 o.length cO,vj 0]) ([(440,.rowz true 89 kB o.length (Ye o.length λi=>QA.enc ((Rw.mk o.length λi=>o.getD i (Tw.mk (0:Int) (0:Int))).get i)))])))))))))))):=by kernel_rfl
theorem Qcq(f:List Tw)(e:Int):QF 112 [(AV.tup [AV.nils,vj (1:Int)])] ([]) (KW 112 (QC2 f e) (QAw f))=( some [f.length=(0:Nat),(1:Int)=e,f.length=(0:Nat)]):=by kernel_rfl
theorem Qbd(o f:List Tw)(e:Int):QF 112 [(AV.tup [AV.slz (440:Nat) (0:Nat) o.length cO,vj (0:Int)])] ([((440:Nat),Blk.rowz true (89:Nat) [CK.int i64,CK.int i64] o.length (Ye o.length λi=>QA.enc ((Rw.mk o.length λi=>o.getD i (Tw.mk (0:Int) (0:Int))).get i)))]) (KW 112 (QC2 f e) (QAw f))=( some [0=0,o.length=f.length,cO=cO,(0:Int)=e,f.length<=o.length,QB (2:Nat) f.length (Ye o.length λi=>QA.enc ((Rw.mk o.length λi=>o.getD i (Tw.mk (0:Int) (0:Int))).get i)) λi=>QA.enc (f.getD i (Tw.mk (0:Int) (0:Int)))]):=by kernel_rfl
theorem QQR(p:Nat)(s:Nat×List Tw):(V9 d E p 0 s).2.length<=s.2.length+p:=by
 have key:∀(l:List Nat) (s:Nat×List Tw),(l.foldl (λs q=>tiZ d E p q s) s).2.length<=s.2.length+l.length:=by
  intro l
  induction l with
  | nil=>intro s;exact qlr _
  | cons q l ih=>
   intro s;rw[List.foldl_cons,List.length_cons];have h1:=ih (tiZ d E p q s);have h2:=QXk d E p q s;omega
 have:=key (List.range p) s;rw[List.length_range]at this;unfold V9;rw[List.drop_zero];exact this
def toX(p:Nat)(s:Nat×List Tw):List (Prop×Ex×JSt):=[(True,.exit 2,(toJ d E p (V9 d E p 0 s).1 (V9 d E p 0 s).2).dfrs 368)]
theorem Qad{d:Puz}(hd:KB d){E:ECt}(hE:WfE E)(p:Nat)(s:Nat×List Tw)(hs:s.2.length<=1000*p)(G:Ctx)(hrd:G.rd=none)(hG:G.n<=368):Q1 (mkE prog QU) G (toH prog d E p s.1 s.2 (toX d E p s)) (QJ f21 0):=by
 refine Kk (body:=Qa (QJ f21 0)) (QP Qd) hrd (by kernel_rfl) ?_
 refine Vy λhp=>?_;have hEnv:∀(k:Nat×Nat×List Tw) (g:Nat->Value),(k.1<=p/\k.2.2.length<=1000*p+k.1)->(Wu prog d E p k g).Sound:=λk g hk=>Qhd hd hE hp k g hk.2;refine QPc (E0:=mkE prog QU) (E:=Wu prog d E p) (H:=λk g=>hnd (Wu prog d E p k g) 8) (n0:=376) (D:=368) (s0:=(0,s)) (λ_ _=>rfl) hEnv (by omega) hG (λk g hk=>Qw (hEnv k g hk) 8 G _ hrd) (λk _=>⟨(by decide:376<=416),rfl⟩) ?_ (QVh d E p hp hd.n) ⟨Nat.zero_le _,hs⟩ ?_
 .rintro k e J ⟨_,rfl⟩;exact⟨(by decide:376<=416),rfl⟩
 .rintro e J ⟨rfl,rfl⟩;exact⟨_,qmc,trivial,rfl,rfl⟩
def HX(k:Nat×Nat×List Tw)(e:Ex)(J:JSt):Prop:=e = .exit 0/\J=toF (zn d E k.1 k.2).2
theorem QeG(hn:d.ps.n<=1000):QCC (λk:Nat×Nat×List Tw=>toJ d E k.1 k.2.1 k.2.2) (λk=>k.1<=d.ps.n/\k.2.2.length<=1000*k.1) (λk=>d.ps.n-k.1) (HX d E) 376 368 QUS jq (λ_ _=>mkE prog QU) (λk _=>toH prog d E k.1 k.2.1 k.2.2 (toX d E k.1 k.2)) (QJ f21 0):=by
 refine⟨λk g0 hk=>?_⟩;obtain⟨p,z,o⟩:=k;obtain⟨hk,hol⟩:=hk;have hk:p<=d.ps.n:=hk;have hol:o.length<=1000*p:=hol;have hw:p<d.ps.n->i64.wrap ((p:Int)+1)=((p+1:Nat):Int):=λh=>VJ h hn;have hlen:=QQR d E p (z,o)
 have next:p<d.ps.n->∀ e J,HX d E (p+1,V9 d E p 0 (z,o)) e J->HX d E (p,z,o) e J:=by
  intro h e J hr;unfold HX zn at hr ⊢;rw[QUK h];exact hr
 have last:d.ps.n<=p->HX d E (p,z,o) (.exit 0) (toF o):=by
  intro h;unfold HX zn;simp only[QPD h,and_self]
 unfold toX;simp only;generalize V9 d E p 0 (z,o)=s at next hlen ⊢
 obtain⟨z',o'⟩:=s
 have hl2:p<d.ps.n->o'.length<=1000*(p+1):=λh=>by
  have:o'.length<=o.length+p:=hlen;omega
 have et:=QV0 d E p z o z' o' g0;refine Qe et ?_;clear et;refine QE (λb0=>?_) (λb0=>?_);have h:p<d.ps.n:=by have:=qdt b0;omega
 have hw:=hw h
 iterate 70 refine Q2 (by first|exact tv|exact h|with_reducible exact qRr|exact rfl) ?_
 refine Qh λa0=>?_;refine Qj λg0=>?_;refine⟨(p+1,z',o'),⟨h,hl2 h⟩,by show d.ps.n-(p+1)<d.ps.n-p;omega,next h,rfl,rfl,_,QVx d E (p+1) z' p o',?_⟩
 rotate_left
 have h:d.ps.n<=p:=by have:=qdf b0;omega
 refine⟨_,last h,rfl,rfl,_,QXb o z d E p,?_⟩
 rotate_left
 all_goals (repeat' first|with_reducible refine QN ?_ ?_|exact tv|with_reducible exact qRr|with_reducible exact hw|exact rfl|refine aI ?_ ?_)
def YM:List Tw:=(zn d E 0 (0,[])).2
theorem QUr(pb:List Prop->Bool){d:Puz}{E:ECt}(hE:WfE E)(hT:Qc (vT pb d E))(G:Ctx)(hrd:G.rd=none)(hG:G.n<=368):Q1 (mkE prog (vT pb d E)) G (QGN prog pb d E (YM d E)) (Qk f21):=by
 refine Kk (body:=QJ f21 0) (QP hT) hrd (by kernel_rfl) ?_
 refine Vy λhok=>?_;have hd:=(V6 (Vz hok)).1;refine QPc (E0:=mkE prog (vT pb d E)) (E:=λ_ _=>mkE prog QU) (H:=λ(k:Nat×Nat×List Tw) _=>toH prog d E k.1 k.2.1 k.2.2 (toX d E k.1 k.2)) (n0:=376) (D:=368) (s0:=(0,0,[])) (λ_ _=>rfl) (λ_ _ _=>QP Qd) (by omega) hG (λk g hk=>Qad hd hE k.1 k.2 hk.2 G hrd hG) (λk _=>⟨(by decide:376<=416),rfl⟩) ?_ (QeG d E hd.n) ⟨Nat.zero_le _,Nat.zero_le _⟩ ?_
 .rintro k e J ⟨_,rfl⟩;exact⟨(by decide:376<=416),rfl⟩
 .rintro e J ⟨rfl,rfl⟩;exact⟨_,qmc,trivial,rfl,rfl⟩
def zG:List Tw×Int:=cond d.ok (Jt (YM d (QI d)),0) ([],1)
def Zm:WF (Puz×Unit):=λ|(d,_)=>(decide (d.ps.n<=1000),QC2 (zG d).1 (zG d).2,QAw (zG d).1)
def Qf8:FC:=wFC Zm
theorem Qay:WOk (Zm (d,())).2.1 (Zm (d,())).2.2:=⟨rfl,by simp[Zm,QAw,rwT,Blk.own,Blk.all],rfl⟩
theorem QcB:(YM d E).length<=d.ps.n*d.ps.n:=by
 have key:∀(l:List Nat) (s:Nat×List Tw),(∀ p∈l,p<=d.ps.n)->(l.foldl (λs p=>V9 d E p 0 s) s).2.length<=s.2.length+l.length*d.ps.n:=by
  intro l
  induction l with
  | nil=>intro s _;exact Nat.le_add_right _ _
  | cons p l ih=>
   intro s hl;rw[List.foldl_cons,List.length_cons,Nat.succ_mul];have h1:=ih (V9 d E p 0 s) (λq hq=>hl q (List.mem_cons_of_mem _ hq));have h2:=QQR d E p s;have h3:=hl p qmc;omega
 have:=key (List.range d.ps.n) (0,[]) (λp hp=>Nat.le_of_lt (List.mem_range.1 hp));rw[List.length_range]at this;unfold YM zn;rw[List.drop_zero];simpa using this
theorem QXE(hx:(Zm (d,())).1=true):QQ prog 21 (wFC (VK Zm (d,()))):=by
 have hn:d.ps.n<=1000:=qdt hx;have hO:=Z4 d hn;have hT:Qc (vT QO d (QI d)):=(QbD.add QY8).add (Zy d (by omega))
 have hll:=QcB d (QI d);have hmm:=Nat.mul_le_mul hn hn;refine Yi (c:=Qk f21) (E:=mkE prog (vT QO d (QI d))) (H:=QGN prog QO d (QI d) (YM d (QI d))) (QP hT) func21 (by kernel_rfl) (by kernel_rfl) (N:=112) (by decide) (d,()) (λG h1 h2=>QUr QO hO.w hT G h1 (by rw[h2];decide)) (Qay d) ?_
 generalize hE:YM d (QI d)=o at hll;have hv:zG d=cond d.ok (Jt o,0) ([],1):=by unfold zG;rw[hE]
 have hs:=QRu o
 have hl:(List.range o.length).map (Y1 λi=>QA.enc (o.getD i (⟨0,0⟩:Tw)))=o:=by
  apply List.ext_getElem
  .simp
  .intro i h1 h2;rw[List.getElem_map,List.getElem_range];show(⟨(o.getD i ⟨0,0⟩:Tw).a,(o.getD i ⟨0,0⟩:Tw).b⟩:Tw)=_;rw[K8 h2]
 have hr:∀ k,QB 2 k (Ye o.length λi=>QA.enc ((Rw.mk o.length λi=>o.getD i (⟨0,0⟩:Tw)).get i)) λi=>QA.enc ((Jt o).getD i (⟨0,0⟩:Tw)):=by
  intro k i _;show eqF 2 0 (Ye o.length (λi=>QA.enc (o.getD i (⟨0,0⟩:Tw))) i) _;unfold Ye;rw[hl];exact QEv _ _ _
 have et:=QbM QO d (QI d) o;refine Qe et ?_;clear et;refine QG ?_ ?_;rotate_left;refine QE (λb0=>?_) (λb0=>?_);have b0:d.ok=false:=by simpa using b0
 rw[b0,cond_false]at hv;simp only[Zm,hv];refine⟨rfl,rfl,_,Qcq [] 1,?_⟩
 rotate_left
 have b0:d.ok=true:=by simpa using b0
 rw[b0,cond_true]at hv
 iterate 2 (refine QG ?_ ?_;rotate_left)
 iterate 57 refine Q2 (by first|exact tv|exact b0|with_reducible exact qRr|exact rfl) ?_
 refine Qh λa0=>?_;refine Qj λg0=>?_
 iterate 2 (refine QG ?_ ?_;rotate_left)
 simp only[Zm,hv];refine⟨rfl,rfl,_,Qbd o (Jt o) 0,?_⟩
 rotate_left
 all_goals first|((with_reducible show _=true);(first|(refine Q9.2 ?_;repeat' first|with_reducible refine QN ?_ ?_|exact tv|with_reducible exact qRr|exact rfl|refine aI ?_ ?_)|(simp;omega)))|(repeat' first|with_reducible refine QN ?_ ?_|exact tv|with_reducible exact qRr|with_reducible exact hr _|omega|exact rfl|refine aI ?_ ?_)
theorem QUm:QQ prog 21 Qf8:=zR (by kernel_rfl) λ|(d,()),hx=>QXE d hx
open Go Go.Sort Go.SX Go.SX.Told
def goB{σ:Type}:Qb σ->Bool
 | .go _=>true
 | .stop _=>false
theorem QOn{σ α:Type}{f:σ->α->Qb σ}{p:α->Bool}(h:∀ s a,goB (f s a) = !p a):∀(l:List α) (s:σ),goB (Q4 f l s) = !l.any p
 | [],_=>rfl
 | a::l,s=>by
  have ha:=h s a;simp only[Q4,List.any_cons];cases hf:f s a with
  | go s'=>
   rw[hf]at ha;have:p a=false:=by simpa[goB]using ha
   rw[this,Bool.false_or];exact QOn h l s'
  | stop s'=>
   rw[hf]at ha;have:p a=true:=by simpa[goB]using ha
   rw[this];rfl
variable {p:Nat}(d:Puz)(E:ECt)
def twB(a b:Nat):Bool:=(Ke d E).any λl=>XB d E (l.map (swS b a))
theorem QYS(p q:Nat)(s:Nat×List Tw):(tiZ d E p q s).2=s.2++cond (twB d E q p) [⟨q,p⟩] []:=by
 have h:=QOn (f:=λ(s:TJ) l=>twA d E p q l s) (p:=λl=>XB d E (l.map (swS p q))) (λs l=>by
  unfold twA;cases XB d E (l.map (swS p q))<;>rfl) (Ke d E) ⟨s.1,trivial⟩
 rw[<-QIW]at h;unfold tiZ twB;cases hr:onY d E (twA d E p q) d.ps.n [] ⟨s.1,trivial⟩with
 | go z=>
  rw[hr]at h;have:((Ke d E).any λl=>XB d E (l.map (swS p q)))=false:=by simpa[goB]using h
  rw[this];simp
 | stop z=>
  rw[hr]at h;have:((Ke d E).any λl=>XB d E (l.map (swS p q)))=true:=by simpa[goB]using h
  rw[this];simp
def QBJ(p q:Nat):List Tw:=cond (twB d E q p) [⟨q,p⟩] []
theorem QHe{α β σ:Type}{f:σ->α->σ}{v:σ->List β}{g:α->List β}(h:∀ s a,v (f s a)=v s++g a):∀(l:List α) (s:σ),v (l.foldl f s)=v s++l.flatMap g
 | [],s=>by simp
 | a::l,s=>by rw[List.foldl_cons,QHe h l,h,List.flatMap_cons,List.append_assoc]
theorem QZC(p:Nat)(s:Nat×List Tw):(V9 d E p 0 s).2=s.2++(List.range p).flatMap (QBJ d E p):=by
 unfold V9;rw[List.drop_zero];exact QHe (v:=Prod.snd) (λs q=>QYS d E p q s) _ _
theorem QSd:YM d E=(List.range d.ps.n).flatMap λp=>(List.range p).flatMap (QBJ d E p):=by
 unfold YM zn;rw[List.drop_zero];exact(QHe (v:=Prod.snd) (λs p=>QZC d E p s) _ _).trans (List.nil_append _)
theorem QAv{d:Puz}{E:ECt}{q:Nat}{x:Tw}:x∈QBJ d E p q↔twB d E q p=true/\x=⟨q,p⟩:=by
 unfold QBJ;cases twB d E q p<;>simp
theorem QUj{d:Puz}{E:ECt}{x:Tw}:x∈YM d E↔∃ a b,a<b/\b<d.ps.n/\twB d E a b=true/\x=⟨a,b⟩:=by
 rw[QSd];simp only[List.mem_flatMap,List.mem_range,QAv];constructor
 .rintro⟨p,hp,q,hq,h1,h2⟩;exact⟨q,p,hq,hp,h1,h2⟩
 .rintro⟨a,b,hab,hb,h1,h2⟩;exact⟨b,hb,a,hab,h1,h2⟩
theorem Qhp:(YM d E).Nodup:=by
 rw[QSd];unfold List.Nodup;rw[List.pairwise_flatMap];refine⟨λp _=>?_,List.pairwise_lt_range.imp λ{p p'} hp x hx y hy=>?_⟩
 .rw[List.pairwise_flatMap];refine⟨λq _=>?_,List.pairwise_lt_range.imp λ{q q'} hq x hx y hy=>?_⟩
  .unfold QBJ;cases twB d E q p
   .exact List.Pairwise.nil
   .exact List.pairwise_singleton _ _
  .obtain⟨_,rfl⟩:=QAv.1 hx;obtain⟨_,rfl⟩:=QAv.1 hy;intro e;simp only[Tw.mk.injEq]at e;omega
 .obtain⟨q,_,hx⟩:=List.mem_flatMap.1 hx;obtain⟨q',_,hy⟩:=List.mem_flatMap.1 hy;obtain⟨_,rfl⟩:=QAv.1 hx;obtain⟨_,rfl⟩:=QAv.1 hy;intro e;simp only[Tw.mk.injEq]at e;omega
def QDD(a:Nat):List Tw:=(List.range d.ps.n).flatMap λb=>cond (decide (a<b)&&twB d E a b) [⟨a,b⟩] []
def jS:List Tw:=(List.range d.ps.n).flatMap (QDD d E)
theorem QEf{d:Puz}{E:ECt}{a:Nat}{x:Tw}:x∈QDD d E a↔∃ b,a<b/\b<d.ps.n/\twB d E a b=true/\x=⟨a,b⟩:=by
 unfold QDD;rw[List.mem_flatMap];constructor
 .rintro⟨b,hb,hx⟩;cases h:decide (a<b)&&twB d E a b with
  | false=>rw[h]at hx;cases hx
  | true=>
   rw[h]at hx;rw[qbA,qdE]at h;exact⟨b,h.1,List.mem_range.1 hb,h.2,by simpa using hx⟩
 .rintro⟨b,h1,h2,h3,rfl⟩;refine⟨b,List.mem_range.2 h2,?_⟩;rw[qde h1,h3];exact List.mem_singleton.2 rfl
theorem QQN:(jS d E).Pairwise λx y=>Ji x y<0:=by
 unfold jS;rw[List.pairwise_flatMap];refine⟨λa _=>?_,List.pairwise_lt_range.imp λ{a a'} ha x hx y hy=>?_⟩
 .unfold QDD;rw[List.pairwise_flatMap];refine⟨λb _=>?_,List.pairwise_lt_range.imp λ{b b'} hb x hx y hy=>?_⟩
  .cases decide (a<b)&&twB d E a b
   .exact List.Pairwise.nil
   .exact List.pairwise_singleton _ _
  .cases h:decide (a<b)&&twB d E a b with
   | false=>rw[h]at hx;cases hx
   | true=>
    cases h':decide (a<b')&&twB d E a b' with
    | false=>rw[h']at hy;cases hy
    | true=>
     rw[h]at hx;rw[h']at hy;have hx:x=⟨a,b⟩:=by simpa using hx
     have hy:y=⟨a,b'⟩:=by simpa using hy
     subst hx hy;rw[YV];exact .inr ⟨rfl,by show(b:Int)<b';omega⟩
 .obtain⟨b,_,_,_,rfl⟩:=QEf.1 hx;obtain⟨b',_,_,_,rfl⟩:=QEf.1 hy;rw[YV];exact .inl (by show(a:Int)<a';omega)
theorem Qc7(x:Tw):¬ Ji x x<0:=by rw[YV];omega
theorem QYq{l l':List Tw}(h:l.Perm l'):Jt l=Jt l':=by
 have h1:(Jt l).Pairwise λx y=>(!(ltOf Ji) y x)=true:=List.pairwise_mergeSort (λa b c h1 h2=>by
   simp only[ltOf,Bool.not_eq_true',decide_eq_false_iff_not,YV]at *;omega) (λa b=>by
   simp only[ltOf,qbO,Bool.not_eq_true',decide_eq_false_iff_not,YV];omega) l
 have h2:(Jt l').Pairwise λx y=>(!(ltOf Ji) y x)=true:=List.pairwise_mergeSort (λa b c h1 h2=>by
   simp only[ltOf,Bool.not_eq_true',decide_eq_false_iff_not,YV]at *;omega) (λa b=>by
   simp only[ltOf,qbO,Bool.not_eq_true',decide_eq_false_iff_not,YV];omega) l'
 have hp:(Jt l).Perm (Jt l'):=(List.mergeSort_perm l _).trans (h.trans (List.mergeSort_perm l' _).symm);exact hp.eq_of_pairwise (λa b _ _ q1 q2=>QUA a b (by simpa using q2) (by simpa using q1)) h1 h2
theorem QXH:Jt (YM d E)=jS d E:=by
 have hnd:(jS d E).Nodup:=(QQN d E).imp λ{x y} h q=>by subst q;exact Qc7 x h
 have hp:(YM d E).Perm (jS d E):=by
  rw[List.perm_ext_iff_of_nodup (Qhp d E) hnd];intro x;rw[QUj];unfold jS;rw[List.mem_flatMap];constructor
  .rintro⟨a,b,h1,h2,h3,rfl⟩;exact⟨a,List.mem_range.2 (by omega),QEf.2 ⟨b,h1,h2,h3,rfl⟩⟩
  .rintro⟨a,_,hx⟩;obtain⟨b,h1,h2,h3,rfl⟩:=QEf.1 hx;exact⟨a,b,h1,h2,h3,rfl⟩
 rw[QYq hp];unfold Jt;refine List.mergeSort_of_pairwise ((QQN d E).imp λ{x y} h=>?_);have:¬ Ji y x<0:=by rw[YV]at h ⊢;omega
 simp[ltOf,this]
end Go.Proofs.YtekbmehgcofnkaaGreat
namespace Go.SX
theorem QIN{P:Go.Program}{f:Go.FuncId}{α:Type}[QX α]{F G:WF α}(h:QQ P f (wFC F))(hFG:∀ x,(G x).1=true->F x=G x):QQ P f (wFC G):=by
 refine⟨h.1,λargs nid all r w lk blks eff hH ha hv he hp=>?_⟩;simp only[wFC]at hv he;split at he<;>(try (cases he;done))
 rename_i p x hd;simp only[qsI]at he;subst he;have hp':(p&&(G x).1)=true:=hp;rw[qbA]at hp';refine h.2 args nid all r w lk blks _ hH ha hv ?_ hp;simp only[wFC,hd,hFG x hp'.2]
end Go.SX
namespace Go.Proofs.YtekbmehgcofnkaaGreat
open Go Go.Sort Go.SX Go.SX.Told
variable {y j:Jn}{l:List Lay}{x:Lay}{i t c p:Nat}(d:Puz)(E:ECt)
def Kn:List Jn×List Jn×Int:=cond d.ok (JB d 2,JB d 1,0) ([],[],1)
def QFj:WF (Puz×Unit):=λ|(d,_)=>(decide (d.ps.n<=1000),QCT (Kn d).1 (Kn d).2.1 (Kn d).2.2,QAF (Kn d).1 (Kn d).2.1)
theorem QZ3{d:Puz}(hn:d.ps.n<=1000):qT d=Kn d:=by
 unfold qT Kn;rw[QEe d hn (by decide),QEe d hn (by decide)]
def QHj:FC:=wFC QFj
theorem QJa:QQ prog 40 QHj:=QIN Qcw fun
 | (d,_),h=>by
  have hn:d.ps.n<=1000:=qdt h;simp only[WG,QFj,QZ3 hn]
def w0L:LJ:=if h:(JB d 1).length<=1000000000 then ⟨_,h⟩else ⟨[],by decide⟩
theorem QT4{d:Puz}(hn:d.ps.n<=1000):w0Z d=w0L d:=by
 unfold w0Z w0L;have:=QEe d hn (m:=1) (by decide)
 simp only[this]
def XN:List Jn×Int:=cond d.ok ((match onY d (QI d) (faY d) d.ps.n [] (w0L d)with | .go s | .stop s=>s.1),0) ([],1)
def QHm:WF (Puz×Unit):=λ|(d,_)=>(decide (d.ps.n<=1000),QAC (XN d).1 (XN d).2,vq (XN d).1)
theorem QVR{d:Puz}(hn:d.ps.n<=1000):Y3 d=XN d:=by
 unfold Y3 XN;rw[QT4 hn];rfl
def QHH:FC:=wFC QHm
theorem QIQ:QQ prog 43 QHH:=QIN QWh fun
 | (d,_),h=>by
  have hn:d.ps.n<=1000:=qdt h;simp only[Xq,QHm,QVR hn]
def QFT:List Tw×Int:=cond d.ok (jS d (QI d),0) ([],1)
def QTl:WF (Puz×Unit):=λ|(d,_)=>(decide (d.ps.n<=1000),QC2 (QFT d).1 (QFT d).2,QAw (QFT d).1)
def QLl:FC:=wFC QTl
theorem Qde:QQ prog 21 QLl:=QIN QUm fun
 | (d,_),_=>by simp only[Zm,QTl,zG,QFT,QXH]
theorem QFU{x:Jn}:eqJ x y=true↔x=y:=by
 obtain⟨a,i,b,j⟩:=x;obtain⟨a',i',b',j'⟩:=y;simp[eqJ]
def inJ(L:List Jn)(y:Jn):Bool:=L.any λj=>eqJ j y
theorem Hx{L:List Jn}:inJ L y=true↔y∈L:=by
 unfold inJ;rw[List.any_eq_true];constructor
 .rintro⟨j,hj,h⟩;rw[QFU]at h;exact h ▸ hj
 .intro h;exact⟨y,h,QFU.2 rfl⟩
theorem QYV{L:List Jn}(h:y ∉ L):inJ L y=false:=by
 rw[Bool.eq_false_iff];exact λq=>h (Hx.1 q)
def G0(l:List Lay)(c:Nat):List Jn:=(Jd d c).1.filterMap (JQ d l c)
def ZM(l:List Lay):List Jn:=(List.range l.length).flatMap (G0 d l)
theorem QXR(l:List Lay)(c:Nat)(f:List Jn):G9 d l c (Jd d c) f=f.filter λy=>!inJ (G0 d l c) y:=by
 unfold G9;congr 1;funext y;congr 1;rw[Bool.eq_iff_iff,Hx,List.any_eq_true];unfold G0;rw[List.mem_filterMap];constructor
 .rintro⟨e,he,h⟩;refine⟨e,he,?_⟩;unfold qA at h;cases hm:JQ d l c e with
  | none=>rw[hm]at h;cases h
  | some j=>rw[hm]at h;rw[QFU.1 h]
 .rintro⟨e,he,h⟩;refine⟨e,he,?_⟩;unfold qA;rw[h];exact QFU.2 rfl
theorem QSQ(d:Puz)(l:List Lay):∀(cs:List Nat) (f:LJ),(cs.foldl (Zn d l) f).1=f.1.filter λy=>!inJ (cs.flatMap (G0 d l)) y
 | [],f=>by
  symm;rw[List.foldl_nil,List.filter_eq_self];intro y _;rfl
 | c::cs,f=>by
  rw[List.foldl_cons,QSQ d l cs];show(G9 d l c (Jd d c) f.1).filter _=_;rw[QXR,List.filter_filter];congr 1;funext y;rw[List.flatMap_cons];unfold inJ;rw[List.any_append,Bool.not_or];exact Bool.and_comm _ _
theorem QYD(l:List Lay)(f:LJ):(J4 d l f).1=f.1.filter λy=>!inJ (ZM d l) y:=QSQ d l _ f
theorem QRx(d:Puz):∀(L:List (List Lay)) (s:LJ),(match Q4 (λs l=>faY d l s) L s with | .go s | .stop s=>s.1)=s.1.filter λy=>!L.any λl=>inJ (ZM d l) y
 | [],s=>by
  symm;show s.1.filter _=s.1;rw[List.filter_eq_self];intro y _;rfl
 | l::L,s=>by
  have h:=QYD d l s
  have hf:(s.1.filter λy=>!(l::L).any λl=>inJ (ZM d l) y)=((J4 d l s).1).filter λy=>!L.any λl=>inJ (ZM d l) y:=by
   rw[h,List.filter_filter];congr 1;funext y;rw[List.any_cons,Bool.not_or];exact Bool.and_comm _ _
  rw[hf];simp only[Q4];unfold faY;cases hc:(((J4 d l s).1.length:Int)==0)with
  | false=>exact QRx d L _
  | true=>
   have:(J4 d l s).1=[]:=by
    rw[<-List.length_eq_zero_iff];have:=beq_iff_eq.1 hc;omega
   show(J4 d l s).1=_;rw[this];rfl
def Yp:List Jn:=(JB d 1).filter λy=>!(Ke d (QI d)).any λl=>inJ (ZM d l) y
theorem QG1{d:Puz}(ho:d.ok=true):XN d=(Yp d,0):=by
 have hn:d.ps.n<=1000:=Nat.le_trans (V6 (Vz ho)).2.2 (by decide)
 unfold XN;rw[ho,cond_true];have h1:(w0L d).1=JB d 1:=by rw[<-QT4 hn,QL4 hn,QEe d hn (by decide)]
 have h2:=QRx d (Ke d (QI d)) (w0L d);rw[<-QIW,h1]at h2;unfold Yp;rw[<-h2];try rfl
def QGM(s:SoS):List Lay×List Lay×Int×Int:=cond (s.1==0) ([],[],0,4) (s.2.1,s.2.2,s.1,0)
theorem Hw{d:Puz}(ho:d.ok=true):QY d=cond (Ke d (QI d)).isEmpty ([],[],0,4) ((Ke d (QI d)).getD 0 [],(Ke d (QI d)).getD 1 [],((min (Ke d (QI d)).length 100:Nat):Int),0):=by
 have h:=QfE d (QI d);unfold QY;rw[ho,cond_true]
 have key:∀ r:Qb SoS,(match r with | .go s | .stop s=>cond (s.1==0) (([]:List Lay),([]:List Lay),(0:Int),(4:Int)) (s.2.1,s.2.2,s.1,0))=QGM (match r with | .go s | .stop s=>s):=by
  intro r;cases r<;>rfl
 refine((key _).trans (congrArg QGM h)).trans ?_;cases hs:Ke d (QI d)with
 | nil=>rfl
 | cons a L=>
  have:(((min (a::L).length 100:Nat):Int)==0)=false:=by
   rw[beq_eq_false_iff_ne,List.length_cons];omega
  simp only[QGM,this,cond_false,List.isEmpty_cons]
structure VX (d:Puz) (E:ECt) (l:List Lay):Prop where
 len:l.length=d.ps.n
 st:∀ i (h:i<l.length),l[i]∈Zh d/\Vh (l.take i) l[i]=false/\Q3 d E (l.take i) l[i]=true
theorem Zb{d:Puz}{E:ECt}:l∈Ke d E↔VX d E l:=by
 unfold Ke qt;rw[QFi]
 have hk:∀ i (h:i<l.length),(qe QEu d E ([]++l.take i) l[i]=true↔Vh (l.take i) l[i]=false/\Q3 d E (l.take i) l[i]=true):=by
  intro i h;unfold qe QEu;rw[List.nil_append,Bool.true_and,qbA,Bool.not_eq_true']
 constructor
 .rintro⟨t,h1,h2,h3,_⟩;rw[List.nil_append]at h2;subst h2;rw[QDc]at h3;exact⟨h1,λi h=>⟨(h3 i h).1,(hk i h).1 (h3 i h).2⟩⟩
 .intro h;refine⟨l,h.len,rfl,?_,rfl⟩;rw[QDc];exact λi hi=>⟨(h.st i hi).1,(hk i hi).2 (h.st i hi).2⟩
theorem zg{d:Puz}:x∈Zh d↔∃ p t:Nat,p<d.ps.n/\t<turnN d p/\x=⟨p,t⟩:=by
 unfold Zh;rw[List.mem_flatMap];constructor
 .rintro⟨p,hp,hx⟩;obtain⟨t,ht,rfl⟩:=List.mem_map.1 hx;exact⟨p,t,List.mem_range.1 hp,List.mem_range.1 ht,rfl⟩
 .rintro⟨p,t,hp,ht,rfl⟩;exact⟨p,List.mem_range.2 hp,List.mem_map.2 ⟨t,List.mem_range.2 ht,rfl⟩⟩
theorem Qbo(p:Nat):turnN d p<=4:=by
 unfold turnN tnV;cases d.turn&&decide (0<(p:Int))<;>decide
theorem QNF{d:Puz}(h:x∈Zh d):Q0 d x:=by
 obtain⟨p,t,hp,ht,rfl⟩:=zg.1 h;have:=Qbo d p;exact⟨⟨by show(0:Int)<=p;omega,by show(p:Int)<_;omega⟩,by show(0:Int)<=t;omega,by show(t:Int)<=3;omega⟩
theorem VX.lay{d:Puz}{E:ECt}(h:VX d E l)(hi:i<l.length):Q0 d l[i]:=QNF (h.st i hi).1
theorem QOJ{k:Nat}(hik:i<k)(hk:k<l.length)(h:Vh (l.take k) l[k]=false):l[i].piece≠l[k].piece:=by
 intro e
 have:Vh (l.take k) l[k]=true:=by
  unfold Vh;rw[List.any_eq_true];refine⟨l[i],?_,beq_iff_eq.2 e⟩;rw[List.mem_take_iff_getElem];exact⟨i,by omega,rfl⟩
 rw[h]at this;cases this
theorem VX.ne{d:Puz}{E:ECt}(h:VX d E l){k:Nat}(hi:i<l.length)(hk:k<l.length)(hik:i≠k):l[i].piece≠l[k].piece:=by
 rcases Nat.lt_or_gt_of_ne hik with q|q
 .exact QOJ q hk (h.st k hk).2.1
 .exact λe=>QOJ q hi (h.st i hi).2.1 e.symm
theorem Qdd(p:Qf)(a b:Edge):(KG p a b).1=(KG p b a).1:=by
 unfold KG
 by_cases h:p.ok=true/\a.ok=true/\b.ok=true
 .rw[if_pos h,if_pos ⟨h.1,h.2.2,h.2.1⟩];show Va p a b=Va p b a;unfold Va
  repeat' split
  all_goals first|rfl|omega
 .rw[if_neg h,if_neg (λq=>h ⟨q.1,q.2.2,q.2.1⟩)]
theorem QdO(p:Qf)(t h:Edge):XF p t h=0∨XF p t h=1∨XF p t h=2:=by
 rw[QAz]
 repeat' split
 all_goals simp
theorem QZY(p:Qf)(a b:Edge):(KG p a b).1=0∨(KG p a b).1=1∨(KG p a b).1=2:=by
 unfold KG;split
 .show Va p a b=0∨_;unfold Va
  repeat' split
  all_goals first|exact QdO .. | simp
 .simp
theorem QKj{d:Puz}{p q:QT}{s:Nat}(h:meF d p q s t≠0):1<=meF d p q s t:=by
 have:=QZY d.pK (Kq p s) (Kq q t);unfold meF at h ⊢;omega
theorem Qgh(p q:QT)(s t:Nat):meF d p q s t=meF d q p t s:=Qdd _ _ _
theorem QPB{d:Puz}(hd:KB d)(hl:l.length<=1000)(hc:c<l.length):j∈G0 d l c↔(((c:Int)+1).tmod d.wide≠0/\(c:Int)+1<l.length/\j=JR l c 1 ((c:Int)+1))∨((c:Int)+d.wide<l.length/\j=JR l c 2 ((c:Int)+d.wide)):=by
 have h1:=hd.w1;have h2:=hd.wn;have h3:=hd.n;have w1:i64.wrap ((c:Int)+1)=(c:Int)+1:=w64 (by omega) (by omega)
 have w2:i64.wrap ((c:Int)+d.wide)=(c:Int)+d.wide:=w64 (by omega) (by omega)
 unfold G0;rw[List.mem_filterMap];have e1:JQ d l c { key := .int .i64 1,val := .int .i64 (i64.wrap ((c:Int)+1)),born:=0 }=cond (((1:Int)==1&&((i64.wrap ((c:Int)+1)).tmod d.wide==0))||decide (i64.wrap ((c:Int)+1)≥(l.length:Int))) none (some (JR l c 1 (i64.wrap ((c:Int)+1)))):=rfl
 have e2:JQ d l c { key := .int .i64 2,val := .int .i64 (i64.wrap ((c:Int)+d.wide)),born:=1 }=cond (((2:Int)==1&&((i64.wrap ((c:Int)+d.wide)).tmod d.wide==0))||decide (i64.wrap ((c:Int)+d.wide)≥(l.length:Int))) none (some (JR l c 2 (i64.wrap ((c:Int)+d.wide)))):=rfl
 have q1:JQ d l c { key := .int .i64 1,val := .int .i64 (i64.wrap ((c:Int)+1)),born:=0 }=some j↔(((c:Int)+1).tmod d.wide≠0/\(c:Int)+1<l.length/\j=JR l c 1 ((c:Int)+1)):=by
  rw[e1,w1]
  by_cases g1:((c:Int)+1).tmod d.wide=0
  .rw[show(((c:Int)+1).tmod d.wide==0)=true from beq_iff_eq.2 g1];simp[g1]
  .rw[show(((c:Int)+1).tmod d.wide==0)=false from beq_eq_false_iff_ne.2 g1]
   by_cases g2:(c:Int)+1≥l.length
   .rw[qde g2];simp;omega
   .rw[decide_eq_false g2];simp only[Bool.and_false,Bool.or_false,cond_false,qsI];constructor
    .rintro rfl;exact⟨g1,by omega,rfl⟩
    .rintro⟨_,_,rfl⟩;rfl
 have q2:JQ d l c { key := .int .i64 2,val := .int .i64 (i64.wrap ((c:Int)+d.wide)),born:=1 }=some j↔((c:Int)+d.wide<l.length/\j=JR l c 2 ((c:Int)+d.wide)):=by
  rw[e2,w2]
  by_cases g2:(c:Int)+d.wide≥l.length
  .rw[qde g2];simp;omega
  .rw[decide_eq_false g2];simp only[show((2:Int)==1)=false from rfl,Bool.false_and,Bool.or_false,cond_false,qsI];constructor
   .rintro rfl;exact⟨by omega,rfl⟩
   .rintro⟨_,rfl⟩;rfl
 rw[<-q1,<-q2];simp only[Jd,List.mem_cons,List.not_mem_nil,or_false];constructor
 .rintro⟨e,rfl|rfl,h⟩
  .exact .inl h
  .exact .inr h
 .rintro(h|h)
  .exact⟨_,.inl rfl,h⟩
  .exact⟨_,.inr rfl,h⟩
theorem QNj{o:Nat}(hc:c<l.length)(ho:o<l.length){x:Int}(hx:x=o):JR l c 1 x=cond (decide (l[o].piece<l[c].piece)) ⟨l[o].piece,onS l[o] 3,l[c].piece,onS l[c] 1⟩ ⟨l[c].piece,onS l[c] 1,l[o].piece,onS l[o] 3⟩:=by
 subst hx;unfold JR;rw[Int.toNat_natCast,K8 hc,K8 ho];rfl
theorem QLu{o:Nat}(hc:c<l.length)(ho:o<l.length){x:Int}(hx:x=o):JR l c 2 x=cond (decide (l[o].piece<l[c].piece)) ⟨l[o].piece,onS l[o] 0,l[c].piece,onS l[c] 2⟩ ⟨l[c].piece,onS l[c] 2,l[o].piece,onS l[o] 0⟩:=by
 subst hx;unfold JR;rw[Int.toNat_natCast,K8 hc,K8 ho];rfl
theorem QSH{d:Puz}(h:Q0 d x){s:Int}(h0:0<=s):0<=onS x s/\onS x s<4:=by
 have:=h.t;exact⟨Int.tmod_nonneg 4 (by omega),Int.tmod_lt_of_pos _ (by decide)⟩
theorem QOX(m:Int):(JB d m).Nodup:=(QGH d m).imp λ{x y} h q=>by subst q;exact QSl x h
theorem QYe:(Yp d).Nodup:=(QOX d 1).filter _
theorem QCU{d:Puz}(h:j∈Yp d):j∈JB d 1:=(List.mem_filter.1 h).1
theorem Qdo{d:Puz}(h:l∈Ke d (QI d))(hj:j∈ZM d l):inJ (Yp d) j=false:=by
 refine QYV λq=>?_;have:=(List.mem_filter.1 q).2;have h2:((Ke d (QI d)).any λl=>inJ (ZM d l) j)=true:=List.any_eq_true.2 ⟨l,h,Hx.2 hj⟩;rw[h2]at this;cases this
theorem QRy{A:Int->Lay->Bool}{d:Puz}{E:ECt}:l∈qt A d E d.ps.n []↔VX d E l/\∀ i (h:i<l.length),A (i:Nat) l[i]=true:=by
 unfold qt;rw[QFi]
 have hk:∀ i (h:i<l.length),(qe A d E ([]++l.take i) l[i]=true↔Vh (l.take i) l[i]=false/\A (i:Nat) l[i]=true/\Q3 d E (l.take i) l[i]=true):=by
  intro i h;unfold qe;rw[List.nil_append,qbA,Bool.not_eq_true',qbA,List.length_take,Nat.min_eq_left (by omega)]
 constructor
 .rintro⟨t,h1,h2,h3,_⟩;rw[List.nil_append]at h2;subst h2;rw[QDc]at h3;exact⟨⟨h1,λi h=>⟨(h3 i h).1,((hk i h).1 (h3 i h).2).1,((hk i h).1 (h3 i h).2).2.2⟩⟩,λi h=>((hk i h).1 (h3 i h).2).2.1⟩
 .rintro⟨h,ha⟩;refine⟨l,h.len,rfl,?_,rfl⟩;rw[QDc];exact λi hi=>⟨(h.st i hi).1,(hk i hi).2 ⟨(h.st i hi).2.1,ha i hi,(h.st i hi).2.2⟩⟩
theorem QUW{d:Puz}{E:ECt}{A:Int->Lay->Bool}:hsV d E A=true↔∃ l,VX d E l/\∀ i (h:i<l.length),A (i:Nat) l[i]=true:=by
 unfold hsV;rw[QG9];cases hs:qt A d E d.ps.n []with
 | nil=>
  constructor
  .intro h;cases h
  .rintro⟨l,h⟩;have:=QRy.2 h;rw[hs]at this;cases this
 | cons l L=>exact⟨λ_=>⟨l,QRy.1 (by rw[hs];exact qmc)⟩,λ_=>rfl⟩
theorem QgN(q:Nat->Bool):(QR q 1 0).isNone = !q 0:=by
 simp only[QR];cases q 0<;>rfl
theorem QQk{p i:Int}:Qs (XR c p t) i x=true↔((c:Int)=i->x=⟨p,t⟩)/\(x.piece=p->(c:Int)=i):=by
 show(QR (ZR (XR c p t) i x) 1 0).isNone=true↔_;rw[QgN];obtain⟨a,b⟩:=x;unfold ZR XR;simp only[Lay.mk.injEq,Bool.not_eq_true',Bool.or_eq_false_iff,Bool.and_eq_false_iff,Bool.not_eq_false',qbA,beq_iff_eq,beq_eq_false_iff_ne];constructor
 .rintro⟨h1,h2⟩;refine⟨λe=>?_,λe=>?_⟩
  .rcases h1 with h|h
   .exact absurd e h
   .exact⟨h.1.symm,h.2.symm⟩
  .rcases h2 with h|h
   .exact absurd e.symm h
   .exact h
 .rintro⟨h1,h2⟩;refine⟨?_,?_⟩
  .by_cases e:(c:Int)=i
   .exact .inr ⟨(h1 e).1.symm,(h1 e).2.symm⟩
   .exact .inl e
  .by_cases e:a=p
   .exact .inr (h2 e)
   .exact .inl λq=>e q.symm
theorem QQM{d:Puz}{E:ECt}{p:Int}(hc:c<d.ps.n):hsV d E (Qs (XR c p t))=true↔∃ l,VX d E l/\(l.getD c ⟨0,0⟩:Lay)=⟨p,t⟩:=by
 rw[QUW];constructor
 .rintro⟨l,h,ha⟩;have hcl:c<l.length:=by rw[h.len];exact hc
  exact⟨l,h,by rw[K8 hcl];exact(QQk.1 (ha c hcl)).1 rfl⟩
 .rintro⟨l,h,e⟩;have hcl:c<l.length:=by rw[h.len];exact hc
  rw[K8 hcl]at e;refine⟨l,h,λi hi=>QQk.2 ⟨λq=>?_,λq=>?_⟩⟩
  .have:c=i:=by omega
   subst this;exact e
  .by_cases ci:c=i
   .rw[ci]
   .exact absurd (show l[c].piece=l[i].piece by rw[e,q]) (h.ne hcl hi ci)
theorem VX.every{d:Puz}{E:ECt}(h:VX d E l)(hp:p<d.ps.n):∃ c,∃ hc:c<l.length,l[c].piece=p:=by
 have hl:=λi hi=>(h.lay (i:=i) hi).p
 have hm:¬ p ∉ l.map λx=>x.piece.toNat:=by
  intro hm
  have hnd:(l.map λx=>x.piece.toNat).Nodup:=by
   unfold List.Nodup;rw[List.pairwise_map,List.pairwise_iff_getElem];intro i j hi hj hij e;have h1:=hl i hi;have h2:=hl j hj;exact h.ne hi hj (by omega) (by omega)
  have:=(List.nodup_cons.2 ⟨hm,hnd⟩).length_le_of_subset (l₂:=List.range d.ps.n) (λx hx=>by
   rcases List.mem_cons.1 hx with rfl|hx
   .exact List.mem_range.2 hp
   .obtain⟨y,hy,rfl⟩:=List.mem_map.1 hx;obtain⟨i,hi,rfl⟩:=List.getElem_of_mem hy;have:=hl i hi;exact List.mem_range.2 (by omega))
  rw[List.length_cons,List.length_map,List.length_range,h.len]at this;omega
 have hm:=Decidable.not_not.1 hm;obtain⟨y,hy,e⟩:=List.mem_map.1 hm;obtain⟨i,hi,rfl⟩:=List.getElem_of_mem hy;have:=hl i hi;exact⟨i,hi,by omega⟩
def YW(b:Nat->Bool):Nat->Nat
 | 0=>0
 | c+1=>YW b c ||| cond (b c) (2^c) 0
theorem QMY(b:Nat->Bool):∀ n,YW b n<2^n
 | 0=>Nat.one_pos
 | c+1=>by
  refine Nat.or_lt_two_pow (Nat.lt_of_lt_of_le (QMY b c) (Nat.pow_le_pow_right (by decide) (Nat.le_succ c))) ?_
  cases b c
  .exact Nat.two_pow_pos _
  .exact Nat.pow_lt_pow_right (by decide) (Nat.lt_succ_self c)
theorem QGw(b:Nat->Bool)(i:Nat):∀ n,(YW b n).testBit i=(decide (i<n)&&b i)
 | 0=>by simp[YW]
 | c+1=>by
  rw[YW,Nat.testBit_or,QGw b i c]
  have e:(cond (b c) (2^c) 0).testBit i=(decide (c=i)&&b c):=by
   cases b c
   .simp
   .simp[Nat.testBit_two_pow]
  rw[e]
  by_cases h:c=i
  .subst h;simp
  .rw[decide_eq_false h]
   by_cases h1:i<c
   .rw[qde h1,qde (show i<c+1 by omega)];simp
   .rw[decide_eq_false h1,decide_eq_false (show ¬ i<c+1 by omega)];simp
theorem Qeh:∀ c<9,∀ X<2^c,HZ (X:Nat) c=true/\QAb (X:Nat) c=((X ||| 2^c:Nat):Int)/\HZ ((X ||| 2^c:Nat):Int) c=false:=by decide +kernel
theorem QeE{d:Puz}{E:ECt}{p:Int}{X:Nat}(hc:c<9)(hX:X<2^c):∀ ts:List Nat,ts.foldl (VT d E p c) (X:Nat)=((X ||| cond (ts.any λt=>hsV d E (Qs (XR c p t))) (2^c) 0:Nat):Int):=by
 obtain⟨h1,h2,h3⟩:=Qeh c hc X hX
 have set:∀ ts:List Nat,ts.foldl (VT d E p c) ((X ||| 2^c:Nat):Int)=((X ||| 2^c:Nat):Int):=by
  intro ts
  induction ts with
  | nil=>rfl
  | cons t ts ih=>
   rw[List.foldl_cons,show VT d E p c ((X ||| 2^c:Nat):Int) t=((X ||| 2^c:Nat):Int) by unfold VT;rw[h3];rfl,ih]
 intro ts
 induction ts with
 | nil=>simp
 | cons t ts ih=>
  rw[List.foldl_cons,List.any_cons];cases h:hsV d E (Qs (XR c p t))with
  | true=>rw[show VT d E p c (X:Nat) t=((X ||| 2^c:Nat):Int) by unfold VT;rw[h1,h,h2];rfl,set];rfl
  | false=>rw[show VT d E p c (X:Nat) t=(X:Nat) by unfold VT;rw[h1,h];rfl,ih,Bool.false_or]
def Xb(p:Int)(c:Nat):Bool:=(List.range (tnV d p).toNat).any λt=>hsV d E (Qs (XR c p t))
theorem QhE{d:Puz}{E:ECt}{p:Int}(hn:d.ps.n<=9):Zw d E p=((YW (Xb d E p) d.ps.n:Nat):Int):=by
 have:∀ n:Nat,n<=9->(List.range n).foldl (ZE d E p) 0=((YW (Xb d E p) n:Nat):Int):=by
  intro n
  induction n with
  | zero=>intro _;rfl
  | succ c ih=>
   intro hc;rw[List.range_succ,List.foldl_append,ih (by omega),List.foldl_cons,List.foldl_nil]
   exact QeE (by omega) (QMY _ _) _
 exact this _ hn
theorem QPA{d:Puz}{E:ECt}(hc:c<d.ps.n):Xb d E p c=true↔∃ l,VX d E l/\(l.getD c ⟨0,0⟩:Lay).piece=p:=by
 unfold Xb;rw[List.any_eq_true];constructor
 .rintro⟨t,_,h⟩;obtain⟨l,hl,e⟩:=(QQM hc).1 h;exact⟨l,hl,by rw[e]⟩
 .rintro⟨l,hl,e⟩;have hcl:c<l.length:=by rw[hl.len];exact hc
  rw[K8 hcl]at e;obtain⟨p',t,hp,ht,q⟩:=zg.1 (hl.st c hcl).1;rw[q]at e;obtain rfl:p'=p:=by have:(p':Int)=p:=e;omega
  exact⟨t,List.mem_range.2 ht,(QQM hc).2 ⟨l,hl,by rw[K8 hcl,q]⟩⟩
theorem QPg{d:Puz}(ho:d.ok=true)(hp:p<d.ps.n):V4 d p=cond (YW (Xb d (QI d) p) d.ps.n==0) (0,4) (((YW (Xb d (QI d) p) d.ps.n:Nat):Int),0):=by
 obtain⟨hd,hpos,h9⟩:=V6 (Vz ho);unfold V4
 rw[ho,cond_true,show Qu (p:Int) 0 (i64.wrap ((d.ps.n:Int)-1))=true from by
  rw[w64 (n:=(d.ps.n:Int)-1) (by omega) (by omega)];exact qde (by omega),cond_true,QhE h9]
 cases YW (Xb d (QI d) p) d.ps.n<;>rfl
