/- - -/
import Derived.Test.YtekbmehgcofnkaaGreatMzr
import Derived.Test.YtekbmehgcofnkaaGreatMzg
import Derived.Test.YtekbmehgcofnkaaGreatMzd
import Derived.Test.YtekbmehgcofnkaaGreatMzo
import Derived.Test.YtekbmehgcofnkaaGreatMz
import Derived.Test.YtekbmehgcofnkaaGreatMzj
open Go.Proofs.Tryz
set_option maxRecDepth 100000
namespace Go.Proofs.YtekbmehgcofnkaaGreat
open Go.SX Go.SX.Told
variable (d:Puz)(E:ECt)
theorem QSX(p:Nat)(s:Nat×List Tw):(Vr d E p 0 s).2.length<=s.2.length+p:=by
 have key:∀(l:List Nat) (s:Nat×List Tw),(l.foldl (λs q=>tiZ d E p q s) s).2.length<=s.2.length+l.length:=by
  intro l
  induction l with
  | nil=>intro s;exact qlr _
  | cons q l ih=>
   intro s;rw[List.foldl_cons,List.length_cons];have h1:=ih (tiZ d E p q s);have h2:=Qby d E p q s;omega
 have:=key (List.range p) s;rw[List.length_range]at this;unfold Vr;rw[List.drop_zero];exact this
def toX(p:Nat)(s:Nat×List Tw):List (Prop×Ex×JSt):=[(True,.exit 2,(toJ d E p (Vr d E p 0 s).1 (Vr d E p 0 s).2).dfrs 368)]
theorem QYI{d:Puz}(hd:KI d){E:ECt}(hE:WfE E)(p:Nat)(s:Nat×List Tw)(hs:s.2.length<=1000*p)(G:Ctx)(hrd:G.rd=none)(hG:G.n<=368):Qu (mkE prog QT) G (toH prog d E p s.1 s.2 (toX d E p s)) (QJ f21 0):=by
 refine KM (body:=QS (QJ f21 0)) (QQ Qd) hrd (by kernel_rfl) ?_
 refine Jm λhp=>?_;have hEnv:∀(k:Nat×Nat×List Tw) (g:Nat->Value),(k.1<=p/\k.2.2.length<=1000*p+k.1)->(W0 prog d E p k g).Sound:=λk g hk=>QdM hd hE hp k g hk.2;refine QNv (E0:=mkE prog QT) (E:=W0 prog d E p) (H:=λk g=>hnd (W0 prog d E p k g) 8) (n0:=376) (D:=368) (s0:=(0,s)) (λ_ _=>rfl) hEnv (by omega) hG (λk g hk=>Q1 (hEnv k g hk) 8 G _ hrd) (λk _=>⟨(by decide:376<=416),rfl⟩) ?_ (QTK d E p hp hd.n) ⟨Nat.zero_le _,hs⟩ ?_
 .rintro k e J ⟨_,rfl⟩;exact⟨(by decide:376<=416),rfl⟩
 .rintro e J ⟨rfl,rfl⟩;exact⟨_,qmc,trivial,rfl,rfl⟩
def vw(k:Nat×Nat×List Tw)(e:Ex)(J:JSt):Prop:=e = .exit 0/\J=toF (vS d E k.1 k.2).2
theorem QZQ(hn:d.ps.n<=1000):QB3 (λk:Nat×Nat×List Tw=>toJ d E k.1 k.2.1 k.2.2) (λk=>k.1<=d.ps.n/\k.2.2.length<=1000*k.1) (λk=>d.ps.n-k.1) (vw d E) 376 368 QQx jt (λ_ _=>mkE prog QT) (λk _=>toH prog d E k.1 k.2.1 k.2.2 (toX d E k.1 k.2)) (QJ f21 0):=by
 refine⟨λk g0 hk=>?_⟩;obtain⟨p,z,o⟩:=k;obtain⟨hk,hol⟩:=hk;have hk:p<=d.ps.n:=hk;have hol:o.length<=1000*p:=hol;have hw:p<d.ps.n->IntKind.i64.wrap ((p:Int)+1)=((p+1:Nat):Int):=λh=>Ju h hn;have hlen:=QSX d E p (z,o)
 have next:p<d.ps.n->∀ e J,vw d E (p+1,Vr d E p 0 (z,o)) e J->vw d E (p,z,o) e J:=by
  intro h e J hr;unfold vw vS at hr ⊢;rw[QPf h];exact hr
 have last:d.ps.n<=p->vw d E (p,z,o) (.exit 0) (toF o):=by
  intro h;unfold vw vS;simp only[QOT h,and_self]
 unfold toX;simp only;generalize Vr d E p 0 (z,o)=s at next hlen ⊢
 obtain⟨z',o'⟩:=s
 have hl2:p<d.ps.n->o'.length<=1000*(p+1):=λh=>by
  have:o'.length<=o.length+p:=hlen;omega
 have et:=QeS d E p z o z' o' g0;refine Qf et ?_;clear et;refine QF (λb0=>?_) (λb0=>?_);have h:p<d.ps.n:=by have:=qdt b0;omega
 have hw:=hw h
 iterate 70 refine Qt (by first|exact tv|exact h|with_reducible exact qRr|exact rfl) ?_
 refine Qj λa0=>?_;refine Qk λg0=>?_;refine⟨(p+1,z',o'),⟨h,hl2 h⟩,by show d.ps.n-(p+1)<d.ps.n-p;omega,next h,rfl,rfl,_,QZK d E (p+1) z' p o',?_⟩
 rotate_left
 have h:d.ps.n<=p:=by have:=qdf b0;omega
 refine⟨_,last h,rfl,rfl,_,Qfc o z d E p,?_⟩
 rotate_left
 all_goals (repeat' first|with_reducible refine QP ?_ ?_|exact tv|with_reducible exact qRr|with_reducible exact hw|exact rfl|refine aI ?_ ?_)
def VH:List Tw:=(vS d E 0 (0,[])).2
theorem QXG(pb:List Prop->Bool){d:Puz}{E:ECt}(hE:WfE E)(hT:Qe (js pb d E))(G:Ctx)(hrd:G.rd=none)(hG:G.n<=368):Qu (mkE prog (js pb d E)) G (QH0 prog pb d E (VH d E)) (Qp f21):=by
 refine KM (body:=QJ f21 0) (QQ hT) hrd (by kernel_rfl) ?_
 refine Jm λhok=>?_;have hd:=(jx (jy hok)).1;refine QNv (E0:=mkE prog (js pb d E)) (E:=λ_ _=>mkE prog QT) (H:=λ(k:Nat×Nat×List Tw) _=>toH prog d E k.1 k.2.1 k.2.2 (toX d E k.1 k.2)) (n0:=376) (D:=368) (s0:=(0,0,[])) (λ_ _=>rfl) (λ_ _ _=>QQ Qd) (by omega) hG (λk g hk=>QYI hd hE k.1 k.2 hk.2 G hrd hG) (λk _=>⟨(by decide:376<=416),rfl⟩) ?_ (QZQ d E hd.n) ⟨Nat.zero_le _,Nat.zero_le _⟩ ?_
 .rintro k e J ⟨_,rfl⟩;exact⟨(by decide:376<=416),rfl⟩
 .rintro e J ⟨rfl,rfl⟩;exact⟨_,qmc,trivial,rfl,rfl⟩
def zM:List Tw×Int:=cond d.ok (Jf (VH d (QM d)),0) ([],1)
def Z4:WF (Puz×Unit):=λ|(d,_)=>(decide (d.ps.n<=1000)&&(!d.ok || !(VH d (QM d)).isEmpty),QES (zM d).1 (zM d).2,HR (zM d).1)
def QU9:FC:=wFC Z4
theorem Qcx:WOk (Z4 (d,())).2.1 (Z4 (d,())).2.2:=⟨rfl,by simp[Z4,HR,rwT,Blk.own,Blk.all],rfl⟩
theorem QZs:(VH d E).length<=d.ps.n*d.ps.n:=by
 have key:∀(l:List Nat) (s:Nat×List Tw),(∀ p∈l,p<=d.ps.n)->(l.foldl (λs p=>Vr d E p 0 s) s).2.length<=s.2.length+l.length*d.ps.n:=by
  intro l
  induction l with
  | nil=>intro s _;exact Nat.le_add_right _ _
  | cons p l ih=>
   intro s hl;rw[List.foldl_cons,List.length_cons,Nat.succ_mul];have h1:=ih (Vr d E p 0 s) (λq hq=>hl q (List.mem_cons_of_mem _ hq));have h2:=QSX d E p s;have h3:=hl p qmc;omega
 have:=key (List.range d.ps.n) (0,[]) (λp hp=>Nat.le_of_lt (List.mem_range.1 hp));rw[List.length_range]at this;unfold VH vS;rw[List.drop_zero];simpa using this
theorem QWk(hx:(Z4 (d,())).1=true):QR prog 21 (wFC (VJ Z4 (d,()))):=by
 have hx:(decide (d.ps.n<=1000)&&(!d.ok || !(VH d (QM d)).isEmpty))=true:=hx
 rw[qbA,qbO]at hx;have hn:d.ps.n<=1000:=qdt hx.1;have hne:=hx.2;have hO:=Y5 d hn;have hT:Qe (js QO d (QM d)):=QT3.add (Zz d (by omega))
 have hll:=QZs d (QM d);have hmm:=Nat.mul_le_mul hn hn;refine Yk (c:=Qp f21) (E:=mkE prog (js QO d (QM d))) (H:=QH0 prog QO d (QM d) (VH d (QM d))) (QQ hT) func21 (by kernel_rfl) (by kernel_rfl) (N:=112) (by decide) (d,()) (λG h1 h2=>QXG QO hO.w hT G h1 (by rw[h2];decide)) (Qcx d) ?_
 generalize hE:VH d (QM d)=o at hll hne;have hv:zM d=cond d.ok (Jf o,0) ([],1):=by unfold zM;rw[hE]
 have hs:=QHo o
 have hl:(List.range (0+o.length)).map (Xg (KN 0 (λ_ _=>0) λi=>QA.enc (o.getD i ⟨0,0⟩)))=o:=by
  rw[Nat.zero_add];apply List.ext_getElem
  .simp
  .intro i h1 h2;rw[List.getElem_map,List.getElem_range]
   have e:KN 0 (λ_ _=>0) (λi=>QA.enc (o.getD i (⟨0,0⟩:Tw))) i=QA.enc (o.getD i (⟨0,0⟩:Tw)):=by
    funext j;rw[X3,if_neg (Nat.not_lt_zero i),Nat.sub_zero]
   unfold Xg;rw[e,Xe h2];rfl
 have hr:∀ k,QB 2 k (Yd (0+o.length) (KN 0 (λ_ _=>0) λi=>QA.enc (o.getD i ⟨0,0⟩))) λi=>QA.enc ((Jf o).getD i (⟨0,0⟩:Tw)):=by
  intro k i _;unfold Yd;rw[hl];exact QDJ _ _ _
 have et:=QfE QO d (QM d) o;refine Qf et ?_;clear et;refine QH ?_ ?_;rotate_left;refine QF (λb0=>?_) (λb0=>?_);have b0:d.ok=false:=by simpa using b0
 rw[b0,cond_false]at hv;simp only[Z4,hv];refine⟨rfl,rfl,_,QVj [] 1,?_⟩
 rotate_left
 have b0:d.ok=true:=by simpa using b0
 rw[b0,cond_true]at hv
 have hlo:0<o.length:=by
  rcases hne with h|h
  .rw[b0]at h;cases h
  .cases o with
   | nil=>cases h
   | cons _ _=>simp
 iterate 2 (refine QH ?_ ?_;rotate_left)
 iterate 57 refine Qt (by first|exact tv|exact b0|with_reducible exact qRr|exact rfl) ?_
 refine Qj λa0=>?_;refine Qk λg0=>?_
 iterate 3 (refine QH ?_ ?_;rotate_left)
 simp only[Z4,hv];refine⟨rfl,rfl,_,QUG o (Jf o) 0,?_⟩
 rotate_left
 all_goals first|((with_reducible show _=true);(first|(refine Q6.2 ?_;repeat' first|with_reducible refine QP ?_ ?_|exact tv|with_reducible exact qRr|exact rfl|refine aI ?_ ?_)|(simp;omega)))|(repeat' first|with_reducible refine QP ?_ ?_|exact tv|with_reducible exact qRr|with_reducible exact hr _|omega|exact rfl|refine aI ?_ ?_)
theorem QcP:QR prog 21 QU9:=vh (by kernel_rfl) λ|(d,()),hx=>QWk d hx
open Go Go.Sort Go.SX Go.SX.Told
def goB{σ:Type}:QZ σ->Bool
 | .go _=>true
 | .stop _=>false
theorem QOW{σ α:Type}{f:σ->α->QZ σ}{p:α->Bool}(h:∀ s a,goB (f s a) = !p a):∀(l:List α) (s:σ),goB (Qz f l s) = !l.any p
 | [],_=>rfl
 | a::l,s=>by
  have ha:=h s a;simp only[Qz,List.any_cons];cases hf:f s a with
  | go s'=>
   rw[hf]at ha;have:p a=false:=by simpa[goB]using ha
   rw[this,Bool.false_or];exact QOW h l s'
  | stop s'=>
   rw[hf]at ha;have:p a=true:=by simpa[goB]using ha
   rw[this];rfl
variable {x:Tw}(d:Puz)(E:ECt)
def twB(a b:Nat):Bool:=(HT d E).any λl=>Vw d E (l.map (swS b a))
theorem QXT(p q:Nat)(s:Nat×List Tw):(tiZ d E p q s).2=s.2++cond (twB d E q p) [⟨q,p⟩] []:=by
 have h:=QOW (f:=λ(s:TJ) l=>twA d E p q l s) (p:=λl=>Vw d E (l.map (swS p q))) (λs l=>by
  unfold twA;cases Vw d E (l.map (swS p q))<;>rfl) (HT d E) ⟨s.1,trivial⟩
 rw[<-QdT]at h;unfold tiZ twB;cases hr:onY d E (twA d E p q) d.ps.n [] ⟨s.1,trivial⟩with
 | go z=>
  rw[hr]at h;have:((HT d E).any λl=>Vw d E (l.map (swS p q)))=false:=by simpa[goB]using h
  rw[this];simp
 | stop z=>
  rw[hr]at h;have:((HT d E).any λl=>Vw d E (l.map (swS p q)))=true:=by simpa[goB]using h
  rw[this];simp
def Hc(p q:Nat):List Tw:=cond (twB d E q p) [⟨q,p⟩] []
theorem QId{α β σ:Type}{f:σ->α->σ}{v:σ->List β}{g:α->List β}(h:∀ s a,v (f s a)=v s++g a):∀(l:List α) (s:σ),v (l.foldl f s)=v s++l.flatMap g
 | [],s=>by simp
 | a::l,s=>by rw[List.foldl_cons,QId h l,h,List.flatMap_cons,List.append_assoc]
theorem Qav(p:Nat)(s:Nat×List Tw):(Vr d E p 0 s).2=s.2++(List.range p).flatMap (Hc d E p):=by
 unfold Vr;rw[List.drop_zero];exact QId (v:=Prod.snd) (λs q=>QXT d E p q s) _ _
theorem QMx:VH d E=(List.range d.ps.n).flatMap λp=>(List.range p).flatMap (Hc d E p):=by
 unfold VH vS;rw[List.drop_zero];exact(QId (v:=Prod.snd) (λs p=>Qav d E p s) _ _).trans (List.nil_append _)
theorem HZ{d:Puz}{E:ECt}{p q:Nat}:x∈Hc d E p q↔twB d E q p=true/\x=⟨q,p⟩:=by
 unfold Hc;cases twB d E q p<;>simp
theorem QYr{d:Puz}{E:ECt}:x∈VH d E↔∃ a b,a<b/\b<d.ps.n/\twB d E a b=true/\x=⟨a,b⟩:=by
 rw[QMx];simp only[List.mem_flatMap,List.mem_range,HZ];constructor
 .rintro⟨p,hp,q,hq,h1,h2⟩;exact⟨q,p,hq,hp,h1,h2⟩
 .rintro⟨a,b,hab,hb,h1,h2⟩;exact⟨b,hb,a,hab,h1,h2⟩
theorem QdH:(VH d E).Nodup:=by
 rw[QMx];unfold List.Nodup;rw[List.pairwise_flatMap];refine⟨λp _=>?_,List.pairwise_lt_range.imp λ{p p'} hp x hx y hy=>?_⟩
 .rw[List.pairwise_flatMap];refine⟨λq _=>?_,List.pairwise_lt_range.imp λ{q q'} hq x hx y hy=>?_⟩
  .unfold Hc;cases twB d E q p
   .exact List.Pairwise.nil
   .exact List.pairwise_singleton _ _
  .obtain⟨_,rfl⟩:=HZ.1 hx;obtain⟨_,rfl⟩:=HZ.1 hy;intro e;simp only[Tw.mk.injEq]at e;omega
 .obtain⟨q,_,hx⟩:=List.mem_flatMap.1 hx;obtain⟨q',_,hy⟩:=List.mem_flatMap.1 hy;obtain⟨_,rfl⟩:=HZ.1 hx;obtain⟨_,rfl⟩:=HZ.1 hy;intro e;simp only[Tw.mk.injEq]at e;omega
def QCq(a:Nat):List Tw:=(List.range d.ps.n).flatMap λb=>cond (decide (a<b)&&twB d E a b) [⟨a,b⟩] []
def ZD:List Tw:=(List.range d.ps.n).flatMap (QCq d E)
theorem QEJ{d:Puz}{E:ECt}{a:Nat}:x∈QCq d E a↔∃ b,a<b/\b<d.ps.n/\twB d E a b=true/\x=⟨a,b⟩:=by
 unfold QCq;rw[List.mem_flatMap];constructor
 .rintro⟨b,hb,hx⟩;cases h:decide (a<b)&&twB d E a b with
  | false=>rw[h]at hx;cases hx
  | true=>
   rw[h]at hx;rw[qbA,qdE]at h;exact⟨b,h.1,List.mem_range.1 hb,h.2,by simpa using hx⟩
 .rintro⟨b,h1,h2,h3,rfl⟩;refine⟨b,List.mem_range.2 h2,?_⟩;rw[qde h1,h3];exact List.mem_singleton.2 rfl
theorem QRp:(ZD d E).Pairwise λx y=>Jb x y<0:=by
 unfold ZD;rw[List.pairwise_flatMap];refine⟨λa _=>?_,List.pairwise_lt_range.imp λ{a a'} ha x hx y hy=>?_⟩
 .unfold QCq;rw[List.pairwise_flatMap];refine⟨λb _=>?_,List.pairwise_lt_range.imp λ{b b'} hb x hx y hy=>?_⟩
  .cases decide (a<b)&&twB d E a b
   .exact List.Pairwise.nil
   .exact List.pairwise_singleton _ _
  .cases h:decide (a<b)&&twB d E a b with
   | false=>rw[h]at hx;cases hx
   | true=>
    cases h':decide (a<b')&&twB d E a b' with
    | false=>rw[h']at hy;cases hy
    | true=>
     rw[h]at hx;rw[h']at hy;have hx:x=⟨a,b⟩:=by simpa using hx
     have hy:y=⟨a,b'⟩:=by simpa using hy
     subst hx hy;rw[Xb];exact .inr ⟨rfl,by show(b:Int)<b';omega⟩
 .obtain⟨b,_,_,_,rfl⟩:=QEJ.1 hx;obtain⟨b',_,_,_,rfl⟩:=QEJ.1 hy;rw[Xb];exact .inl (by show(a:Int)<a';omega)
theorem QVY(x:Tw):¬ Jb x x<0:=by rw[Xb];omega
theorem QUT{l l':List Tw}(h:l.Perm l'):Jf l=Jf l':=by
 have h1:(Jf l).Pairwise λx y=>(!(ltOf Jb) y x)=true:=List.pairwise_mergeSort (λa b c h1 h2=>by
   simp only[ltOf,Bool.not_eq_true',decide_eq_false_iff_not,Xb]at *;omega) (λa b=>by
   simp only[ltOf,qbO,Bool.not_eq_true',decide_eq_false_iff_not,Xb];omega) l
 have h2:(Jf l').Pairwise λx y=>(!(ltOf Jb) y x)=true:=List.pairwise_mergeSort (λa b c h1 h2=>by
   simp only[ltOf,Bool.not_eq_true',decide_eq_false_iff_not,Xb]at *;omega) (λa b=>by
   simp only[ltOf,qbO,Bool.not_eq_true',decide_eq_false_iff_not,Xb];omega) l'
 have hp:(Jf l).Perm (Jf l'):=(List.mergeSort_perm l _).trans (h.trans (List.mergeSort_perm l' _).symm);exact hp.eq_of_pairwise (λa b _ _ q1 q2=>QKz a b (by simpa using q2) (by simpa using q1)) h1 h2
theorem QN7:Jf (VH d E)=ZD d E:=by
 have hnd:(ZD d E).Nodup:=(QRp d E).imp λ{x y} h q=>by subst q;exact QVY x h
 have hp:(VH d E).Perm (ZD d E):=by
  rw[List.perm_ext_iff_of_nodup (QdH d E) hnd];intro x;rw[QYr];unfold ZD;rw[List.mem_flatMap];constructor
  .rintro⟨a,b,h1,h2,h3,rfl⟩;exact⟨a,List.mem_range.2 (by omega),QEJ.2 ⟨b,h1,h2,h3,rfl⟩⟩
  .rintro⟨a,_,hx⟩;obtain⟨b,h1,h2,h3,rfl⟩:=QEJ.1 hx;exact⟨a,b,h1,h2,h3,rfl⟩
 rw[QUT hp];unfold Jf;refine List.mergeSort_of_pairwise ((QRp d E).imp λ{x y} h=>?_);have:¬ Jb y x<0:=by rw[Xb]at h ⊢;omega
 simp[ltOf,this]
end Go.Proofs.YtekbmehgcofnkaaGreat
namespace Go.SX
theorem QGT{P:Go.Program}{f:Go.FuncId}{α:Type}[Qi α]{F G:WF α}(h:QR P f (wFC F))(hFG:∀ x,(G x).1=true->F x=G x):QR P f (wFC G):=by
 refine⟨h.1,λargs nid all r w lk blks eff hH ha hv he hp=>?_⟩;simp only[wFC]at hv he;split at he<;>(try (cases he;done))
 rename_i p x hd;simp only[qsI]at he;subst he;have hp':(p&&(G x).1)=true:=hp;rw[qbA]at hp';refine h.2 args nid all r w lk blks _ hH ha hv ?_ hp;simp only[wFC,hd,hFG x hp'.2]
end Go.SX
namespace Go.Proofs.YtekbmehgcofnkaaGreat
open Go Go.Sort Go.SX Go.SX.Told
variable (d:Puz)
def KD:List Jn×List Jn×Int:=cond d.ok (Qb d 2,Qb d 1,0) ([],[],1)
def QNF:WF (Puz×Unit):=λ|(d,_)=>(decide (d.ps.n<=1000),QDn (KD d).1 (KD d).2.1 (KD d).2.2,QAh (KD d).1 (KD d).2.1)
theorem Qc3{d:Puz}(hn:d.ps.n<=1000):WI d=KD d:=by
 unfold WI KD;rw[QBe d hn (by decide),QBe d hn (by decide)]
def QPK:FC:=wFC QNF
theorem Qe0:QR prog 40 QPK:=QGT QWH fun
 | (d,_),h=>by
  have hn:d.ps.n<=1000:=qdt h;simp only[Zq,QNF,Qc3 hn]
def w0L:LJ:=if h:(Qb d 1).length<=1000000000 then ⟨_,h⟩else ⟨[],by decide⟩
theorem QX5{d:Puz}(hn:d.ps.n<=1000):w0Z d=w0L d:=by
 unfold w0Z w0L;have:=QBe d hn (m:=1) (by decide)
 simp only[this]
def QAM:List Jn×Int:=cond d.ok ((match onY d (QM d) (faY d) d.ps.n [] (w0L d)with | .go s | .stop s=>s.1),0) ([],1)
def QLs:WF (Puz×Unit):=λ|(d,_)=>(decide (d.ps.n<=1000),QAV (QAM d).1 (QAM d).2,GU (QAM d).1)
theorem Qbf{d:Puz}(hn:d.ps.n<=1000):Yb d=QAM d:=by
 unfold Yb QAM;rw[QX5 hn];rfl
def QP5:FC:=wFC QLs
theorem QSn:QR prog 43 QP5:=QGT QWq fun
 | (d,_),h=>by
  have hn:d.ps.n<=1000:=qdt h;simp only[Xx,QLs,Qbf hn]
def QEa:List Tw×Int:=cond d.ok (ZD d (QM d),0) ([],1)
def QKH:WF (Puz×Unit):=λ|(d,_)=>(decide (d.ps.n<=1000)&&(!d.ok || !(ZD d (QM d)).isEmpty),QES (QEa d).1 (QEa d).2,HR (QEa d).1)
def QM6:FC:=wFC QKH
theorem Qbk:QR prog 21 QM6:=QGT QcP fun
 | (d,_),h=>by
  have e:(VH d (QM d)).isEmpty=(ZD d (QM d)).isEmpty:=by
   have h1:=QHo (VH d (QM d));rw[QN7]at h1
   revert h1
   cases VH d (QM d)<;>cases ZD d (QM d)<;>simp
  simp only[Z4,QKH,zM,QEa,QN7,e]
def QFy:Tab:=Qc (Qc (Qc (Qc (Qc QP0 24 QRH) 43 QP5) 17 QQb) 19 QM9) 21 QM6
theorem QdD:Qe QFy:=((((Qef.add Qbe).add QSn).add Qcb).add Qdq).add Qbk
theorem QdF:KX (mkG prog (ZI prog QFy [] 12)) (hnd (mkG prog (ZI prog QFy [] 12)) 100) false f16 [] [] 0 = .leaf (.bool true true) []:=by kernel_rfl
theorem QZo:QR prog 16 QFO:=QdP (QMm QdD [] 12) 100 func16 (by kernel_rfl) (by kernel_rfl) QdF
