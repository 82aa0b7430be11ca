/- - -/
import Derived.Test.YtekbmehgcofnkaaGreatMzc
open Go.Proofs.Tryz
open Go.IntKind (i64)
set_option maxRecDepth 100000
namespace Go.SX
open Go Go.RowKit Go.Proofs.YtekbmehgcofnkaaGreat Told
theorem QC8(k:List Int):∀(es:List MapEntry) (i:Nat),(Kq k es i).map (·.2)=(Kq k es 0).map (·.2)
 | [],_=>rfl
 | e::es,i=>by
  simp only[Kq];cases Ka e==k with
  | true=>rfl
  | false=>exact(QC8 k es (i+1)).trans (QC8 k es 1).symm
theorem Yh(k:List Int)(e:MapEntry)(es:List MapEntry):KL (e::es) k=cond (Ka e==k) (intV e.val) (KL es k):=by
 unfold KL;simp only[Kq];cases Ka e==k with
 | true=>rfl
 | false=>
  have h:=QC8 k es 1;simp only[cond_false];cases h1:Kq k es (0+1)with
  | none=>rw[Nat.zero_add]at h1;rw[h1]at h;cases h0:Kq k es 0 with
   | none=>rfl
   | some q=>rw[h0]at h;cases h
  | some q=>rw[Nat.zero_add]at h1;rw[h1]at h;cases h0:Kq k es 0 with
   | none=>rw[h0]at h;cases h
   | some q'=>
    rw[h0]at h;simp only[Option.map_some,qsI]at h;obtain⟨a,b⟩:=q;obtain⟨a',b'⟩:=q';simp only at h;subst h;rfl
theorem QNA(k:List Int)(e:MapEntry):∀ es:List MapEntry,Kq k es 0=none->KL (es++[e]) k=cond (Ka e==k) (intV e.val) 0
 | [],_=>by rw[List.nil_append,Yh];rfl
 | x::es,h=>by
  have hx:=QE9 h x qmc;rw[List.cons_append,Yh,beq_false_of_ne hx,cond_false];refine QNA k e es ?_;have:=QC8 k es 1;simp only[Kq,beq_false_of_ne hx]at h;rw[show Kq k es 1=none from h]at this;cases h0:Kq k es 0 with
  | none=>rfl
  | some q=>rw[h0]at this;cases this
theorem QL4(k:List Int)(e:MapEntry)(hk:Ka e≠k):∀ es:List MapEntry,KL (es++[e]) k=KL es k
 | []=>by rw[List.nil_append,Yh,beq_false_of_ne hk];rfl
 | x::es=>by rw[List.cons_append,Yh,Yh,QL4 k e hk es]
theorem QRc{k:List Int}{kv v:Value}(hk:∀ e:MapEntry,e.key=kv->Ka e=k)(k':List Int):∀{es:List MapEntry} {i j:Nat} {u:Value},Kq k es i=some (j,u)->KL (VA kv v es (j-i)) k'=cond (k==k') (intV v) (KL es k')
 | [],_,_,_,h=>by cases h
 | e::es,i,j,u,h=>by
  simp only[Kq]at h;cases hx:Ka e==k with
  | true=>
   rw[hx]at h;simp only[qsI,qpI]at h;obtain⟨rfl,rfl⟩:=h;rw[Nat.sub_self];simp only[VA];rw[Yh,hk _ rfl,Yh,beq_iff_eq.1 hx];cases k==k'<;>rfl
  | false=>
   rw[hx]at h;have h1:=(H8 h).1;have ih:=QRc hk k' h (v:=v);rw[show j-i=(j-(i+1))+1 by omega]
   simp only[VA];rw[Yh,ih,Yh];cases he:Ka e==k' with
   | false=>rfl
   | true=>
    have:(k==k')=false:=by
     rw[beq_iff_eq.1 he]at hx;rw[beq_eq_false_iff_ne]at hx ⊢;exact λq=>hx q.symm
    rw[this];rfl
theorem QaZ{k:List Int}{kv v:Value}(hk:∀ e:MapEntry,e.key=kv->Ka e=k)(cl:Nat)(es:List MapEntry)(k':List Int):KL (JA k kv v cl es) k'=cond (k==k') (intV v) (KL es k'):=by
 unfold JA;cases hf:Kq k es 0 with
 | some q=>
  obtain⟨i,u⟩:=q;have:=QRc hk k' hf (v:=v);rw[Nat.sub_zero]at this;exact this
 | none=>
  have hkk:=hk { key:=kv,val:=v,born:=cl } rfl;show KL (es++[_]) k'=_;cases hq:k==k' with
  | true=>
   have:k=k':=beq_iff_eq.1 hq;subst this;rw[QNA k _ es hf,hkk,hq];rfl
  | false=>rw[QL4 k' _ (by rw[hkk];exact beq_eq_false_iff_ne.1 hq) es];rfl
theorem QI9:∀{es:List MapEntry} {e:MapEntry},(es.map Ka).Nodup->e∈es->KL es (Ka e)=intV e.val
 | [],_,_,h=>by cases h
 | x::es,e,hn,h=>by
  rw[List.map_cons,List.nodup_cons]at hn;rw[Yh];rcases List.mem_cons.1 h with rfl|h
  .simp
  .have:(Ka x==Ka e)=false:=by
    rw[beq_eq_false_iff_ne];intro q;exact hn.1 (q ▸ List.mem_map_of_mem h)
   rw[this];exact QI9 hn.2 h
theorem QOt:∀{es:List MapEntry} {k:List Int},KL es k≠0->∃ e∈es,Ka e=k
 | [],k,h=>absurd rfl h
 | x::es,k,h=>by
  rw[Yh]at h;cases hx:Ka x==k with
  | true=>exact⟨x,qmc,beq_iff_eq.1 hx⟩
  | false=>
   rw[hx]at h;obtain⟨e,he,hk⟩:=QOt h;exact⟨e,List.mem_cons_of_mem _ he,hk⟩
end Go.SX
namespace Go.Proofs.YtekbmehgcofnkaaGreat
open Go.SX Go.SX.Told
variable {i:Nat}(d:Puz)
theorem Qfj{d:Puz}{p q:QW}{k s t:Nat}{E:ECt}(K:List Int):KL (stE d p q i k s t E).1 K=cond ((((i:Int) != (k:Int))&&(meF d p q s t != 0))&&([(i:Int),(s:Int),(k:Int),(t:Int)]==K)) (meF d p q s t) (KL E.1 K):=by
 unfold stE;cases ((i:Int) != (k:Int))&&(meF d p q s t != 0)with
 | false=>rfl
 | true=>
  rw[Bool.true_and];exact QaZ (λe he=>zx he) _ _ K
theorem QPC{d:Puz}{p q:QW}{i k s:Nat}{E:ECt}(a b c e:Int):∀ t:Nat,KL (m4 d p q i k s E t).1 [a,b,c,e]=if (a=i/\b=s/\c=k/\0<=e/\e<t/\a≠c)/\meF d p q s e.toNat≠0 then meF d p q s e.toNat else KL E.1 [a,b,c,e]
 | 0=>by rw[if_neg (by omega)];rfl
 | t+1=>by
  show KL (stE d p q i k s t (m4 d p q i k s E t)).1 _=_;rw[Qfj,QPC a b c e t]
  by_cases h:(i:Int)≠k/\meF d p q s t≠0/\a=i/\b=s/\c=k/\e=t
  .obtain⟨h1,h2,rfl,rfl,rfl,rfl⟩:=h;have:((((i:Int) != (k:Int))&&(meF d p q s t != 0))&&([(i:Int),(s:Int),(k:Int),(t:Int)]==[(i:Int),(s:Int),(k:Int),(t:Int)]))=true:=by simp[h2];omega
   rw[this,cond_true,if_pos ⟨by omega,by simpa using h2⟩]
   simp
  .have:((((i:Int) != (k:Int))&&(meF d p q s t != 0))&&([(i:Int),(s:Int),(k:Int),(t:Int)]==[a,b,c,e]))=false:=by
    rw[Bool.eq_false_iff];intro q;simp only[qbA,bne_iff_ne,ne_eq,beq_iff_eq,List.cons.injEq,and_true]at q;exact h ⟨q.1.1,q.1.2,q.2.1.symm,q.2.2.1.symm,q.2.2.2.1.symm,q.2.2.2.2.symm⟩
   rw[this,cond_false]
   by_cases h2:(a=i/\b=s/\c=k/\0<=e/\e<t/\a≠c)/\meF d p q s e.toNat≠0
   .rw[if_pos h2,if_pos ⟨by omega,h2.2⟩]
   .rw[if_neg h2,if_neg];rintro⟨⟨h3,h4,h5,h6,h7,h8⟩,h9⟩
    by_cases he:e=t
    .subst he;exact h ⟨by omega,by simpa using h9,h3,h4,h5,rfl⟩
    .exact h2 ⟨⟨h3,h4,h5,h6,by omega,h8⟩,h9⟩
theorem QLO{d:Puz}{p q:QW}{i k:Nat}{E:ECt}(a b c e:Int):∀ s:Nat,KL (m3 d p q i k E s).1 [a,b,c,e]=if (a=i/\0<=b/\b<s/\c=k/\0<=e/\e<4/\a≠c)/\meF d p q b.toNat e.toNat≠0 then meF d p q b.toNat e.toNat else KL E.1 [a,b,c,e]
 | 0=>by rw[if_neg (by omega)];rfl
 | s+1=>by
  show KL (m4 d p q i k s (m3 d p q i k E s) 4).1 _=_;rw[QPC,QLO a b c e s]
  by_cases hb:b=s
  .subst hb;rw[Int.toNat_natCast]
   by_cases h:(a=i/\(s:Int)=s/\c=k/\0<=e/\e<(4:Nat)/\a≠c)/\meF d p q s e.toNat≠0
   .rw[if_pos h,if_pos ⟨by omega,h.2⟩]
   .rw[if_neg h,if_neg (by omega),if_neg]
    rintro⟨h1,h2⟩;exact h ⟨by omega,h2⟩
  .rw[if_neg (λh=>hb h.1.2.1)]
   by_cases h:(a=i/\0<=b/\b<s/\c=k/\0<=e/\e<4/\a≠c)/\meF d p q b.toNat e.toNat≠0
   .rw[if_pos h,if_pos ⟨by omega,h.2⟩]
   .rw[if_neg h,if_neg];rintro⟨h1,h2⟩;exact h ⟨by omega,h2⟩
theorem QRb{d:Puz}{p:QW}{i:Nat}{E:ECt}(a b c e:Int):∀ k:Nat,KL (m2 d p i E k).1 [a,b,c,e]=if (a=i/\0<=b/\b<4/\0<=c/\c<k/\0<=e/\e<4/\a≠c)/\meF d p (d.ps.get c.toNat) b.toNat e.toNat≠0 then meF d p (d.ps.get c.toNat) b.toNat e.toNat else KL E.1 [a,b,c,e]
 | 0=>by rw[if_neg (by omega)];rfl
 | k+1=>by
  show KL (m3 d p (d.ps.get k) i k (m2 d p i E k) 4).1 _=_;rw[QLO,QRb a b c e k]
  by_cases hc:c=k
  .subst hc;rw[Int.toNat_natCast]
   by_cases h:(a=i/\0<=b/\b<(4:Nat)/\(k:Int)=k/\0<=e/\e<4/\a≠k)/\meF d p (d.ps.get k) b.toNat e.toNat≠0
   .rw[if_pos h,if_pos ⟨by omega,h.2⟩]
   .rw[if_neg h,if_neg (by omega),if_neg]
    rintro⟨h1,h2⟩;exact h ⟨by omega,h2⟩
  .rw[if_neg (λh=>hc h.1.2.2.2.1)]
   by_cases h:(a=i/\0<=b/\b<4/\0<=c/\c<k/\0<=e/\e<4/\a≠c)/\meF d p (d.ps.get c.toNat) b.toNat e.toNat≠0
   .rw[if_pos h,if_pos ⟨by omega,h.2⟩]
   .rw[if_neg h,if_neg];rintro⟨h1,h2⟩;exact h ⟨by omega,h2⟩
theorem QLv(d:Puz)(a b c e:Int):∀ i:Nat,KL (m1 d i).1 [a,b,c,e]=if (0<=a/\a<i/\0<=b/\b<4/\0<=c/\c<d.ps.n/\0<=e/\e<4/\a≠c)/\meF d (d.ps.get a.toNat) (d.ps.get c.toNat) b.toNat e.toNat≠0 then meF d (d.ps.get a.toNat) (d.ps.get c.toNat) b.toNat e.toNat else 0
 | 0=>by rw[if_neg (by omega)];rfl
 | i+1=>by
  show KL (m2 d (d.ps.get i) i (m1 d i) d.ps.n).1 _=_;rw[QRb,QLv d a b c e i]
  by_cases ha:a=i
  .subst ha;rw[Int.toNat_natCast]
   by_cases h:((i:Int)=i/\0<=b/\b<4/\0<=c/\c<d.ps.n/\0<=e/\e<4/\(i:Int)≠c)/\meF d (d.ps.get i) (d.ps.get c.toNat) b.toNat e.toNat≠0
   .rw[if_pos h,if_pos ⟨by omega,h.2⟩]
   .rw[if_neg h,if_neg (by omega),if_neg]
    rintro⟨h1,h2⟩;exact h ⟨by omega,h2⟩
  .rw[if_neg (λh=>ha h.1.1)]
   by_cases h:(0<=a/\a<i/\0<=b/\b<4/\0<=c/\c<d.ps.n/\0<=e/\e<4/\a≠c)/\meF d (d.ps.get a.toNat) (d.ps.get c.toNat) b.toNat e.toNat≠0
   .rw[if_pos h,if_pos ⟨by omega,h.2⟩]
   .rw[if_neg h,if_neg];rintro⟨h1,h2⟩;exact h ⟨by omega,h2⟩
theorem QEY(a b c e:Int):KL (QM d).1 [a,b,c,e]=if 0<=a/\a<d.ps.n/\0<=b/\b<4/\0<=c/\c<d.ps.n/\0<=e/\e<4/\a≠c then meF d (d.ps.get a.toNat) (d.ps.get c.toNat) b.toNat e.toNat else 0:=by
 rw[QM,QLv]
 by_cases h:0<=a/\a<d.ps.n/\0<=b/\b<4/\0<=c/\c<d.ps.n/\0<=e/\e<4/\a≠c
 .rw[if_pos h]
  by_cases h2:meF d (d.ps.get a.toNat) (d.ps.get c.toNat) b.toNat e.toNat≠0
  .rw[if_pos ⟨h,h2⟩]
  .rw[if_neg (λq=>h2 q.2)];exact(Classical.not_not.1 h2).symm
 .rw[if_neg h,if_neg (λq=>h q.1)]
open Go.SX Go.SX.Told Go.Sort
theorem QEt{E:ECt}(h:WfE E){e:MapEntry}(he:e∈E.1):Ka e=[QL e 0,QL e 1,QL e 2,QL e 3]:=by
 have:=List.all_eq_true.1 (show wf4 .i64 E.1=true from h) e he;rw[qbA]at this;obtain⟨a,b,c,d,hk⟩:=QEj this.1;have hl:=zx hk;unfold QL;rw[hl];rfl
variable {m:Int}{x:Jn}{i:Nat}(d:Puz)(E:ECt)(ac body:Code)(l l2:List Lay)(u:Nat->Nat->Int)(p:Nat)(u2:Nat->Nat->Int)(f' g':List Lay)(many':Int)(t:Nat)
theorem QDK{e:MapEntry}:x∈VC m e↔(m<=intV e.val/\QL e 0<QL e 2)/\x=jG e:=by
 unfold VC
 by_cases h:m<=intV e.val/\QL e 0<QL e 2
 .rw[qde h.1,qde h.2];simp[h]
 .have:(decide (m<=intV e.val)&&decide (QL e 0<QL e 2))=false:=by
   rw[Bool.eq_false_iff];intro q;simp only[qbA,qdE]at q;exact h q
  rw[this];simp[h]
theorem QX8{E:ECt}{c:Nat}(h:OkE E c)(hm:1<=m)(x:Jn):x∈Kc E m↔m<=KL E.1 [x.a,x.i,x.b,x.j]/\x.a<x.b:=by
 unfold Kc;rw[List.mem_flatMap];constructor
 .rintro⟨e,he,hx⟩;obtain⟨⟨h1,h2⟩,rfl⟩:=QDK.1 hx;have hk:=QEt h.w he;have hl:=QI9 h.m.keys he;rw[hk]at hl;exact⟨by show m<=KL E.1 [QL e 0,QL e 1,QL e 2,QL e 3];rw[hl];exact h1,h2⟩
 .rintro⟨h1,h2⟩;obtain⟨e,he,hk⟩:=QOt (es:=E.1) (k:=[x.a,x.i,x.b,x.j]) (by omega)
  have hk4:=QEt h.w he;have hl:=QI9 h.m.keys he;rw[hk]at hl;rw[hk]at hk4;simp only[List.cons.injEq,and_true]at hk4;obtain⟨e1,e2,e3,e4⟩:=hk4;refine⟨e,he,QDK.2 ⟨⟨by rw[<-hl];exact h1,by rw[<-e1,<-e3];exact h2⟩,?_⟩⟩
  obtain⟨a,i,b,j⟩:=x;simp only at e1 e2 e3 e4;unfold jG;rw[<-e1,<-e2,<-e3,<-e4]
theorem Qb3{E:ECt}{c:Nat}(h:OkE E c)(m:Int):(Kc E m).Nodup:=by
 unfold Kc List.Nodup;rw[List.pairwise_flatMap];constructor
 .intro e _;unfold VC;cases decide (m<=intV e.val)&&decide (QL e 0<QL e 2)
  .exact List.Pairwise.nil
  .exact List.pairwise_singleton _ _
 .have hp:E.1.Pairwise λa b=>Ka a≠Ka b:=List.pairwise_map.1 h.m.keys;refine hp.imp_of_mem ?_;intro a b ha hb hab x hx y hy;obtain⟨_,rfl⟩:=QDK.1 hx;obtain⟨_,rfl⟩:=QDK.1 hy;intro q;apply hab;rw[QEt h.w ha,QEt h.w hb];simp only[jG,Jn.mk.injEq]at q;rw[q.1,q.2.1,q.2.2.1,q.2.2.2]
def isJ(m:Int)(p i q j:Nat):Bool:=decide (p<q)&&decide (m<=meF d (d.ps.get p) (d.ps.get q) i j)
def ZF(m:Int)(p i q:Nat):List Jn:=(List.range 4).flatMap λj=>cond (isJ d m p i q j) [⟨p,i,q,j⟩] []
def Wl(m:Int)(p i:Nat):List Jn:=(List.range d.ps.n).flatMap (ZF d m p i)
def qN(m:Int)(p:Nat):List Jn:=(List.range 4).flatMap (Wl d m p)
def Qb(m:Int):List Jn:=(List.range d.ps.n).flatMap (qN d m)
theorem QCe{d:Puz}{p q:Nat}:x∈ZF d m p i q↔∃ j,j<4/\isJ d m p i q j=true/\x=⟨p,i,q,j⟩:=by
 unfold ZF;rw[List.mem_flatMap];constructor
 .rintro⟨j,hj,hx⟩;cases hb:isJ d m p i q j with
  | false=>rw[hb]at hx;cases hx
  | true=>
   rw[hb]at hx;exact⟨j,List.mem_range.1 hj,hb,by simpa using hx⟩
 .rintro⟨j,hj,hb,rfl⟩;exact⟨j,List.mem_range.2 hj,by rw[hb];exact List.mem_singleton.2 rfl⟩
theorem QB4{d:Puz}{p:Nat}:x∈Wl d m p i↔∃ q j,q<d.ps.n/\j<4/\isJ d m p i q j=true/\x=⟨p,i,q,j⟩:=by
 unfold Wl;rw[List.mem_flatMap];constructor
 .rintro⟨q,hq,hx⟩;obtain⟨j,hj,hb,rfl⟩:=QCe.1 hx;exact⟨q,j,List.mem_range.1 hq,hj,hb,rfl⟩
 .rintro⟨q,j,hq,hj,hb,rfl⟩;exact⟨q,List.mem_range.2 hq,QCe.2 ⟨j,hj,hb,rfl⟩⟩
theorem QB2{d:Puz}{p:Nat}:x∈qN d m p↔∃ i q j,i<4/\q<d.ps.n/\j<4/\isJ d m p i q j=true/\x=⟨p,i,q,j⟩:=by
 unfold qN;rw[List.mem_flatMap];constructor
 .rintro⟨i,hi,hx⟩;obtain⟨q,j,hq,hj,hb,rfl⟩:=QB4.1 hx;exact⟨i,q,j,List.mem_range.1 hi,hq,hj,hb,rfl⟩
 .rintro⟨i,q,j,hi,hq,hj,hb,rfl⟩;exact⟨i,List.mem_range.2 hi,QB4.2 ⟨q,j,hq,hj,hb,rfl⟩⟩
theorem QfJ{d:Puz}:x∈Qb d m↔∃ p i q j,p<d.ps.n/\i<4/\q<d.ps.n/\j<4/\isJ d m p i q j=true/\x=⟨p,i,q,j⟩:=by
 unfold Qb;rw[List.mem_flatMap];constructor
 .rintro⟨p,hp,hx⟩;obtain⟨i,q,j,hi,hq,hj,hb,rfl⟩:=QB2.1 hx;exact⟨p,i,q,j,List.mem_range.1 hp,hi,hq,hj,hb,rfl⟩
 .rintro⟨p,i,q,j,hp,hi,hq,hj,hb,rfl⟩;exact⟨p,List.mem_range.2 hp,QB2.2 ⟨i,q,j,hi,hq,hj,hb,rfl⟩⟩
theorem QMA(m:Int):(Qb d m).Pairwise λx y=>VZ x y<0:=by
 unfold Qb;rw[List.pairwise_flatMap];refine⟨λp _=>?_,List.pairwise_lt_range.imp λ{p p'} hp x hx y hy=>?_⟩
 .unfold qN;rw[List.pairwise_flatMap];refine⟨λi _=>?_,List.pairwise_lt_range.imp λ{i i'} hi x hx y hy=>?_⟩
  .unfold Wl;rw[List.pairwise_flatMap];refine⟨λq _=>?_,List.pairwise_lt_range.imp λ{q q'} hq x hx y hy=>?_⟩
   .unfold ZF;rw[List.pairwise_flatMap];refine⟨λj _=>?_,List.pairwise_lt_range.imp λ{j j'} hj x hx y hy=>?_⟩
    .cases isJ d m p i q j
     .exact List.Pairwise.nil
     .exact List.pairwise_singleton _ _
    .cases hb:isJ d m p i q j with
     | false=>rw[hb]at hx;cases hx
     | true=>
      cases hb':isJ d m p i q j' with
      | false=>rw[hb']at hy;cases hy
      | true=>
       rw[hb]at hx;rw[hb']at hy;have hx:x=⟨p,i,q,j⟩:=by simpa using hx
       have hy:y=⟨p,i,q,j'⟩:=by simpa using hy
       subst hx hy;have hj:j<j':=hj;rw[ZA];exact .inr ⟨rfl,.inr ⟨rfl,.inr ⟨rfl,by show(j:Int)<j';omega⟩⟩⟩
   .obtain⟨j,_,_,rfl⟩:=QCe.1 hx;obtain⟨j',_,_,rfl⟩:=QCe.1 hy;have hq:q<q':=hq;rw[ZA];exact .inr ⟨rfl,.inr ⟨rfl,.inl (by show(q:Int)<q';omega)⟩⟩
  .obtain⟨q,j,_,_,_,rfl⟩:=QB4.1 hx;obtain⟨q',j',_,_,_,rfl⟩:=QB4.1 hy;have hi:i<i':=hi;rw[ZA];exact .inr ⟨rfl,.inl (by show(i:Int)<i';omega)⟩
 .obtain⟨i,q,j,_,_,_,_,rfl⟩:=QB2.1 hx;obtain⟨i',q',j',_,_,_,_,rfl⟩:=QB2.1 hy;have hp:p<p':=hp;rw[ZA];simp only;omega
theorem QeH(x:Jn):¬ VZ x x<0:=by rw[ZA];omega
theorem QBe(hn:d.ps.n<=1000)(hm:1<=m):KO (Kc (QM d) m)=Qb d m:=by
 have hE:=Y5 d hn;have hnd:(Qb d m).Nodup:=(QMA d m).imp λ{x y} h q=>by subst q;exact QeH x h
 have hp:(Kc (QM d) m).Perm (Qb d m):=by
  rw[List.perm_ext_iff_of_nodup (Qb3 hE m) hnd];intro x;rw[QX8 hE hm,QfJ,QEY];constructor
  .rintro⟨h1,h2⟩
   by_cases h:0<=x.a/\x.a<d.ps.n/\0<=x.i/\x.i<4/\0<=x.b/\x.b<d.ps.n/\0<=x.j/\x.j<4/\x.a≠x.b
   .rw[if_pos h]at h1;refine⟨x.a.toNat,x.i.toNat,x.b.toNat,x.j.toNat,by omega,by omega,by omega,by omega,?_,?_⟩
    .unfold isJ;rw[qde h1,qde (by omega)];rfl
    .obtain⟨a,i,b,j⟩:=x;simp only[Jn.mk.injEq]at *;omega
   .rw[if_neg h]at h1;omega
  .rintro⟨p,i,q,j,hp,hi,hq,hj,hb,rfl⟩;simp only[isJ,qbA,qdE]at hb;refine⟨?_,by show(p:Int)<q;omega⟩
   rw[if_pos (by simp only;omega)]
   exact hb.2
 rw[QQy hp];unfold KO;refine List.mergeSort_of_pairwise ((QMA d m).imp λ{x y} h=>?_);have:¬ VZ y x<0:=by rw[ZA]at h ⊢;omega
 simp[ltOf,this]
def KG(i:Nat):Bool:=l.any λy=>y.piece==(i:Int)
def QD(i:Nat)(_:Nat):Int:=cond (KG l i) 1 0
def rwY(id:Nat)(l:List Lay):Nat×Blk:=(id,.rowz true 49 kB l.length λi=>QA.enc (l.getD i ⟨0,0⟩))
def rwU(id:Nat)(d:Puz)(u:Nat->Nat->Int):Nat×Blk:=(id,.rowz true 4 [.bool] d.ps.n u)
def Xl:List AV:=[.agg (KR d),.ptr 96 0 0,.ptr 104 0 0,.ptr 112 0 0,.ptr 120 0 0,.int true .i64 0,.ptr 200 0 0,.tup [],.tup [.ptr 200 0 0,.int true .i64 0],.agg (KR d),.tup [.ptr 200 0 0,.int true .i64 0],.ptr 200 0 0,.int true .i64 0,.int true .i64 0,.bool true false,.tup [],.ptr 200 0 0,.fn (.func 102) [.ptr 288 0 0,.ptr 296 0 0],.tup [],.tup [],.tup [],.tup [],.tup [],.tup [],.tup [],.tup [],.tup [],.tup [],.tup [],.tup [],.tup [],.tup [],.tup [],.tup [],.tup [],.tup [],.tup []]
def QFR:List AV:=[.ptr 288 0 0,.ptr 336 0 0,.ptr 400 0 0,.ptr 296 0 0,.ptr 416 0 0]
def QEP:List (Nat×Blk):=
 [(416,.cellsR 0 31 [.fn (.func 103) QFR]),(336,.cellsR 0 105 [.yld 329]),(296,.cellsR 0 96 [.nils]),(288,.cellsR 0 90 [.ptr 200 0 0]),(96,.cellsR 0 28 (KR d))]++Ql.blk 0 d.ps
def YI(ls:LoopState)(pe:Option Code)(d:Puz)(E:ECt)(ac body:Code)(u:Nat->Nat->Int)(l:List Lay)(a b c w:Nat)(many:Int)(f g:List Lay):List (Nat×Blk):=
 [(200,.cells 0 152 (KR d++[.map 201,.slz a 0 l.length (.of 0)])),(201,.mp E.1 E.2),rwY a l,(400,.cells 0 114 [.slz w 0 d.ps.n (.of 0)]),rwU w d u,(329,.lp ls pe (Xl d) #[18] ac body),(120,.cells 0 3 [vi many]),(104,.cells 0 42 [.slz b 0 f.length (.of 0)]),rwY b f,(112,.cells 0 42 [.slz c 0 g.length (.of 0)]),rwY c g]
def QMY:List (Nat×AV):=[(0,.ptr 288 0 0),(1,.ptr 336 0 0),(2,.ptr 400 0 0),(3,.ptr 296 0 0),(4,.ptr 416 0 0)]
def Gd(l:List Lay)(many:Int)(f g:List Lay):JSt:=⟨5,QMY,YI .ready none d E ac body u l 432 440 448 456 many f g++QEP d,464⟩
def J3(l:List Lay)(many:Int)(f g:List Lay)(many':Int)(f' g':List Lay):UC:=
 ⟨424,Gd d E ac body u l many f g,λ_=>.bool false true,λm=>YI .ready none d E ac body u l m (m+1) (m+2) (m+3) many' f' g'⟩
def XU(l:List Lay)(many:Int)(f g:List Lay)(many':Int)(f' g':List Lay):UC:=
 ⟨424,Gd d E ac body u l many f g,λ_=>.bool false false,λm=>YI .done (some (.exit 0)) d E ac body u l m (m+1) (m+2) (m+3) many' f' g'⟩
def Z2:List Nat:=[200,201,400,329,120,104,112]
def QIk(n:Nat)(p:Nat):List (Nat×AV):=QMY++[(33,.int false .i64 n),(34,.int false .i64 p)]
def Qey(n:Nat)(p:Nat)(tn:Int)(t:Nat):List (Nat×AV):=QIk n p++[(6,.int false .i64 p),(43,.int false .i64 tn),(44,.int false .i64 t)]
def GO(l:List Lay)(many:Int)(f g:List Lay)(p:Nat):JSt:=⟨101,QIk d.ps.n p,YI .ready none d E ac body u l 472 480 488 496 many f g++QEP d,504⟩
def G3(l:List Lay)(many:Int)(f g:List Lay)(p:Nat)(tn:Int)(t:Nat):JSt:=⟨101,Qey d.ps.n p tn t,YI .ready none d E ac body u l 472 480 488 496 many f g++QEP d,504⟩
def GK(l:List Lay)(many:Int)(f g:List Lay):JSt:=⟨101,[],YI .ready none d E ac body u l 472 480 488 496 many f g,504⟩
def QAv(l:List Lay)(many:Int)(f g:List Lay)(p:Nat):JSt:=⟨101,QIk d.ps.n p,YI .ready none d E ac body u l 472 480 488 496 many f g++QEP d,504⟩
def soF(l:List Lay)(many:Int)(f g:List Lay):JSt:=⟨101,[(5,.bool false false)],YI .done (some (.exit 0)) d E ac body u l 472 480 488 496 many f g,504⟩
def QRP:Ex->List Nat
 | .normal=>[0,1,2,3,4,33,34]
 | .exit _=>[]
 | .ret=>[5]
def QIj:Ex->List Nat
 | .normal=>[0,1,2,3,4,33,34,6,43,44]
 | .exit _=>[0,1,2,3,4,33,34]
 | .ret=>[5]
def QAw(pb1 pb2:List Prop->Bool)(d:Puz)(E:ECt)(l:List Lay)(x:Lay)(v:Bool)(U:UC):Tab:=Qc (Qc QT 105 (KB pb1 (myU d E l x v))) 103 (KB pb2 U)
noncomputable abbrev wa3:List AV:=[.ptr 288 0 0,.ptr 336 0 0,.ptr 400 0 0,.ptr 296 0 0,.ptr 416 0 0]
noncomputable abbrev wcp(d:Puz)(p:Nat):List AV:=[vi (d.ps.n:Int),vi (p:Int),vi (p:Int)]
noncomputable abbrev vo(tn:Int):List AV:=
  (.nilp::.ptr 101 0 0::List.append (wa3) ((List.append (wcp d p) ([.int false .i64 tn,vi (i64.wrap ((t:Int)+1))]))))
noncomputable abbrev QCE(d:Puz):Nat×Blk:=
  (329,.lp LoopState.ready none (Xl d) (Array.mk [18]) ac body)
noncomputable abbrev qa:Nat×Blk:=
  (288,.cellsR 0 90 [.ptr 200 0 0])
noncomputable abbrev QDP:Nat×Blk:=
  (416,.cellsR 0 31 [.fn (Fn.func 103) (wa3)])
noncomputable abbrev vG:Nat×Blk:=
  (0,.frz (List.append (waa) ((List.append (waG) ((List.append (wbk) ([.int .i64])))))) d.ps.n λi=>QA.enc (d.ps.get i))
noncomputable abbrev jk:Nat×Blk:=
  (96,.cellsR 0 28 (waf d))
noncomputable abbrev wbc:List (Nat×Blk):=[(336,.cellsR 0 105 [.yld 329]),(296,.cellsR 0 96 [.nils])]
noncomputable abbrev Wn(d:Puz)(f:List Lay)(g:List Lay)(l:List Lay)(many:Int)(u:Nat->Nat->Int):List (Nat×Blk):=
  ((200,.cells 0 152 (List.append (waf d) ([.map 201,.slz 472 0 l.length cO])))::(201,.mp E.1 E.2)::(400,.cells 0 114 [.slz
  496 0 d.ps.n cO])::(QCE ac body d)::(120,.cells 0 3 [vi many])::(104,.cells 0 42 [.slz 480 0 f.length cO])::(112,.cells 0 42 [.slz 488 0 g.length
  cO])::qa::List.append (wbc) ([QDP,(vG d),(472,.rowz true 49 kB l.length λi=>QA.enc (l.getD i
  (Lay.mk (0:Int) (0:Int)))),(496,.rowz true 4 [CK.bool] d.ps.n u),(jk d),(480,.rowz true 49 kB f.length λi=>QA.enc (f.getD i (Lay.mk (0:Int)
  (0:Int)))),(488,.rowz true 49 kB g.length λi=>QA.enc (g.getD i (Lay.mk (0:Int) (0:Int))))]))
abbrev wag(l:List Lay):List Prop:=[l.length<=l.length,QB 2 l.length (λi=>QA.enc (l.getD i (Lay.mk (0:Int) (0:Int)))) λi=>QA.enc (l.getD i (Lay.mk (0:Int) (0:Int)))]
abbrev QKh(d:Puz)(l:List Lay)(p:Nat)(t:Nat):List Prop:=
  ([0=0,0=0,(p:Int)=(p:Int),(t:Int)=(t:Int)]++wab d++(([cO=cO,0=0,l.length=l.length,cO
  = cO]++wag l++[E.1=E.1,E.2=E.2])++wae d))
abbrev waj:List Prop:=[LoopState.ready=LoopState.ready,(none:Option Code)=none]
abbrev wbg(l:List Lay)(l2:List Lay)(p:Nat)(t:Nat):List Prop:=[l2.length<=l.length+1,QB 2 l2.length (KN l.length (λi=>QA.enc (l.getD i (Lay.mk (0:Int) (0:Int)))) (Kh [[.int
  false .i64 (p:Int),vi (t:Int)]] 0)) λi=>QA.enc (l2.getD i (Lay.mk (0:Int) (0:Int)))]
abbrev wb2:List Prop:=[0=0,0=0,0=0,0=0,0=0,0=0,0=0,0=0,0=0]
abbrev wcG:List Prop:=[0=0,0=0,(0:Int)=0,0=0,0=0,(0:Int)=0,(0:Int)=0,false=false,0=0,0=0]
abbrev wcN(d:Puz):List Prop:=[0=0,d.ps.n=d.ps.n,cO=cO,d.ps.n<=d.ps.n]
abbrev wcY:List Prop:=[Fn.func 102=Fn.func 102,0=0,0=0,0=0,0=0]
abbrev wc0:List Prop:=[0=0,0=0,0=0,0=0,0=0,0=0,0=0,0 =
  0,(0:Int)=0,0=0,0=0,0=0,0=0,(0:Int)=0]
abbrev QLc(d:Puz)(f:List Lay)(g:List Lay)(l:List Lay)(l2:List Lay)(many:Int)(p:Nat)(t:Nat)(u:Nat->Nat->Int)(u2:Nat->Nat->Int):List Prop:=
  ((wb2++[0=0])++wab d++(([cO=cO,0=0,l.length+1=l2.length,cO=cO,E.1=E.1,E.2=E.2]++wbg l l2 p t++(wcN d++[QB 1 d.ps.n (λi=>bif decide (i=p)then KZ [.bool true true] 0 (u ((p:Int).toNat+0))else u i) u2]))++waj++[Array.mk [18]=Array.mk [18],ac=ac,body=body])++wab d++([cO=cO]++wc0)++wab d++(([cO=cO]++wcG++(wcY++[many=many,0=0,f.length=f.length,cO=Cap.of
  0,f.length<=f.length,QB 2 f.length (λi=>QA.enc (f.getD i (Lay.mk (0:Int) (0:Int)))) λi=>QA.enc (f.getD i (Lay.mk (0:Int) (0:Int))),0=0,g.length =
  g.length,cO=cO,g.length<=g.length,QB 2 g.length (λi=>QA.enc (g.getD i (Lay.mk (0:Int) (0:Int)))) λi=>QA.enc (g.getD i (Lay.mk (0:Int) (0 :
  Int))),Fn.func 103=Fn.func 103]))++wb2++[0=0,0=0,0=0])++wab d++([cO =
  cO]++wae d))
noncomputable abbrev Gg:Nat×Blk:=
  (200,.cells 0 152 (List.append (waf d) ([.map 201,.slz 816 0 (i64.wrap ((l2.length:Int)-1)).toNat cO])))
noncomputable abbrev vT:Nat×Blk:=
  (400,.cells 0 114 [.slz 819 0 d.ps.n cO])
noncomputable abbrev vV:Nat×Blk:=
  (120,.cells 0 3 [vi many'])
noncomputable abbrev vO:Nat×Blk:=
  (104,.cells 0 42 [.slz 817 0 f'.length cO])
noncomputable abbrev zo:Nat×Blk:=
  (112,.cells 0 42 [.slz 818 0 g'.length cO])
noncomputable abbrev zt:Nat×Blk:=
  (816,.rowz true 49 kB l2.length λi=>QA.enc (l2.getD i (Lay.mk (0:Int) (0:Int))))
noncomputable abbrev G6:Nat×Blk:=
  (819,.rowz true 4 [CK.bool] d.ps.n λi=>bif decide (i=p)then KZ [.bool true false] 0 (u2 ((p:Int).toNat+0))else u2 i)
noncomputable abbrev vy:Nat×Blk:=
  (817,.rowz true 49 kB f'.length λi=>QA.enc (f'.getD i (Lay.mk (0:Int) (0:Int))))
noncomputable abbrev zm:Nat×Blk:=
  (818,.rowz true 49 kB g'.length λi=>QA.enc (g'.getD i (Lay.mk (0:Int) (0:Int))))
noncomputable abbrev QPs:List AV:=
  (.ptr 2 0 0::.ptr 101 0 0::List.append (wa3) ([vi (d.ps.n:Int),vi (p:Int)]))
noncomputable abbrev wcu:List AV:=[.nili,.ptr 101 0 0,.bool true false]
theorem QXz(pb1 pb2:List Prop->Bool)(d:Puz)(E:ECt)(ac body:Code)(u u2:Nat->Nat->Int)(l l2:List Lay)(v:Bool)(many:Int)(f g:List Lay)(p:Nat)(tn:Int)(t:Nat)(many':Int)(f' g':List Lay)(g0:Nat->Value):exec (mkE prog (QAw pb1 pb2 d E l ⟨p,t⟩ v (J3 d E ac body u2 l2 many f g many' f' g'))) (hnd (mkE prog (QAw pb1 pb2 d E l ⟨p,t⟩ v (J3 d E ac body u2 l2 many f g many' f' g'))) 0) (QS (QJ f103 0)) (JSt.inst (G3 d E ac body u l many f g p tn t) g0) (Q9 Z2 QIj) = .br (decide ((t:Int)<tn)) (.need (true) (.br (!Qq (Rw.mk 0 λi=>Pt.mk (0:Int) (Lay.mk (0:Int) (0:Int))) (l.length:Int) (Lay.mk (p:Int) (t:Int))) (.leaf (.tup (vo d p t tn)) ((Wn E ac body d f g l many u))) (.need (pb1 ((QKh E d l p t))) (.br (!v) (.leaf (.tup (vo d p t tn)) ((Wn E ac body d f g l many u))) (.need (decide ((0:Int)<=(p:Int)/\(p:Int)<(d.ps.n:Int))&&decide (d.ps.n<=d.ps.n)) (.need (decide (p<d.ps.n)) (.need (decide (l.length<=l.length)&&(true&&decide ((l.length+1+(l.length+1) / 4+192)*16<=281474976710656/\l.length+1<=9223372036854775807))) (.need (pb2 ((QLc E ac body d f g l l2 many p t u u2))) (.need (decide ((0:Int)<=i64.wrap ((l2.length:Int)-1)/\(i64.wrap ((l2.length:Int)-1)).toNat<=l2.length-0)) (.need (decide ((0:Int)<=(p:Int)/\(p:Int)<(d.ps.n:Int))&&decide (d.ps.n<=d.ps.n)) (.need (decide (p<d.ps.n)) (.br (false) (.leaf (.tup (wcu)) ([(Gg d l2),(201,.mp E.1 E.2),(vT d),(QCE ac body d),(vV many'),(vO f'),(zo g'), (vG d),(zt l2),(G6 d p u2),(jk d),qa,(296,.cellsR 0 96 [.nils]),(vy f'),(zm g')])) (.leaf (.tup (vo d p t tn)) (((Gg d l2)::(201,.mp E.1 E.2)::(vT d)::(QCE ac body d)::(vV many')::(vO f')::(zo g')::qa::List.append (wbc) ([QDP,(vG d),(zt l2),(G6 d p u2),(jk d),(vy f'),(zm g')])))))))))))))))) (.leaf (.tup (QPs d p)) ((Wn E ac body d f g l many u))):=by kernel_rfl
noncomputable abbrev QNY(tn:Int):List AV:=
  (List.append (wa3) ((List.append (wcp d p) ([vi tn,.int
  false .i64 (i64.wrap ((t:Int)+1))]))))
abbrev wax(g:List Lay):List Prop:=[g.length<=g.length,QB 2 g.length (λi=>QA.enc (g.getD i (Lay.mk (0:Int) (0:Int)))) λi=>QA.enc (g.getD i (Lay.mk (0:Int) (0:Int)))]
abbrev wcQ(d:Puz)(p:Nat):List Prop:=[(d.ps.n:Int)=(d.ps.n:Int),(p:Int)=(p:Int)]
abbrev waV(d:Puz)(p:Nat):List Prop:=(wcQ d p++[(p:Int)=(p:Int)])
abbrev wcf(f:List Lay):List Prop:=[f.length<=f.length,QB 2 f.length (λi=>
  QA.enc (f.getD i (Lay.mk (0:Int) (0:Int)))) λi=>QA.enc (f.getD i (Lay.mk (0:Int) (0:Int)))]
abbrev wcS:List Prop:=[Fn.func
  (102:FuncId)=Fn.func (102:FuncId),0=0,0=0,0=0,0=0]
abbrev QeF(d:Puz)(f:List Lay)(g:List Lay)(l:List Lay)(many:Int)(p:Nat)(t:Nat)(t':Nat)(tn:Int)(u:Nat->Nat->Int):List Prop:=
  (((wb2++[0=0])++waV d p++[tn=tn,i64.wrap ((t :
  Int)+1)=(t':Int)])++wab d++([cO=cO,0=0,l.length=l.length,cO=cO,E.1=E.1,E.2=E.2]++wag l++((wcN d++[QB 1 d.ps.n u u])++waj++[Array.mk [18]=Array.mk [(18:Tmp)],ac=ac,body=body]))++wab d++([cO=cO]++wc0)++wab d++((([cO=cO]++wcG++(wcS++[many=many,0=0,f.length=f.length,cO=cO]))++wcf f++[0=0,g.length=g.length,cO=cO])++wax g++([Fn.func 103=Fn.func (103:FuncId)]++wb2++[0=0,0=0,0=0]))++wab d++([cO=cO]++wae d))
theorem QO3(l:List Lay)(many:Int)(f g:List Lay)(p:Nat)(tn:Int)(t t':Nat):QG 464 (QNY d p t tn) ((Wn E ac body d f g l many u)) (G3 d E ac body u l many f g p tn t')=(some (QeF E ac body d f g l many p t t' tn u)):=by kernel_rfl
abbrev ZR:List Prop:=
  [0=0,0=0,0=0,0=0,0=0,0=0]
abbrev Gz:List Prop:=
  [0=0,0=0,0=0,0=0]
abbrev Yi:List Prop:=
  ([d.pK.aK=d.pK.aK]++waP d++[0 =
  0,d.ps.n=d.ps.n,cO=cO])
abbrev wa8(E:ECt)(l:List Lay)(l2:List Lay):List Prop:=[E.1=E.1,E.2=E.2,l.length<=l2.length,QB 2 l.length (λi=>QA.enc (l2.getD i
  (Lay.mk (0:Int) (0:Int)))) λi=>QA.enc (l.getD i (Lay.mk (0:Int) (0:Int)))]
abbrev QRy(d:Puz)(l:List Lay)(l2:List Lay)(p:Nat)(u2:Nat->Nat->Int)(u3:Nat->Nat->Int):List Prop:=
  ([0=0,(i64.wrap ((l2.length:Int)-1)).toNat=l.length,cO=cO]++wa8 E l l2++(wcN d++[QB 1 d.ps.n (λi=>bif
  decide (i=p)then KZ [.bool true false] 0 (u2 ((p:Int).toNat+0))else u2 i) u3]))
abbrev wcZ(g':List Lay):List Prop:=[g'.length=g'.length,cO=cO,g'.length<=g'.length,QB 2 g'.length (λi=>QA.enc (g'.getD i (Lay.mk (0:Int) (0 :
  Int)))) λi=>QA.enc (g'.getD i (Lay.mk (0:Int) (0:Int)))]
abbrev QLK:List Prop:=
  ([(0:Int)=0,0=0,0=0,(0:Int)=0,(0:Int)=0,false=false,0=0,0=0]++wcS++([many'=many',0=0,f'.length=f'.length,cO=cO,f'.length<=f'.length,QB 2 f'.length (λi=>QA.enc (f'.getD i (Lay.mk (0:Int) (0:Int)))) λi=>QA.enc (f'.getD
  i (Lay.mk (0:Int) (0:Int))),0=0]++wcZ g'))
theorem QSl(u u2 u3:Nat->Nat->Int)(l l2:List Lay)(p:Nat)(tn:Int)(t t':Nat)(many':Int)(f' g':List Lay):QG 464 (QNY d p t tn) (((Gg d l2)::(201,.mp E.1 E.2)::(vT d)::(QCE ac body d)::(vV many')::(vO f')::(zo g')::qa::List.append (wbc) ([QDP,(vG d),(zt l2),(G6 d p u2),(jk d),(vy f'),(zm g')]))) (G3 d E ac body u3 l many' f' g' p tn t')=(some (ZR++Gz++(waV d p++[tn=tn,i64.wrap ((t:Int)+1)=(t':Int),d.pK.length=d.pK.length])++(Yi d)++(QRy E d l l2 p u2 u3)++(waj++[Array.mk [18]=Array.mk [(18:Tmp)],ac=ac,body=body,d.pK.length=d.pK.length]) ++ (Yi d)++ZR++[0=0,0=0,(0:Int)=0]++Gz++[(0:Int)=0,d.pK.length=d.pK.length]++(Yi d)++[0=0,0=0]++(QLK f' g' many')++[Fn.func 103=Fn.func (103:FuncId)]++ZR++ZR++[d.pK.length=d.pK.length]++(Yi d)++(wae d))):=by kernel_rfl
abbrev wcj(E:ECt)(l:List Lay):List Prop:=[l.length=l.length,cO=cO,E.1=E.1,E.2=E.2]
theorem QKr(l:List Lay)(many:Int)(f g:List Lay)(p:Nat):QG 464 (List.append (wa3) ([vi (d.ps.n:Int),vi (p:Int)])) ((Wn E ac body d f g l many u)) (QAv d E ac body u l many f g p)=(some (ZR++Gz++(wcQ d p++[d.pK.length=d.pK.length])++(Yi d)++(([0=0]++wcj E l)++wag l++((wcN d++[QB 1 d.ps.n u u])++waj++[Array.mk [18]=Array.mk [(18:Tmp)],ac=ac,body=body,d.pK.length=d.pK.length]))++(Yi d)++ZR++[0=0,0=0,(0:Int)=0]++Gz++[(0:Int)=0, d.pK.length=d.pK.length]++(Yi d)++(wcG++[Fn.func (102:FuncId)=Fn.func (102:FuncId)])++Gz++(([many=many,0=0,f.length=f.length,cO=cO]++wcf f++[0=0,g.length=g.length,cO=cO])++wax g++[Fn.func 103=Fn.func (103:FuncId)])++ZR++ZR ++ [d.pK.length=d.pK.length]++(Yi d)++(wae d))):=by kernel_rfl
theorem Qfk(pb1 pb2:List Prop->Bool)(d:Puz)(E:ECt)(ac body:Code)(u u2:Nat->Nat->Int)(l l2:List Lay)(v:Bool)(many:Int)(f g:List Lay)(p:Nat)(tn:Int)(t:Nat)(many':Int)(f' g':List Lay)(g0:Nat->Value):exec (mkE prog (QAw pb1 pb2 d E l ⟨p,t⟩ v (XU d E ac body u2 l2 many f g many' f' g'))) (hnd (mkE prog (QAw pb1 pb2 d E l ⟨p,t⟩ v (XU d E ac body u2 l2 many f g many' f' g'))) 0) (QS (QJ f103 0)) (JSt.inst (G3 d E ac body u l many f g p tn t) g0) (Q9 Z2 QIj) = .br (decide ((t:Int)<tn)) (.need (true) (.br (!Qq (Rw.mk 0 λi=>Pt.mk (0:Int) (Lay.mk (0:Int) (0:Int))) (l.length:Int) (Lay.mk (p:Int) (t:Int))) (.leaf (.tup (vo d p t tn)) ((Wn E ac body d f g l many u))) (.need (pb1 ((QKh E d l p t))) (.br (!v) (.leaf (.tup (vo d p t tn)) ((Wn E ac body d f g l many u))) (.need (decide ((0:Int)<=(p:Int)/\(p:Int)<(d.ps.n:Int))&&decide (d.ps.n<=d.ps.n)) (.need (decide (p<d.ps.n)) (.need (decide (l.length<=l.length)&&(true&&decide ((l.length+1+(l.length+1) / 4+192)*16<=281474976710656/\l.length+1<=9223372036854775807))) (.need (pb2 ((QLc E ac body d f g l l2 many p t u u2))) (.need (decide ((0:Int)<=i64.wrap ((l2.length:Int)-1)/\(i64.wrap ((l2.length:Int)-1)).toNat<=l2.length-0)) (.need (decide ((0:Int)<=(p:Int)/\(p:Int)<(d.ps.n:Int))&&decide (d.ps.n<=d.ps.n)) (.need (decide (p<d.ps.n)) (.br (true) (.leaf (.tup (wcu)) ([(Gg d l2),(201,.mp E.1 E.2),(vT d),(329,.lp LoopState.done (some (Code.exit 0)) (Xl d) (Array.mk [18]) ac body),(vV many'),(vO f'),(zo g'),(vG d),(zt l2),(G6 d p u2),(jk d),qa,(296,.cellsR 0 96 [.nils]),(vy f'),(zm g')])) (.leaf (.tup (vo d p t tn)) (((Gg d l2)::(201,.mp E.1 E.2)::(vT d)::(329,.lp LoopState.done (some (Code.exit 0)) (Xl d) (Array.mk [18]) ac body)::(vV many')::(vO f')::(zo g')::qa::List.append (wbc) ([QDP,(vG d),(zt l2),(G6 d p u2),(jk d),(vy f'),(zm g')])))))))))))))))) (.leaf (.tup (QPs d p)) ((Wn E ac body d f g l many u))):=by kernel_rfl
abbrev wba:List Prop:=[LoopState.done=LoopState.done,some (Code.exit 0)=some (Code.exit 0)]
theorem QVe(u2 u3:Nat->Nat->Int)(l l2:List Lay)(p:Nat)(many':Int)(f' g':List Lay):QG 464 [.bool true false] ([(Gg d l2),(201,.mp E.1 E.2),(vT d),(329,.lp LoopState.done (some (Code.exit 0)) (Xl d) (Array.mk [18]) ac body),(vV many'),(vO f'), (zo g'),(vG d),(zt l2),(G6 d p u2),(jk d),qa,(296,.cellsR 0 96 [.nils]),(vy f'),(zm g')]) (soF d E ac body u3 l many' f' g')=(some ([false=false, d.pK.length=d.pK.length]++(Yi d)++(QRy E d l l2 p u2 u3)++(wba++[Array.mk [18]=Array.mk [(18:Tmp)],ac=ac,body=body,d.pK.length=d.pK.length])++(Yi d)++ZR++[0=0,0=0,(0:Int)=0]++Gz++[(0:Int)=0,d.pK.length=d.pK.length] ++ (Yi d)++[0=0,0=0]++(QLK f' g' many'))):=by kernel_rfl
def clU:UC:=⟨0,⟨1,[(0,.slz 5 0 l.length (.of 0))],[QBA 5 l],8⟩,λm=>.slz m 0 l.length (.of 0),λm=>[rwY m l]⟩
theorem QZc:VF (mkE prog QT) (hnd (mkE prog QT) 1) f68 (clU l)=QC.need (decide ((0:Nat)<l.length/\l.length<=l.length)) (QC.need (true&&(decide (l.length<=l.length)&&decide (((0:Nat)+l.length+((0:Nat)+l.length) / (4:Nat)+(192:Nat))*(16:Nat)<=(281474976710656:Nat)/\(0:Nat)+l.length<=(9223372036854775807:Nat)))) (QC.leaf (AV.slz (48:Nat) (0:Nat) ((0:Nat)+l.length) cO) ([((48:Nat),Blk.rowz true (49:Nat) [CK.int i64,CK.int i64] ((0:Nat)+l.length) (KN (0:Nat) (λx x_1=>(0:Int)) λi=>QA.enc (l.getD i (Lay.mk (0:Int) (0:Int)))))]))):=by kernel_rfl
theorem QZi(l l':List Lay):QG 8 [(AV.slz (48:Nat) (0:Nat) ((0:Nat)+l.length) cO)] ([((48:Nat),Blk.rowz true (49:Nat) [CK.int i64,CK.int i64] ((0:Nat)+l.length) (KN (0:Nat) (λx x_1=>(0:Int)) λi=>QA.enc (l.getD i (Lay.mk (0:Int) (0:Int)))))]) (KP (clU l'))=( some [0=0,(0:Nat)+l.length=l'.length,cO=cO,l'.length<=(0:Nat)+l.length,QB (2:Nat) l'.length (KN (0:Nat) (λx x_1=>(0:Int)) λi=>QA.enc (l.getD i (Lay.mk (0:Int) (0:Int)))) λi=>QA.enc (l'.getD i (Lay.mk (0:Int) (0:Int)))]):=by kernel_rfl
theorem QSr(m n:Nat)(f g:Nat->Nat->Int):QB m n (KN 0 f g) g:=by
 intro i hi;have:KN 0 f g i=g i:=by funext j;rw[X3,if_neg (Nat.not_lt_zero i),Nat.sub_zero]
 rw[this];exact QDJ _ _ _
theorem QUY:(clU l).Ok:=by
 refine⟨(by decide:0<=8),rfl,rfl,?_,rfl,λnid h=>?_,λnid h=>?_⟩
 .intro q hq;simp only[UC.po,clU,rwY,List.mem_cons,List.not_mem_nil,or_false]at hq;subst hq;exact⟨rfl,rfl,rfl,λh=>absurd (show 8<0 from h) (by decide)⟩
 .have e0:=KW 0 8 0 nid (by decide)
  simp only[UC.va,clU,AV.mapId,Nat.add_zero]at e0 ⊢;rw[e0]
 .have e0:=KW 0 8 0 nid (by decide)
  simp only[UC.po,clU,rwY,List.map_cons,List.map_nil,Blk.mapId,Nat.add_zero]at e0 ⊢;rw[e0]
theorem QR4(hp:0<l.length)(hl:l.length<=1000):QR prog 68 (uFC (clU l)):=by
 refine Ks (c:=Qp f68) (E:=mkE prog QT) (QQ Qd) func68 (by kernel_rfl) (by kernel_rfl) (QUY l) (λG h1 _=>Q1 (QQ Qd) 1 G _ h1) ⟨?_⟩
 refine Qf (QZc l) ?_;refine QH (by simp;omega) (QH (by simp;omega) ⟨rfl,rfl,_,QZi l l,?_⟩)
 repeat' first|with_reducible refine QP ?_ ?_|exact tv|exact Nat.zero_add _|exact QSr _ _ _ _|omega|refine aI ?_ ?_
