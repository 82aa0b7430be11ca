/- - -/
import Derived.Test.YtekbmehgcofnkaaGreatMzc
open Go.Proofs.Tryz
open Go.IntKind (i64)
set_option maxRecDepth 100000
namespace Go.SX
open Go Go.RowKit Go.Proofs.YtekbmehgcofnkaaGreat Told
theorem QCL(k:List Int):∀(es:List MapEntry) (i:Nat),(Kv k es i).map (·.2)=(Kv k es 0).map (·.2)
 | [],_=>rfl
 | e::es,i=>by
  simp only[Kv];cases Ke e==k with
  | true=>rfl
  | false=>exact(QCL k es (i+1)).trans (QCL k es 1).symm
theorem Yk(k:List Int)(e:MapEntry)(es:List MapEntry):KP (e::es) k=cond (Ke e==k) (intV e.val) (KP es k):=by
 unfold KP;simp only[Kv];cases Ke e==k with
 | true=>rfl
 | false=>
  have h:=QCL k es 1;simp only[cond_false];cases h1:Kv k es (0+1)with
  | none=>rw[Nat.zero_add]at h1;rw[h1]at h;cases h0:Kv k es 0 with
   | none=>rfl
   | some q=>rw[h0]at h;cases h
  | some q=>rw[Nat.zero_add]at h1;rw[h1]at h;cases h0:Kv k es 0 with
   | none=>rw[h0]at h;cases h
   | some q'=>
    rw[h0]at h;simp only[Option.map_some,qsI]at h;obtain⟨a,b⟩:=q;obtain⟨a',b'⟩:=q';simp only at h;subst h;rfl
theorem QTi(k:List Int)(e:MapEntry):∀ es:List MapEntry,Kv k es 0=none->KP (es++[e]) k=cond (Ke e==k) (intV e.val) 0
 | [],_=>by rw[List.nil_append,Yk];rfl
 | x::es,h=>by
  have hx:=QGp h x qmc;rw[List.cons_append,Yk,beq_false_of_ne hx,cond_false];refine QTi k e es ?_;have:=QCL k es 1;simp only[Kv,beq_false_of_ne hx]at h;rw[show Kv k es 1=none from h]at this;cases h0:Kv k es 0 with
  | none=>rfl
  | some q=>rw[h0]at this;cases this
theorem QLV(k:List Int)(e:MapEntry)(hk:Ke e≠k):∀ es:List MapEntry,KP (es++[e]) k=KP es k
 | []=>by rw[List.nil_append,Yk,beq_false_of_ne hk];rfl
 | x::es=>by rw[List.cons_append,Yk,Yk,QLV k e hk es]
theorem QP3{k:List Int}{kv v:Value}(hk:∀ e:MapEntry,e.key=kv->Ke e=k)(k':List Int):∀{es:List MapEntry} {i j:Nat} {u:Value},Kv k es i=some (j,u)->KP (VO kv v es (j-i)) k'=cond (k==k') (intV v) (KP es k')
 | [],_,_,_,h=>by cases h
 | e::es,i,j,u,h=>by
  simp only[Kv]at h;cases hx:Ke e==k with
  | true=>
   rw[hx]at h;simp only[qsI,qpI]at h;obtain⟨rfl,rfl⟩:=h;rw[Nat.sub_self];simp only[VO];rw[Yk,hk _ rfl,Yk,beq_iff_eq.1 hx];cases k==k'<;>rfl
  | false=>
   rw[hx]at h;have h1:=(QBn h).1;have ih:=QP3 hk k' h (v:=v);rw[show j-i=(j-(i+1))+1 by omega]
   simp only[VO];rw[Yk,ih,Yk];cases he:Ke e==k' with
   | false=>rfl
   | true=>
    have:(k==k')=false:=by
     rw[beq_iff_eq.1 he]at hx;rw[beq_eq_false_iff_ne]at hx ⊢;exact λq=>hx q.symm
    rw[this];rfl
theorem QUL{k:List Int}{kv v:Value}(hk:∀ e:MapEntry,e.key=kv->Ke e=k)(cl:Nat)(es:List MapEntry)(k':List Int):KP (JH k kv v cl es) k'=cond (k==k') (intV v) (KP es k'):=by
 unfold JH;cases hf:Kv k es 0 with
 | some q=>
  obtain⟨i,u⟩:=q;have:=QP3 hk k' hf (v:=v);rw[Nat.sub_zero]at this;exact this
 | none=>
  have hkk:=hk { key:=kv,val:=v,born:=cl } rfl;show KP (es++[_]) k'=_;cases hq:k==k' with
  | true=>
   have:k=k':=beq_iff_eq.1 hq;subst this;rw[QTi k _ es hf,hkk,hq];rfl
  | false=>rw[QLV k' _ (by rw[hkk];exact beq_eq_false_iff_ne.1 hq) es];rfl
theorem QHI:∀{es:List MapEntry} {e:MapEntry},(es.map Ke).Nodup->e∈es->KP es (Ke e)=intV e.val
 | [],_,_,h=>by cases h
 | x::es,e,hn,h=>by
  rw[List.map_cons,List.nodup_cons]at hn;rw[Yk];rcases List.mem_cons.1 h with rfl|h
  .simp
  .have:(Ke x==Ke e)=false:=by
    rw[beq_eq_false_iff_ne];intro q;exact hn.1 (q ▸ List.mem_map_of_mem h)
   rw[this];exact QHI hn.2 h
theorem QRU:∀{es:List MapEntry} {k:List Int},KP es k≠0->∃ e∈es,Ke e=k
 | [],k,h=>absurd rfl h
 | x::es,k,h=>by
  rw[Yk]at h;cases hx:Ke x==k with
  | true=>exact⟨x,qmc,beq_iff_eq.1 hx⟩
  | false=>
   rw[hx]at h;obtain⟨e,he,hk⟩:=QRU h;exact⟨e,List.mem_cons_of_mem _ he,hk⟩
end Go.SX
namespace Go.Proofs.YtekbmehgcofnkaaGreat
open Go.SX Go.SX.Told
variable {i:Nat}(d:Puz)
theorem QXc{d:Puz}{p q:QX}{k s t:Nat}{E:ECt}(K:List Int):KP (stE d p q i k s t E).1 K=cond ((((i:Int) != (k:Int))&&(meF d p q s t != 0))&&([(i:Int),(s:Int),(k:Int),(t:Int)]==K)) (meF d p q s t) (KP E.1 K):=by
 unfold stE;cases ((i:Int) != (k:Int))&&(meF d p q s t != 0)with
 | false=>rfl
 | true=>
  rw[Bool.true_and];exact QUL (λe he=>GK he) _ _ K
theorem QLo{d:Puz}{p q:QX}{i k s:Nat}{E:ECt}(a b c e:Int):∀ t:Nat,KP (m4 d p q i k s E t).1 [a,b,c,e]=if (a=i/\b=s/\c=k/\0<=e/\e<t/\a≠c)/\meF d p q s e.toNat≠0 then meF d p q s e.toNat else KP E.1 [a,b,c,e]
 | 0=>by rw[if_neg (by omega)];rfl
 | t+1=>by
  show KP (stE d p q i k s t (m4 d p q i k s E t)).1 _=_;rw[QXc,QLo a b c e t]
  by_cases h:(i:Int)≠k/\meF d p q s t≠0/\a=i/\b=s/\c=k/\e=t
  .obtain⟨h1,h2,rfl,rfl,rfl,rfl⟩:=h;have:((((i:Int) != (k:Int))&&(meF d p q s t != 0))&&([(i:Int),(s:Int),(k:Int),(t:Int)]==[(i:Int),(s:Int),(k:Int),(t:Int)]))=true:=by simp[h2];omega
   rw[this,cond_true,if_pos ⟨by omega,by simpa using h2⟩]
   simp
  .have:((((i:Int) != (k:Int))&&(meF d p q s t != 0))&&([(i:Int),(s:Int),(k:Int),(t:Int)]==[a,b,c,e]))=false:=by
    rw[Bool.eq_false_iff];intro q;simp only[qbA,bne_iff_ne,ne_eq,beq_iff_eq,List.cons.injEq,and_true]at q;exact h ⟨q.1.1,q.1.2,q.2.1.symm,q.2.2.1.symm,q.2.2.2.1.symm,q.2.2.2.2.symm⟩
   rw[this,cond_false]
   by_cases h2:(a=i/\b=s/\c=k/\0<=e/\e<t/\a≠c)/\meF d p q s e.toNat≠0
   .rw[if_pos h2,if_pos ⟨by omega,h2.2⟩]
   .rw[if_neg h2,if_neg];rintro⟨⟨h3,h4,h5,h6,h7,h8⟩,h9⟩
    by_cases he:e=t
    .subst he;exact h ⟨by omega,by simpa using h9,h3,h4,h5,rfl⟩
    .exact h2 ⟨⟨h3,h4,h5,h6,by omega,h8⟩,h9⟩
theorem QSC{d:Puz}{p q:QX}{i k:Nat}{E:ECt}(a b c e:Int):∀ s:Nat,KP (m3 d p q i k E s).1 [a,b,c,e]=if (a=i/\0<=b/\b<s/\c=k/\0<=e/\e<4/\a≠c)/\meF d p q b.toNat e.toNat≠0 then meF d p q b.toNat e.toNat else KP E.1 [a,b,c,e]
 | 0=>by rw[if_neg (by omega)];rfl
 | s+1=>by
  show KP (m4 d p q i k s (m3 d p q i k E s) 4).1 _=_;rw[QLo,QSC a b c e s]
  by_cases hb:b=s
  .subst hb;rw[Int.toNat_natCast]
   by_cases h:(a=i/\(s:Int)=s/\c=k/\0<=e/\e<(4:Nat)/\a≠c)/\meF d p q s e.toNat≠0
   .rw[if_pos h,if_pos ⟨by omega,h.2⟩]
   .rw[if_neg h,if_neg (by omega),if_neg]
    rintro⟨h1,h2⟩;exact h ⟨by omega,h2⟩
  .rw[if_neg (λh=>hb h.1.2.1)]
   by_cases h:(a=i/\0<=b/\b<s/\c=k/\0<=e/\e<4/\a≠c)/\meF d p q b.toNat e.toNat≠0
   .rw[if_pos h,if_pos ⟨by omega,h.2⟩]
   .rw[if_neg h,if_neg];rintro⟨h1,h2⟩;exact h ⟨by omega,h2⟩
theorem QL2{d:Puz}{p:QX}{i:Nat}{E:ECt}(a b c e:Int):∀ k:Nat,KP (m2 d p i E k).1 [a,b,c,e]=if (a=i/\0<=b/\b<4/\0<=c/\c<k/\0<=e/\e<4/\a≠c)/\meF d p (d.ps.get c.toNat) b.toNat e.toNat≠0 then meF d p (d.ps.get c.toNat) b.toNat e.toNat else KP E.1 [a,b,c,e]
 | 0=>by rw[if_neg (by omega)];rfl
 | k+1=>by
  show KP (m3 d p (d.ps.get k) i k (m2 d p i E k) 4).1 _=_;rw[QSC,QL2 a b c e k]
  by_cases hc:c=k
  .subst hc;rw[Int.toNat_natCast]
   by_cases h:(a=i/\0<=b/\b<(4:Nat)/\(k:Int)=k/\0<=e/\e<4/\a≠k)/\meF d p (d.ps.get k) b.toNat e.toNat≠0
   .rw[if_pos h,if_pos ⟨by omega,h.2⟩]
   .rw[if_neg h,if_neg (by omega),if_neg]
    rintro⟨h1,h2⟩;exact h ⟨by omega,h2⟩
  .rw[if_neg (λh=>hc h.1.2.2.2.1)]
   by_cases h:(a=i/\0<=b/\b<4/\0<=c/\c<k/\0<=e/\e<4/\a≠c)/\meF d p (d.ps.get c.toNat) b.toNat e.toNat≠0
   .rw[if_pos h,if_pos ⟨by omega,h.2⟩]
   .rw[if_neg h,if_neg];rintro⟨h1,h2⟩;exact h ⟨by omega,h2⟩
theorem QND(d:Puz)(a b c e:Int):∀ i:Nat,KP (m1 d i).1 [a,b,c,e]=if (0<=a/\a<i/\0<=b/\b<4/\0<=c/\c<d.ps.n/\0<=e/\e<4/\a≠c)/\meF d (d.ps.get a.toNat) (d.ps.get c.toNat) b.toNat e.toNat≠0 then meF d (d.ps.get a.toNat) (d.ps.get c.toNat) b.toNat e.toNat else 0
 | 0=>by rw[if_neg (by omega)];rfl
 | i+1=>by
  show KP (m2 d (d.ps.get i) i (m1 d i) d.ps.n).1 _=_;rw[QL2,QND d a b c e i]
  by_cases ha:a=i
  .subst ha;rw[Int.toNat_natCast]
   by_cases h:((i:Int)=i/\0<=b/\b<4/\0<=c/\c<d.ps.n/\0<=e/\e<4/\(i:Int)≠c)/\meF d (d.ps.get i) (d.ps.get c.toNat) b.toNat e.toNat≠0
   .rw[if_pos h,if_pos ⟨by omega,h.2⟩]
   .rw[if_neg h,if_neg (by omega),if_neg]
    rintro⟨h1,h2⟩;exact h ⟨by omega,h2⟩
  .rw[if_neg (λh=>ha h.1.1)]
   by_cases h:(0<=a/\a<i/\0<=b/\b<4/\0<=c/\c<d.ps.n/\0<=e/\e<4/\a≠c)/\meF d (d.ps.get a.toNat) (d.ps.get c.toNat) b.toNat e.toNat≠0
   .rw[if_pos h,if_pos ⟨by omega,h.2⟩]
   .rw[if_neg h,if_neg];rintro⟨h1,h2⟩;exact h ⟨by omega,h2⟩
theorem QBD(a b c e:Int):KP (QK d).1 [a,b,c,e]=if 0<=a/\a<d.ps.n/\0<=b/\b<4/\0<=c/\c<d.ps.n/\0<=e/\e<4/\a≠c then meF d (d.ps.get a.toNat) (d.ps.get c.toNat) b.toNat e.toNat else 0:=by
 rw[QK,QND]
 by_cases h:0<=a/\a<d.ps.n/\0<=b/\b<4/\0<=c/\c<d.ps.n/\0<=e/\e<4/\a≠c
 .rw[if_pos h]
  by_cases h2:meF d (d.ps.get a.toNat) (d.ps.get c.toNat) b.toNat e.toNat≠0
  .rw[if_pos ⟨h,h2⟩]
  .rw[if_neg (λq=>h2 q.2)];exact(Classical.not_not.1 h2).symm
 .rw[if_neg h,if_neg (λq=>h q.1)]
open Go.SX Go.SX.Told Go.Sort
theorem QCJ{E:ECt}(h:WfE E){e:MapEntry}(he:e∈E.1):Ke e=[QR e 0,QR e 1,QR e 2,QR e 3]:=by
 have:=List.all_eq_true.1 (show wf4 .i64 E.1=true from h) e he;rw[qbA]at this;obtain⟨a,b,c,d,hk⟩:=QEw this.1;have hl:=GK hk;unfold QR;rw[hl];rfl
variable {m:Int}{x:Jn}{i:Nat}(d:Puz)(E:ECt)(ac body:Code)(l l2:List Lay)(u:Nat->Nat->Int)(p:Nat)(u2:Nat->Nat->Int)(f' g':List Lay)(many':Int)(t:Nat)
theorem QDs{e:MapEntry}:x∈VY m e↔(m<=intV e.val/\QR e 0<QR e 2)/\x=jP e:=by
 unfold VY
 by_cases h:m<=intV e.val/\QR e 0<QR e 2
 .rw[qde h.1,qde h.2];simp[h]
 .have:(decide (m<=intV e.val)&&decide (QR e 0<QR e 2))=false:=by
   rw[Bool.eq_false_iff];intro q;simp only[qbA,qdE]at q;exact h q
  rw[this];simp[h]
theorem QZX{E:ECt}{c:Nat}(h:OkE E c)(hm:1<=m)(x:Jn):x∈Km E m↔m<=KP E.1 [x.a,x.i,x.b,x.j]/\x.a<x.b:=by
 unfold Km;rw[List.mem_flatMap];constructor
 .rintro⟨e,he,hx⟩;obtain⟨⟨h1,h2⟩,rfl⟩:=QDs.1 hx;have hk:=QCJ h.w he;have hl:=QHI h.m.keys he;rw[hk]at hl;exact⟨by show m<=KP E.1 [QR e 0,QR e 1,QR e 2,QR e 3];rw[hl];exact h1,h2⟩
 .rintro⟨h1,h2⟩;obtain⟨e,he,hk⟩:=QRU (es:=E.1) (k:=[x.a,x.i,x.b,x.j]) (by omega)
  have hk4:=QCJ h.w he;have hl:=QHI h.m.keys he;rw[hk]at hl;rw[hk]at hk4;simp only[List.cons.injEq,and_true]at hk4;obtain⟨e1,e2,e3,e4⟩:=hk4;refine⟨e,he,QDs.2 ⟨⟨by rw[<-hl];exact h1,by rw[<-e1,<-e3];exact h2⟩,?_⟩⟩
  obtain⟨a,i,b,j⟩:=x;simp only at e1 e2 e3 e4;unfold jP;rw[<-e1,<-e2,<-e3,<-e4]
theorem Qfk{E:ECt}{c:Nat}(h:OkE E c)(m:Int):(Km E m).Nodup:=by
 unfold Km List.Nodup;rw[List.pairwise_flatMap];constructor
 .intro e _;unfold VY;cases decide (m<=intV e.val)&&decide (QR e 0<QR e 2)
  .exact List.Pairwise.nil
  .exact List.pairwise_singleton _ _
 .have hp:E.1.Pairwise λa b=>Ke a≠Ke b:=List.pairwise_map.1 h.m.keys;refine hp.imp_of_mem ?_;intro a b ha hb hab x hx y hy;obtain⟨_,rfl⟩:=QDs.1 hx;obtain⟨_,rfl⟩:=QDs.1 hy;intro q;apply hab;rw[QCJ h.w ha,QCJ h.w hb];simp only[jP,Jn.mk.injEq]at q;rw[q.1,q.2.1,q.2.2.1,q.2.2.2]
def isJ(m:Int)(p i q j:Nat):Bool:=decide (p<q)&&decide (m<=meF d (d.ps.get p) (d.ps.get q) i j)
def QCU(m:Int)(p i q:Nat):List Jn:=(List.range 4).flatMap λj=>cond (isJ d m p i q j) [⟨p,i,q,j⟩] []
def QD5(m:Int)(p i:Nat):List Jn:=(List.range d.ps.n).flatMap (QCU d m p i)
def QEA(m:Int)(p:Nat):List Jn:=(List.range 4).flatMap (QD5 d m p)
def Ks(m:Int):List Jn:=(List.range d.ps.n).flatMap (QEA d m)
theorem QEo{d:Puz}{p q:Nat}:x∈QCU d m p i q↔∃ j,j<4/\isJ d m p i q j=true/\x=⟨p,i,q,j⟩:=by
 unfold QCU;rw[List.mem_flatMap];constructor
 .rintro⟨j,hj,hx⟩;cases hb:isJ d m p i q j with
  | false=>rw[hb]at hx;cases hx
  | true=>
   rw[hb]at hx;exact⟨j,List.mem_range.1 hj,hb,by simpa using hx⟩
 .rintro⟨j,hj,hb,rfl⟩;exact⟨j,List.mem_range.2 hj,by rw[hb];exact List.mem_singleton.2 rfl⟩
theorem QCk{d:Puz}{p:Nat}:x∈QD5 d m p i↔∃ q j,q<d.ps.n/\j<4/\isJ d m p i q j=true/\x=⟨p,i,q,j⟩:=by
 unfold QD5;rw[List.mem_flatMap];constructor
 .rintro⟨q,hq,hx⟩;obtain⟨j,hj,hb,rfl⟩:=QEo.1 hx;exact⟨q,j,List.mem_range.1 hq,hj,hb,rfl⟩
 .rintro⟨q,j,hq,hj,hb,rfl⟩;exact⟨q,List.mem_range.2 hq,QEo.2 ⟨j,hj,hb,rfl⟩⟩
theorem QCd{d:Puz}{p:Nat}:x∈QEA d m p↔∃ i q j,i<4/\q<d.ps.n/\j<4/\isJ d m p i q j=true/\x=⟨p,i,q,j⟩:=by
 unfold QEA;rw[List.mem_flatMap];constructor
 .rintro⟨i,hi,hx⟩;obtain⟨q,j,hq,hj,hb,rfl⟩:=QCk.1 hx;exact⟨i,q,j,List.mem_range.1 hi,hq,hj,hb,rfl⟩
 .rintro⟨i,q,j,hi,hq,hj,hb,rfl⟩;exact⟨i,List.mem_range.2 hi,QCk.2 ⟨q,j,hq,hj,hb,rfl⟩⟩
theorem QM4{d:Puz}:x∈Ks d m↔∃ p i q j,p<d.ps.n/\i<4/\q<d.ps.n/\j<4/\isJ d m p i q j=true/\x=⟨p,i,q,j⟩:=by
 unfold Ks;rw[List.mem_flatMap];constructor
 .rintro⟨p,hp,hx⟩;obtain⟨i,q,j,hi,hq,hj,hb,rfl⟩:=QCd.1 hx;exact⟨p,i,q,j,List.mem_range.1 hp,hi,hq,hj,hb,rfl⟩
 .rintro⟨p,i,q,j,hp,hi,hq,hj,hb,rfl⟩;exact⟨p,List.mem_range.2 hp,QCd.2 ⟨i,q,j,hi,hq,hj,hb,rfl⟩⟩
theorem QIn(m:Int):(Ks d m).Pairwise λx y=>Vp x y<0:=by
 unfold Ks;rw[List.pairwise_flatMap];refine⟨λp _=>?_,List.pairwise_lt_range.imp λ{p p'} hp x hx y hy=>?_⟩
 .unfold QEA;rw[List.pairwise_flatMap];refine⟨λi _=>?_,List.pairwise_lt_range.imp λ{i i'} hi x hx y hy=>?_⟩
  .unfold QD5;rw[List.pairwise_flatMap];refine⟨λq _=>?_,List.pairwise_lt_range.imp λ{q q'} hq x hx y hy=>?_⟩
   .unfold QCU;rw[List.pairwise_flatMap];refine⟨λj _=>?_,List.pairwise_lt_range.imp λ{j j'} hj x hx y hy=>?_⟩
    .cases isJ d m p i q j
     .exact List.Pairwise.nil
     .exact List.pairwise_singleton _ _
    .cases hb:isJ d m p i q j with
     | false=>rw[hb]at hx;cases hx
     | true=>
      cases hb':isJ d m p i q j' with
      | false=>rw[hb']at hy;cases hy
      | true=>
       rw[hb]at hx;rw[hb']at hy;have hx:x=⟨p,i,q,j⟩:=by simpa using hx
       have hy:y=⟨p,i,q,j'⟩:=by simpa using hy
       subst hx hy;have hj:j<j':=hj;rw[ZN];exact .inr ⟨rfl,.inr ⟨rfl,.inr ⟨rfl,by show(j:Int)<j';omega⟩⟩⟩
   .obtain⟨j,_,_,rfl⟩:=QEo.1 hx;obtain⟨j',_,_,rfl⟩:=QEo.1 hy;have hq:q<q':=hq;rw[ZN];exact .inr ⟨rfl,.inr ⟨rfl,.inl (by show(q:Int)<q';omega)⟩⟩
  .obtain⟨q,j,_,_,_,rfl⟩:=QCk.1 hx;obtain⟨q',j',_,_,_,rfl⟩:=QCk.1 hy;have hi:i<i':=hi;rw[ZN];exact .inr ⟨rfl,.inl (by show(i:Int)<i';omega)⟩
 .obtain⟨i,q,j,_,_,_,_,rfl⟩:=QCd.1 hx;obtain⟨i',q',j',_,_,_,_,rfl⟩:=QCd.1 hy;have hp:p<p':=hp;rw[ZN];simp only;omega
theorem QMF(x:Jn):¬ Vp x x<0:=by rw[ZN];omega
theorem QD2(hn:d.ps.n<=1000)(hm:1<=m):KT (Km (QK d) m)=Ks d m:=by
 have hE:=Zo d hn;have hnd:(Ks d m).Nodup:=(QIn d m).imp λ{x y} h q=>by subst q;exact QMF x h
 have hp:(Km (QK d) m).Perm (Ks d m):=by
  rw[List.perm_ext_iff_of_nodup (Qfk hE m) hnd];intro x;rw[QZX hE hm,QM4,QBD];constructor
  .rintro⟨h1,h2⟩
   by_cases h:0<=x.a/\x.a<d.ps.n/\0<=x.i/\x.i<4/\0<=x.b/\x.b<d.ps.n/\0<=x.j/\x.j<4/\x.a≠x.b
   .rw[if_pos h]at h1;refine⟨x.a.toNat,x.i.toNat,x.b.toNat,x.j.toNat,by omega,by omega,by omega,by omega,?_,?_⟩
    .unfold isJ;rw[qde h1,qde (by omega)];rfl
    .obtain⟨a,i,b,j⟩:=x;simp only[Jn.mk.injEq]at *;omega
   .rw[if_neg h]at h1;omega
  .rintro⟨p,i,q,j,hp,hi,hq,hj,hb,rfl⟩;simp only[isJ,qbA,qdE]at hb;refine⟨?_,by show(p:Int)<q;omega⟩
   rw[if_pos (by simp only;omega)]
   exact hb.2
 rw[QT3 hp];unfold KT;refine List.mergeSort_of_pairwise ((QIn d m).imp λ{x y} h=>?_);have:¬ Vp y x<0:=by rw[ZN]at h ⊢;omega
 simp[ltOf,this]
def KK(i:Nat):Bool:=l.any λy=>y.piece==(i:Int)
def QD(i:Nat)(_:Nat):Int:=cond (KK l i) 1 0
def rwY(id:Nat)(l:List Lay):Nat×Blk:=(id,.rowz true 49 kB l.length λi=>QA.enc (l.getD i ⟨0,0⟩))
def rwU(id:Nat)(d:Puz)(u:Nat->Nat->Int):Nat×Blk:=(id,.rowz true 4 [.bool] d.ps.n u)
def YP:List AV:=[.agg (KX d),.ptr 96 0 0,.ptr 104 0 0,.ptr 112 0 0,.ptr 120 0 0,.int true .i64 0,.ptr 200 0 0,.tup [],.tup [.ptr 200 0 0,.int true .i64 0],.agg (KX d),.tup [.ptr 200 0 0,.int true .i64 0],.ptr 200 0 0,.int true .i64 0,.int true .i64 0,.bool true false,.tup [],.ptr 200 0 0,.fn (.func 102) [.ptr 288 0 0,.ptr 296 0 0],.tup [],.tup [],.tup [],.tup [],.tup [],.tup [],.tup [],.tup [],.tup [],.tup [],.tup [],.tup [],.tup [],.tup [],.tup [],.tup [],.tup [],.tup [],.tup []]
def QJ1:List AV:=[.ptr 288 0 0,.ptr 336 0 0,.ptr 400 0 0,.ptr 296 0 0,.ptr 416 0 0]
def QFF:List (Nat×Blk):=
 [(416,.cellsR 0 31 [.fn (.func 103) QJ1]),(336,.cellsR 0 105 [.yld 329]),(296,.cellsR 0 96 [.nils]),(288,.cellsR 0 90 [.ptr 200 0 0]),(96,.cellsR 0 28 (KX d))]++Qm.blk 0 d.ps
def YZ(ls:LoopState)(pe:Option Code)(d:Puz)(E:ECt)(ac body:Code)(u:Nat->Nat->Int)(l:List Lay)(a b c w:Nat)(many:Int)(f g:List Lay):List (Nat×Blk):=
 [(200,.cells 0 152 (KX d++[.map 201,.slz a 0 l.length (.of 0)])),(201,.mp E.1 E.2),rwY a l,(400,.cells 0 114 [.slz w 0 d.ps.n (.of 0)]),rwU w d u,(329,.lp ls pe (YP d) #[18] ac body),(120,.cells 0 3 [vi many]),(104,.cells 0 42 [.slz b 0 f.length (.of 0)]),rwY b f,(112,.cells 0 42 [.slz c 0 g.length (.of 0)]),rwY c g]
def QM6:List (Nat×AV):=[(0,.ptr 288 0 0),(1,.ptr 336 0 0),(2,.ptr 400 0 0),(3,.ptr 296 0 0),(4,.ptr 416 0 0)]
def Gp(l:List Lay)(many:Int)(f g:List Lay):JSt:=⟨5,QM6,YZ .ready none d E ac body u l 432 440 448 456 many f g++QFF d,464⟩
def VB(l:List Lay)(many:Int)(f g:List Lay)(many':Int)(f' g':List Lay):UC:=
 ⟨424,Gp d E ac body u l many f g,λ_=>.bool false true,λm=>YZ .ready none d E ac body u l m (m+1) (m+2) (m+3) many' f' g'⟩
def Xa(l:List Lay)(many:Int)(f g:List Lay)(many':Int)(f' g':List Lay):UC:=
 ⟨424,Gp d E ac body u l many f g,λ_=>.bool false false,λm=>YZ .done (some (.exit 0)) d E ac body u l m (m+1) (m+2) (m+3) many' f' g'⟩
def Zz:List Nat:=[200,201,400,329,120,104,112]
def QFk(n:Nat)(p:Nat):List (Nat×AV):=QM6++[(33,.int false .i64 n),(34,.int false .i64 p)]
def QY4(n:Nat)(p:Nat)(tn:Int)(t:Nat):List (Nat×AV):=QFk n p++[(6,.int false .i64 p),(43,.int false .i64 tn),(44,.int false .i64 t)]
def vq(l:List Lay)(many:Int)(f g:List Lay)(p:Nat):JSt:=⟨101,QFk d.ps.n p,YZ .ready none d E ac body u l 472 480 488 496 many f g++QFF d,504⟩
def G8(l:List Lay)(many:Int)(f g:List Lay)(p:Nat)(tn:Int)(t:Nat):JSt:=⟨101,QY4 d.ps.n p tn t,YZ .ready none d E ac body u l 472 480 488 496 many f g++QFF d,504⟩
def vo(l:List Lay)(many:Int)(f g:List Lay):JSt:=⟨101,[],YZ .ready none d E ac body u l 472 480 488 496 many f g,504⟩
def QBe(l:List Lay)(many:Int)(f g:List Lay)(p:Nat):JSt:=⟨101,QFk d.ps.n p,YZ .ready none d E ac body u l 472 480 488 496 many f g++QFF d,504⟩
def soF(l:List Lay)(many:Int)(f g:List Lay):JSt:=⟨101,[(5,.bool false false)],YZ .done (some (.exit 0)) d E ac body u l 472 480 488 496 many f g,504⟩
def QN8:Ex->List Nat
 | .normal=>[0,1,2,3,4,33,34]
 | .exit _=>[]
 | .ret=>[5]
def QFi:Ex->List Nat
 | .normal=>[0,1,2,3,4,33,34,6,43,44]
 | .exit _=>[0,1,2,3,4,33,34]
 | .ret=>[5]
def QBM(pb1 pb2:List Prop->Bool)(d:Puz)(E:ECt)(l:List Lay)(x:Lay)(v:Bool)(U:UC):Tab:=Qa (Qa QT 105 (KG pb1 (myU d E l x v))) 103 (KG pb2 U)
noncomputable abbrev waJ:List AV:=[.ptr 288 0 0,.ptr 336 0 0,.ptr 400 0 0,.ptr 296 0 0,.ptr 416 0 0]
noncomputable abbrev wbw(d:Puz)(p:Nat)(t:Nat)(tn:Int):List AV:=[vi (d.ps.n:Int),vi (p:Int),vi (p:Int),.int false .i64 tn,vi (i64.wrap ((t:Int)+1))]
noncomputable abbrev zg(tn:Int):List AV:=
  (.nilp::.ptr 101 0 0::List.append (waJ) ((wbw d p t tn)))
noncomputable abbrev QDL(d:Puz):Nat×Blk:=
  (329,.lp LoopState.ready none (YP d) (Array.mk [18]) ac body)
noncomputable abbrev vX:Nat×Blk:=
  (288,.cellsR 0 90 [.ptr 200 0 0])
noncomputable abbrev QDd:Nat×Blk:=
  (416,.cellsR 0 31 [.fn (Fn.func 103) (waJ)])
noncomputable abbrev jR:Nat×Blk:=
  (0,.frz (List.append (waa) ((List.append (waA) ((List.append (waZ) ([.int .i64])))))) d.ps.n λi=>QA.enc (d.ps.get i))
noncomputable abbrev q9:Nat×Blk:=
  (96,.cellsR 0 28 (waf d))
noncomputable abbrev waS:List (Nat×Blk):=[(336,.cellsR 0 105 [.yld 329]),(296,.cellsR 0 96 [.nils])]
noncomputable abbrev qy(d:Puz)(f:List Lay)(g:List Lay)(l:List Lay)(many:Int)(u:Nat->Nat->Int):List (Nat×Blk):=
  ((200,.cells 0 152 (List.append (waf d) ([.map 201,.slz 472 0 l.length cO])))::(201,.mp E.1 E.2)::(400,.cells 0 114 [.slz
  496 0 d.ps.n cO])::(QDL ac body d)::(120,.cells 0 3 [vi many])::(104,.cells 0 42 [.slz 480 0 f.length cO])::(112,.cells 0 42 [.slz 488 0 g.length
  cO])::vX::List.append (waS) ([QDd,(jR d),(472,.rowz true 49 kB l.length λi=>QA.enc (l.getD i
  (Lay.mk (0:Int) (0:Int)))),(496,.rowz true 4 [CK.bool] d.ps.n u),(q9 d),(480,.rowz true 49 kB f.length λi=>QA.enc (f.getD i (Lay.mk (0:Int)
  (0:Int)))),(488,.rowz true 49 kB g.length λi=>QA.enc (g.getD i (Lay.mk (0:Int) (0:Int))))]))
abbrev wag(l:List Lay):List Prop:=[l.length<=l.length,QB 2 l.length (λi=>QA.enc (l.getD i (Lay.mk (0:Int) (0:Int)))) λi=>QA.enc (l.getD i (Lay.mk (0:Int) (0:Int)))]
abbrev QR6(d:Puz)(l:List Lay)(p:Nat)(t:Nat):List Prop:=
  ([0=0,0=0,(p:Int)=(p:Int),(t:Int)=(t:Int)]++wab d++(([cO=cO,0=0,l.length=l.length,cO
  = cO]++wag l++[E.1=E.1,E.2=E.2])++wae d))
abbrev wai:List Prop:=[LoopState.ready=LoopState.ready,(none:Option Code)=none]
abbrev waV(l:List Lay)(l2:List Lay)(p:Nat)(t:Nat):List Prop:=[l2.length<=l.length+1,QB 2 l2.length (Q9 l.length (λi=>QA.enc (l.getD i (Lay.mk (0:Int) (0:Int)))) (KI [[.int
  false .i64 (p:Int),vi (t:Int)]] 0)) λi=>QA.enc (l2.getD i (Lay.mk (0:Int) (0:Int)))]
abbrev wa2(f:List Lay):List Prop:=[f.length<=f.length,QB 2 f.length (λi=>QA.enc (f.getD i (Lay.mk (0:Int) (0:Int)))) λi=>QA.enc (f.getD i (Lay.mk (0:Int) (0:Int)))]
abbrev wbo:List Prop:=[0=0,0=0,0=0,0=0,0=0,0=0,0=0,0=0,0=0]
abbrev wbH(d:Puz):List Prop:=[0=0,d.ps.n=d.ps.n,cO=cO,d.ps.n<=d.ps.n]
abbrev wbO:List Prop:=[0=0,0=0,(0:Int)=0,0=0,0=0,(0:Int)=0,(0:Int)=0,false=false,0=0,0=0]
abbrev wbX:List Prop:=[Fn.func 102=Fn.func 102,0=0,0=0,0=0,0=0]
abbrev wbZ:List Prop:=[0=0,0=0,0=0,0=0,0=0,0=0,0=0,0 =
  0,(0:Int)=0,0=0,0=0,0=0,0=0,(0:Int)=0]
abbrev QQn(d:Puz)(f:List Lay)(g:List Lay)(l:List Lay)(l2:List Lay)(many:Int)(p:Nat)(t:Nat)(u:Nat->Nat->Int)(u2:Nat->Nat->Int):List Prop:=
  ((wbo++[0=0])++wab d++(([cO=cO,0=0,l.length+1=l2.length,cO=cO,E.1=E.1,E.2=E.2]++waV l l2 p t++(wbH d++[QB 1 d.ps.n (λi=>bif decide (i=p)then Kg [.bool true true] 0 (u ((p:Int).toNat+0))else u i) u2]))++wai++[Array.mk [18]=Array.mk [18],ac=ac,body=body])++wab d++([cO=cO]++wbZ)++wab d++(([cO=cO]++wbO++(wbX++[many=many,0=0,f.length=f.length,cO=Cap.of
  0]))++wa2 f++([0=0,g.length =
  g.length,cO=cO,g.length<=g.length,QB 2 g.length (λi=>QA.enc (g.getD i (Lay.mk (0:Int) (0:Int)))) λi=>QA.enc (g.getD i (Lay.mk (0:Int) (0 :
  Int))),Fn.func 103=Fn.func 103]++wbo++[0=0,0=0,0=0]))++wab d++([cO =
  cO]++wae d))
noncomputable abbrev HA:Nat×Blk:=
  (200,.cells 0 152 (List.append (waf d) ([.map 201,.slz 816 0 (i64.wrap ((l2.length:Int)-1)).toNat cO])))
noncomputable abbrev HK:Nat×Blk:=
  (400,.cells 0 114 [.slz 819 0 d.ps.n cO])
noncomputable abbrev GL:Nat×Blk:=
  (120,.cells 0 3 [vi many'])
noncomputable abbrev Gw:Nat×Blk:=
  (104,.cells 0 42 [.slz 817 0 f'.length cO])
noncomputable abbrev Hm:Nat×Blk:=
  (112,.cells 0 42 [.slz 818 0 g'.length cO])
noncomputable abbrev zr:Nat×Blk:=
  (816,.rowz true 49 kB l2.length λi=>QA.enc (l2.getD i (Lay.mk (0:Int) (0:Int))))
noncomputable abbrev zp:Nat×Blk:=
  (819,.rowz true 4 [CK.bool] d.ps.n λi=>bif decide (i=p)then Kg [.bool true false] 0 (u2 ((p:Int).toNat+0))else u2 i)
noncomputable abbrev G9:Nat×Blk:=
  (817,.rowz true 49 kB f'.length λi=>QA.enc (f'.getD i (Lay.mk (0:Int) (0:Int))))
noncomputable abbrev G1:Nat×Blk:=
  (818,.rowz true 49 kB g'.length λi=>QA.enc (g'.getD i (Lay.mk (0:Int) (0:Int))))
noncomputable abbrev QOR:List AV:=
  (.ptr 2 0 0::.ptr 101 0 0::List.append (waJ) ([vi (d.ps.n:Int),vi (p:Int)]))
noncomputable abbrev wbK:List AV:=[.nili,.ptr 101 0 0,.bool true false]
theorem Qa8(pb1 pb2:List Prop->Bool)(d:Puz)(E:ECt)(ac body:Code)(u u2:Nat->Nat->Int)(l l2:List Lay)(v:Bool)(many:Int)(f g:List Lay)(p:Nat)(tn:Int)(t:Nat)(many':Int)(f' g':List Lay)(g0:Nat->Value):exec (mkE prog (QBM pb1 pb2 d E l ⟨p,t⟩ v (VB d E ac body u2 l2 many f g many' f' g'))) (hnd (mkE prog (QBM pb1 pb2 d E l ⟨p,t⟩ v (VB d E ac body u2 l2 many f g many' f' g'))) 0) (QZ (QI f103 0)) (JSt.inst (G8 d E ac body u l many f g p tn t) g0) (Q6 Zz QFi) = .br (decide ((t:Int)<tn)) (.need (true) (.br (!Qr (Rw.mk 0 λi=>Pt.mk (0:Int) (Lay.mk (0:Int) (0:Int))) (l.length:Int) (Lay.mk (p:Int) (t:Int))) (.leaf (.tup (zg d p t tn)) ((qy E ac body d f g l many u))) (.need (pb1 ((QR6 E d l p t))) (.br (!v) (.leaf (.tup (zg d p t tn)) ((qy E ac body d f g l many u))) (.need (decide ((0:Int)<=(p:Int)/\(p:Int)<(d.ps.n:Int))&&decide (d.ps.n<=d.ps.n)) (.need (decide (p<d.ps.n)) (.need (decide (l.length<=l.length)&&(true&&decide ((l.length+1+(l.length+1) / 4+192)*16<=281474976710656/\l.length+1<=9223372036854775807))) (.need (pb2 ((QQn E ac body d f g l l2 many p t u u2))) (.need (decide ((0:Int)<=i64.wrap ((l2.length:Int)-1)/\(i64.wrap ((l2.length:Int)-1)).toNat<=l2.length-0)) (.need (decide ((0:Int)<=(p:Int)/\(p:Int)<(d.ps.n:Int))&&decide (d.ps.n<=d.ps.n)) (.need (decide (p<d.ps.n)) (.br (false) (.leaf (.tup (wbK)) ([(HA d l2),(201,.mp E.1 E.2),(HK d),(QDL ac body d),(GL many'),(Gw f'),(Hm g'), (jR d),(zr l2),(zp d p u2),(q9 d),vX,(296,.cellsR 0 96 [.nils]),(G9 f'),(G1 g')])) (.leaf (.tup (zg d p t tn)) (((HA d l2)::(201,.mp E.1 E.2)::(HK d)::(QDL ac body d)::(GL many')::(Gw f')::(Hm g')::vX::List.append (waS) ([QDd,(jR d),(zr l2),(zp d p u2),(q9 d),(G9 f'),(G1 g')])))))))))))))))) (.leaf (.tup (QOR d p)) ((qy E ac body d f g l many u))):=by kernel_rfl
noncomputable abbrev wbN(p:Nat)(t:Nat)(tn:Int):List AV:=[vi (p:Int),vi (p:Int),vi tn,.int
  false .i64 (i64.wrap ((t:Int)+1))]
noncomputable abbrev QUC(tn:Int):List AV:=
  (List.append (waJ) ((vi (d.ps.n:Int)::wbN p t tn)))
abbrev wat(g:List Lay):List Prop:=[g.length<=g.length,QB 2 g.length (λi=>QA.enc (g.getD i (Lay.mk (0:Int) (0:Int)))) λi=>QA.enc (g.getD i (Lay.mk (0:Int) (0:Int)))]
abbrev wbq(d:Puz)(p:Nat):List Prop:=[(d.ps.n:Int)=(d.ps.n:Int),(p:Int)=(p:Int)]
abbrev waH(d:Puz)(p:Nat)(t:Nat)(t':Nat)(tn:Int):List Prop:=(wbq d p++[(p:Int)=(p:Int),tn=tn,i64.wrap ((t :
  Int)+1)=(t':Int)])
abbrev wbp(E:ECt)(l:List Lay):List Prop:=[l.length=l.length,cO=cO,E.1=E.1,E.2=E.2]
abbrev wbR:List Prop:=[Fn.func
  (102:FuncId)=Fn.func (102:FuncId),0=0,0=0,0=0,0=0]
abbrev QaF(d:Puz)(f:List Lay)(g:List Lay)(l:List Lay)(many:Int)(p:Nat)(t:Nat)(t':Nat)(tn:Int)(u:Nat->Nat->Int):List Prop:=
  (((wbo++[0=0])++waH d p t t' tn)++wab d++(([cO=cO,0=0]++wbp E l)++wag l++((wbH d++[QB 1 d.ps.n u u])++wai++[Array.mk [18]=Array.mk [(18:Tmp)],ac=ac,body=body]))++wab d++([cO=cO]++wbZ)++wab d++((([cO=cO]++wbO++(wbR++[many=many,0=0,f.length=f.length,cO=cO]))++wa2 f++[0=0,g.length=g.length,cO=cO])++wat g++([Fn.func 103=Fn.func (103:FuncId)]++wbo++[0=0,0=0,0=0]))++wab d++([cO=cO]++wae d))
theorem QLH(l:List Lay)(many:Int)(f g:List Lay)(p:Nat)(tn:Int)(t t':Nat):QE 464 (QUC d p t tn) ((qy E ac body d f g l many u)) (G8 d E ac body u l many f g p tn t')=(some (QaF E ac body d f g l many p t t' tn u)):=by kernel_rfl
abbrev WW:List Prop:=
  [0=0,0=0,0=0,0=0,0=0,0=0]
abbrev GV:List Prop:=
  [0=0,0=0,0=0,0=0]
abbrev Yp:List Prop:=
  ([d.pK.aK=d.pK.aK]++waD d++[0 =
  0,d.ps.n=d.ps.n,cO=cO])
abbrev waN(E:ECt)(l:List Lay)(l2:List Lay):List Prop:=[E.1=E.1,E.2=E.2,l.length<=l2.length,QB 2 l.length (λi=>QA.enc (l2.getD i
  (Lay.mk (0:Int) (0:Int)))) λi=>QA.enc (l.getD i (Lay.mk (0:Int) (0:Int)))]
abbrev QPE(d:Puz)(l:List Lay)(l2:List Lay)(p:Nat)(u2:Nat->Nat->Int)(u3:Nat->Nat->Int):List Prop:=
  ([0=0,(i64.wrap ((l2.length:Int)-1)).toNat=l.length,cO=cO]++waN E l l2++(wbH d++[QB 1 d.ps.n (λi=>bif
  decide (i=p)then Kg [.bool true false] 0 (u2 ((p:Int).toNat+0))else u2 i) u3]))
abbrev wbY(g':List Lay):List Prop:=[g'.length=g'.length,cO=cO,g'.length<=g'.length,QB 2 g'.length (λi=>QA.enc (g'.getD i (Lay.mk (0:Int) (0 :
  Int)))) λi=>QA.enc (g'.getD i (Lay.mk (0:Int) (0:Int)))]
abbrev QSY:List Prop:=
  ([(0:Int)=0,0=0,0=0,(0:Int)=0,(0:Int)=0,false=false,0=0,0=0]++wbR++([many'=many',0=0,f'.length=f'.length,cO=cO,f'.length<=f'.length,QB 2 f'.length (λi=>QA.enc (f'.getD i (Lay.mk (0:Int) (0:Int)))) λi=>QA.enc (f'.getD
  i (Lay.mk (0:Int) (0:Int))),0=0]++wbY g'))
theorem QVH(u u2 u3:Nat->Nat->Int)(l l2:List Lay)(p:Nat)(tn:Int)(t t':Nat)(many':Int)(f' g':List Lay):QE 464 (QUC d p t tn) (((HA d l2)::(201,.mp E.1 E.2)::(HK d)::(QDL ac body d)::(GL many')::(Gw f')::(Hm g')::vX::List.append (waS) ([QDd,(jR d),(zr l2),(zp d p u2),(q9 d),(G9 f'),(G1 g')]))) (G8 d E ac body u3 l many' f' g' p tn t')=(some (WW++GV++(waH d p t t' tn++[d.pK.length=d.pK.length])++(Yp d)++(QPE E d l l2 p u2 u3)++(wai++[Array.mk [18]=Array.mk [(18:Tmp)],ac=ac,body=body,d.pK.length=d.pK.length]) ++ (Yp d)++WW++[0=0,0=0,(0:Int)=0]++GV++[(0:Int)=0,d.pK.length=d.pK.length]++(Yp d)++[0=0,0=0]++(QSY f' g' many')++[Fn.func 103=Fn.func (103:FuncId)]++WW++WW++[d.pK.length=d.pK.length]++(Yp d)++(wae d))):=by kernel_rfl
theorem QMj(l:List Lay)(many:Int)(f g:List Lay)(p:Nat):QE 464 (List.append (waJ) ([vi (d.ps.n:Int),vi (p:Int)])) ((qy E ac body d f g l many u)) (QBe d E ac body u l many f g p)=(some (WW++GV++(wbq d p++[d.pK.length=d.pK.length])++(Yp d)++(([0=0]++wbp E l)++wag l++((wbH d++[QB 1 d.ps.n u u])++wai++[Array.mk [18]=Array.mk [(18:Tmp)],ac=ac,body=body,d.pK.length=d.pK.length]))++(Yp d)++WW++[0=0,0=0,(0:Int)=0]++GV++[(0:Int)=0, d.pK.length=d.pK.length]++(Yp d)++(wbO++[Fn.func (102:FuncId)=Fn.func (102:FuncId)])++GV++(([many=many,0=0,f.length=f.length,cO=cO]++wa2 f++[0=0,g.length=g.length,cO=cO])++wat g++[Fn.func 103=Fn.func (103:FuncId)])++WW++WW ++ [d.pK.length=d.pK.length]++(Yp d)++(wae d))):=by kernel_rfl
theorem Qb9(pb1 pb2:List Prop->Bool)(d:Puz)(E:ECt)(ac body:Code)(u u2:Nat->Nat->Int)(l l2:List Lay)(v:Bool)(many:Int)(f g:List Lay)(p:Nat)(tn:Int)(t:Nat)(many':Int)(f' g':List Lay)(g0:Nat->Value):exec (mkE prog (QBM pb1 pb2 d E l ⟨p,t⟩ v (Xa d E ac body u2 l2 many f g many' f' g'))) (hnd (mkE prog (QBM pb1 pb2 d E l ⟨p,t⟩ v (Xa d E ac body u2 l2 many f g many' f' g'))) 0) (QZ (QI f103 0)) (JSt.inst (G8 d E ac body u l many f g p tn t) g0) (Q6 Zz QFi) = .br (decide ((t:Int)<tn)) (.need (true) (.br (!Qr (Rw.mk 0 λi=>Pt.mk (0:Int) (Lay.mk (0:Int) (0:Int))) (l.length:Int) (Lay.mk (p:Int) (t:Int))) (.leaf (.tup (zg d p t tn)) ((qy E ac body d f g l many u))) (.need (pb1 ((QR6 E d l p t))) (.br (!v) (.leaf (.tup (zg d p t tn)) ((qy E ac body d f g l many u))) (.need (decide ((0:Int)<=(p:Int)/\(p:Int)<(d.ps.n:Int))&&decide (d.ps.n<=d.ps.n)) (.need (decide (p<d.ps.n)) (.need (decide (l.length<=l.length)&&(true&&decide ((l.length+1+(l.length+1) / 4+192)*16<=281474976710656/\l.length+1<=9223372036854775807))) (.need (pb2 ((QQn E ac body d f g l l2 many p t u u2))) (.need (decide ((0:Int)<=i64.wrap ((l2.length:Int)-1)/\(i64.wrap ((l2.length:Int)-1)).toNat<=l2.length-0)) (.need (decide ((0:Int)<=(p:Int)/\(p:Int)<(d.ps.n:Int))&&decide (d.ps.n<=d.ps.n)) (.need (decide (p<d.ps.n)) (.br (true) (.leaf (.tup (wbK)) ([(HA d l2),(201,.mp E.1 E.2),(HK d),(329,.lp LoopState.done (some (Code.exit 0)) (YP d) (Array.mk [18]) ac body),(GL many'),(Gw f'),(Hm g'),(jR d),(zr l2),(zp d p u2),(q9 d),vX,(296,.cellsR 0 96 [.nils]),(G9 f'),(G1 g')])) (.leaf (.tup (zg d p t tn)) (((HA d l2)::(201,.mp E.1 E.2)::(HK d)::(329,.lp LoopState.done (some (Code.exit 0)) (YP d) (Array.mk [18]) ac body)::(GL many')::(Gw f')::(Hm g')::vX::List.append (waS) ([QDd,(jR d),(zr l2),(zp d p u2),(q9 d),(G9 f'),(G1 g')])))))))))))))))) (.leaf (.tup (QOR d p)) ((qy E ac body d f g l many u))):=by kernel_rfl
abbrev waQ:List Prop:=[LoopState.done=LoopState.done,some (Code.exit 0)=some (Code.exit 0)]
theorem QWC(u2 u3:Nat->Nat->Int)(l l2:List Lay)(p:Nat)(many':Int)(f' g':List Lay):QE 464 [.bool true false] ([(HA d l2),(201,.mp E.1 E.2),(HK d),(329,.lp LoopState.done (some (Code.exit 0)) (YP d) (Array.mk [18]) ac body),(GL many'),(Gw f'), (Hm g'),(jR d),(zr l2),(zp d p u2),(q9 d),vX,(296,.cellsR 0 96 [.nils]),(G9 f'),(G1 g')]) (soF d E ac body u3 l many' f' g')=(some ([false=false, d.pK.length=d.pK.length]++(Yp d)++(QPE E d l l2 p u2 u3)++(waQ++[Array.mk [18]=Array.mk [(18:Tmp)],ac=ac,body=body,d.pK.length=d.pK.length])++(Yp d)++WW++[0=0,0=0,(0:Int)=0]++GV++[(0:Int)=0,d.pK.length=d.pK.length] ++ (Yp d)++[0=0,0=0]++(QSY f' g' many'))):=by kernel_rfl
def clU:UC:=⟨0,⟨1,[(0,.slz 5 0 l.length (.of 0))],[QAm 5 l],8⟩,λm=>.slz m 0 l.length (.of 0),λm=>[rwY m l]⟩
theorem QWT:VQ (mkE prog QT) (hnd (mkE prog QT) 1) f68 (clU l)=QC.need (decide ((0:Nat)<l.length/\l.length<=l.length)) (QC.need (true&&(decide (l.length<=l.length)&&decide (((0:Nat)+l.length+((0:Nat)+l.length) / (4:Nat)+(192:Nat))*(16:Nat)<=(281474976710656:Nat)/\(0:Nat)+l.length<=(9223372036854775807:Nat)))) (QC.leaf (AV.slz (48:Nat) (0:Nat) ((0:Nat)+l.length) cO) ([((48:Nat),Blk.rowz true (49:Nat) [CK.int i64,CK.int i64] ((0:Nat)+l.length) (Q9 (0:Nat) (λx x_1=>(0:Int)) λi=>QA.enc (l.getD i (Lay.mk (0:Int) (0:Int)))))]))):=by kernel_rfl
theorem QXw(l l':List Lay):QE 8 [(AV.slz (48:Nat) (0:Nat) ((0:Nat)+l.length) cO)] ([((48:Nat),Blk.rowz true (49:Nat) [CK.int i64,CK.int i64] ((0:Nat)+l.length) (Q9 (0:Nat) (λx x_1=>(0:Int)) λi=>QA.enc (l.getD i (Lay.mk (0:Int) (0:Int)))))]) (KR (clU l'))=( some [0=0,(0:Nat)+l.length=l'.length,cO=cO,l'.length<=(0:Nat)+l.length,QB (2:Nat) l'.length (Q9 (0:Nat) (λx x_1=>(0:Int)) λi=>QA.enc (l.getD i (Lay.mk (0:Int) (0:Int)))) λi=>QA.enc (l'.getD i (Lay.mk (0:Int) (0:Int)))]):=by kernel_rfl
theorem QPq(m n:Nat)(f g:Nat->Nat->Int):QB m n (Q9 0 f g) g:=by
 intro i hi;have:Q9 0 f g i=g i:=by funext j;rw[XP,if_neg (Nat.not_lt_zero i),Nat.sub_zero]
 rw[this];exact QEp _ _ _
theorem QYh:(clU l).Ok:=by
 refine⟨(by decide:0<=8),rfl,rfl,?_,rfl,λnid h=>?_,λnid h=>?_⟩
 .intro q hq;simp only[UC.po,clU,rwY,List.mem_cons,List.not_mem_nil,or_false]at hq;subst hq;exact⟨rfl,rfl,rfl,λh=>absurd (show 8<0 from h) (by decide)⟩
 .have e0:=KZ 0 8 0 nid (by decide)
  simp only[UC.va,clU,AV.mapId,Nat.add_zero]at e0 ⊢;rw[e0]
 .have e0:=KZ 0 8 0 nid (by decide)
  simp only[UC.po,clU,rwY,List.map_cons,List.map_nil,Blk.mapId,Nat.add_zero]at e0 ⊢;rw[e0]
theorem QQc(hp:0<l.length)(hl:l.length<=1000):QS prog 68 (uFC (clU l)):=by
 refine Ky (c:=Ql f68) (E:=mkE prog QT) (QO Qf) func68 (by kernel_rfl) (by kernel_rfl) (QYh l) (λG h1 _=>Qw (QO Qf) 1 G _ h1) ⟨?_⟩
 refine Qg (QWT l) ?_;refine QG (by simp;omega) (QG (by simp;omega) ⟨rfl,rfl,_,QXw l l,?_⟩)
 repeat' first|with_reducible refine QP ?_ ?_|exact tv|exact Nat.zero_add _|exact QPq _ _ _ _|omega|refine aI ?_ ?_
