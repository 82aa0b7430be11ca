/- - -/
import Derived.Test.YtekbmehgcofnkaaGreatMzr
open Go.IntKind (i64)
namespace Go.Proofs.YtekbmehgcofnkaaGreat
open Go Go.SX Go.SX.Told
variable {y j:Jn}{d:Puz}{E:ECt}{l:List Lay}{x:Lay}{i c o:Nat}
theorem Hn{x:Jn}:eqJ x y=true↔x=y:=by
 obtain⟨a,i,b,j⟩:=x;obtain⟨a',i',b',j'⟩:=y;simp[eqJ]
def inJ(L:List Jn)(y:Jn):Bool:=L.any λj=>eqJ j y
theorem vc{L:List Jn}:inJ L y=true↔y∈L:=by
 unfold inJ;rw[List.any_eq_true];constructor
 .rintro⟨j,hj,h⟩;rw[Hn]at h;exact h ▸ hj
 .intro h;exact⟨y,h,Hn.2 rfl⟩
theorem QJq{L:List Jn}(h:y ∉ L):inJ L y=false:=by
 rw[Bool.eq_false_iff];exact λq=>h (vc.1 q)
def ZM(d:Puz)(l:List Lay)(c:Nat):List Jn:=(JM d c).1.filterMap (K7 d l c)
def VK(d:Puz)(l:List Lay):List Jn:=(List.range l.length).flatMap (ZM d l)
theorem Qdi(d:Puz)(l:List Lay)(c:Nat)(f:List Jn):Hi d l c (JM d c) f=f.filter λy=>!inJ (ZM d l c) y:=by
 unfold Hi;congr 1;funext y;congr 1;rw[Bool.eq_iff_iff,vc,List.any_eq_true];unfold ZM;rw[List.mem_filterMap];constructor
 .rintro⟨e,he,h⟩;refine⟨e,he,?_⟩;unfold qH at h;cases hm:K7 d l c e with
  | none=>rw[hm]at h;cases h
  | some j=>rw[hm]at h;rw[Hn.1 h]
 .rintro⟨e,he,h⟩;refine⟨e,he,?_⟩;unfold qH;rw[h];exact Hn.2 rfl
theorem QTJ(d:Puz)(l:List Lay):∀(cs:List Nat) (f:LJ),(cs.foldl (WA d l) f).1=f.1.filter λy=>!inJ (cs.flatMap (ZM d l)) y
 | [],f=>by
  symm;rw[List.foldl_nil,List.filter_eq_self];intro y _;rfl
 | c::cs,f=>by
  rw[List.foldl_cons,QTJ d l cs];show(Hi d l c (JM d c) f.1).filter _=_;rw[Qdi,List.filter_filter];congr 1;funext y;rw[List.flatMap_cons];unfold inJ;rw[List.any_append,Bool.not_or];exact Bool.and_comm _ _
theorem QZG(d:Puz)(l:List Lay)(f:LJ):(J6 d l f).1=f.1.filter λy=>!inJ (VK d l) y:=QTJ d l _ f
theorem QSA(d:Puz):∀(L:List (List Lay)) (s:LJ),(match Qv (λs l=>faY d l s) L s with | .go s | .stop s=>s.1)=s.1.filter λy=>!L.any λl=>inJ (VK d l) y
 | [],s=>by
  symm;show s.1.filter _=s.1;rw[List.filter_eq_self];intro y _;rfl
 | l::L,s=>by
  have h:=QZG d l s
  have hf:(s.1.filter λy=>!(l::L).any λl=>inJ (VK d l) y)=((J6 d l s).1).filter λy=>!L.any λl=>inJ (VK d l) y:=by
   rw[h,List.filter_filter];congr 1;funext y;rw[List.any_cons,Bool.not_or];exact Bool.and_comm _ _
  rw[hf];simp only[Qv];unfold faY;cases hc:(((J6 d l s).1.length:Int)==0)with
  | false=>exact QSA d L _
  | true=>
   have:(J6 d l s).1=[]:=by
    rw[<-List.length_eq_zero_iff];have:=beq_iff_eq.1 hc;omega
   show(J6 d l s).1=_;rw[this];rfl
def Jo(d:Puz):List Jn:=(Ks d 1).filter λy=>!(Ko d (QK d)).any λl=>inJ (VK d l) y
theorem Qep(ho:d.ok=true):KD d=(Jo d,0):=by
 have hn:d.ps.n<=1000:=Nat.le_trans (WQ (Zl ho)).2.2 (by decide)
 unfold KD;rw[ho,cond_true];have h1:(w0L d).1=Ks d 1:=by rw[<-QNS hn,QKh hn,QD2 d hn (by decide)]
 have h2:=QSA d (Ko d (QK d)) (w0L d);rw[<-QHa,h1]at h2;unfold Jo;rw[<-h2];rfl
def QIl(s:SoS):List Lay×List Lay×Int×Int:=cond (s.1==0) ([],[],0,4) (s.2.1,s.2.2,s.1,0)
theorem Qbn(ho:d.ok=true):QH d=cond (Ko d (QK d)).isEmpty ([],[],0,4) ((Ko d (QK d)).getD 0 [],(Ko d (QK d)).getD 1 [],((min (Ko d (QK d)).length 100:Nat):Int),0):=by
 have h:=QUm d (QK d);unfold QH;rw[ho,cond_true]
 have key:∀ r:Qb SoS,(match r with | .go s | .stop s=>cond (s.1==0) (([]:List Lay),([]:List Lay),(0:Int),(4:Int)) (s.2.1,s.2.2,s.1,0))=QIl (match r with | .go s | .stop s=>s):=by
  intro r;cases r<;>rfl
 refine((key _).trans (congrArg QIl h)).trans ?_;cases hs:Ko d (QK d)with
 | nil=>rfl
 | cons a L=>
  have:(((min (a::L).length 100:Nat):Int)==0)=false:=by
   rw[beq_eq_false_iff_ne,List.length_cons];omega
  simp only[QIl,this,cond_false,List.isEmpty_cons]
structure Y9 (d:Puz) (E:ECt) (l:List Lay):Prop where
 len:l.length=d.ps.n
 st:∀ i (h:i<l.length),l[i]∈zB d/\qc (l.take i) l[i]=false/\Qy d E (l.take i) l[i]=true
theorem QEH:l∈Ko d E↔Y9 d E l:=by
 unfold Ko QAB;rw[QYJ]
 have hk:∀ i (h:i<l.length),(HI QFS d E ([]++l.take i) l[i]=true↔qc (l.take i) l[i]=false/\Qy d E (l.take i) l[i]=true):=by
  intro i h;unfold HI QFS;rw[List.nil_append,Bool.true_and,qbA,Bool.not_eq_true']
 constructor
 .rintro⟨t,h1,h2,h3,_⟩;rw[List.nil_append]at h2;subst h2;rw[QPY]at h3;exact⟨h1,λi h=>⟨(h3 i h).1,(hk i h).1 (h3 i h).2⟩⟩
 .intro h;refine⟨l,h.len,rfl,?_,rfl⟩;rw[QPY];exact λi hi=>⟨(h.st i hi).1,(hk i hi).2 (h.st i hi).2⟩
theorem QZY:x∈zB d↔∃ p t:Nat,p<d.ps.n/\t<QY d p/\x=⟨p,t⟩:=by
 unfold zB;rw[List.mem_flatMap];constructor
 .rintro⟨p,hp,hx⟩;obtain⟨t,ht,rfl⟩:=List.mem_map.1 hx;exact⟨p,t,List.mem_range.1 hp,List.mem_range.1 ht,rfl⟩
 .rintro⟨p,t,hp,ht,rfl⟩;exact⟨p,List.mem_range.2 hp,List.mem_map.2 ⟨t,List.mem_range.2 ht,rfl⟩⟩
theorem Qg3(d:Puz)(p:Nat):QY d p<=4:=by
 unfold QY tnV;cases d.turn&&decide (0<(p:Int))<;>decide
theorem Qh3(h:x∈zB d):Q8 d x:=by
 obtain⟨p,t,hp,ht,rfl⟩:=QZY.1 h;have:=Qg3 d p;exact⟨⟨by show(0:Int)<=p;omega,by show(p:Int)<_;omega⟩,by show(0:Int)<=t;omega,by show(t:Int)<=3;omega⟩
theorem Y9.lay(h:Y9 d E l)(hi:i<l.length):Q8 d l[i]:=Qh3 (h.st i hi).1
theorem QSr{k:Nat}(hik:i<k)(hk:k<l.length)(h:qc (l.take k) l[k]=false):l[i].piece≠l[k].piece:=by
 intro e
 have:qc (l.take k) l[k]=true:=by
  unfold qc;rw[List.any_eq_true];refine⟨l[i],?_,beq_iff_eq.2 e⟩;rw[List.mem_take_iff_getElem];exact⟨i,by omega,rfl⟩
 rw[h]at this;cases this
theorem Y9.ne(h:Y9 d E l){k:Nat}(hi:i<l.length)(hk:k<l.length)(hik:i≠k):l[i].piece≠l[k].piece:=by
 rcases Nat.lt_or_gt_of_ne hik with q|q
 .exact QSr q hk (h.st k hk).2.1
 .exact λe=>QSr q hi (h.st i hi).2.1 e.symm
theorem QW4(p:Q0)(a b:Edge):(JA p a b).1=(JA p b a).1:=by
 unfold JA
 by_cases h:p.ok=true/\a.ok=true/\b.ok=true
 .rw[if_pos h,if_pos ⟨h.1,h.2.2,h.2.1⟩];show Yj p a b=Yj p b a;unfold Yj
  repeat' split
  all_goals first|rfl|omega
 .rw[if_neg h,if_neg (λq=>h ⟨q.1,q.2.2,q.2.1⟩)]
theorem QgC(p:Q0)(t h:Edge):ZF p t h=0∨ZF p t h=1∨ZF p t h=2:=by
 rw[QRS]
 repeat' split
 all_goals simp
theorem Qf5(p:Q0)(a b:Edge):(JA p a b).1=0∨(JA p a b).1=1∨(JA p a b).1=2:=by
 unfold JA;split
 .show Yj p a b=0∨_;unfold Yj
  repeat' split
  all_goals first|exact QgC .. | simp
 .simp
theorem Qgh{p q:QX}{s t:Nat}(h:meF d p q s t≠0):1<=meF d p q s t:=by
 have:=Qf5 d.pK (Y5 p s) (Y5 q t);unfold meF at h ⊢;omega
theorem QY8(d:Puz)(p q:QX)(s t:Nat):meF d p q s t=meF d q p t s:=QW4 _ _ _
theorem QKd{p q:Lay}(hp:Q8 d p)(hq:Q8 d q)(hne:p.piece≠q.piece){s t:Int}(hs:0<=onS p s/\onS p s<4)(ht:0<=onS q t/\onS q t<4)(h:Yd (QK d) p q s t≠0):
  cond (decide (q.piece<p.piece)) (⟨q.piece,onS q t,p.piece,onS p s⟩:Jn) ⟨p.piece,onS p s,q.piece,onS q t⟩∈Ks d 1:=by
 unfold Yd at h;rw[QBD,if_pos ⟨hp.p.1,hp.p.2,hs.1,hs.2,hq.p.1,hq.p.2,ht.1,ht.2,hne⟩]at h;have h1:=Qgh h;have p1:=hp.p;have q1:=hq.p;rw[QM4]
 by_cases hlt:q.piece<p.piece
 .rw[qde hlt,cond_true];refine⟨q.piece.toNat,(onS q t).toNat,p.piece.toNat,(onS p s).toNat,by omega,by omega,by omega,by omega,?_,?_⟩
  .unfold isJ;rw[qde (by omega),QY8,qde h1];rfl
  .rw[Int.toNat_of_nonneg q1.1,Int.toNat_of_nonneg ht.1,Int.toNat_of_nonneg p1.1,Int.toNat_of_nonneg hs.1]
 .rw[decide_eq_false hlt,cond_false];refine⟨p.piece.toNat,(onS p s).toNat,q.piece.toNat,(onS q t).toNat,by omega,by omega,by omega,by omega,?_,?_⟩
  .unfold isJ;rw[qde (by omega),qde h1];rfl
  .rw[Int.toNat_of_nonneg q1.1,Int.toNat_of_nonneg ht.1,Int.toNat_of_nonneg p1.1,Int.toNat_of_nonneg hs.1]
theorem QMu(hd:KB d)(hl:l.length<=1000)(hc:c<l.length):j∈ZM d l c↔(((c:Int)+1).tmod d.wide≠0/\(c:Int)+1<l.length/\j=Kt l c 1 ((c:Int)+1))∨((c:Int)+d.wide<l.length/\j=Kt l c 2 ((c:Int)+d.wide)):=by
 have h1:=hd.w1;have h2:=hd.wn;have h3:=hd.n;have w1:i64.wrap ((c:Int)+1)=(c:Int)+1:=w64 (by omega) (by omega)
 have w2:i64.wrap ((c:Int)+d.wide)=(c:Int)+d.wide:=w64 (by omega) (by omega)
 unfold ZM;rw[List.mem_filterMap];have e1:K7 d l c { key := .int .i64 1,val := .int .i64 (i64.wrap ((c:Int)+1)),born:=0 }=cond (((1:Int)==1&&((i64.wrap ((c:Int)+1)).tmod d.wide==0))||decide (i64.wrap ((c:Int)+1)≥(l.length:Int))) none (some (Kt l c 1 (i64.wrap ((c:Int)+1)))):=rfl
 have e2:K7 d l c { key := .int .i64 2,val := .int .i64 (i64.wrap ((c:Int)+d.wide)),born:=1 }=cond (((2:Int)==1&&((i64.wrap ((c:Int)+d.wide)).tmod d.wide==0))||decide (i64.wrap ((c:Int)+d.wide)≥(l.length:Int))) none (some (Kt l c 2 (i64.wrap ((c:Int)+d.wide)))):=rfl
 have q1:K7 d l c { key := .int .i64 1,val := .int .i64 (i64.wrap ((c:Int)+1)),born:=0 }=some j↔(((c:Int)+1).tmod d.wide≠0/\(c:Int)+1<l.length/\j=Kt l c 1 ((c:Int)+1)):=by
  rw[e1,w1]
  by_cases g1:((c:Int)+1).tmod d.wide=0
  .rw[show(((c:Int)+1).tmod d.wide==0)=true from beq_iff_eq.2 g1];simp[g1]
  .rw[show(((c:Int)+1).tmod d.wide==0)=false from beq_eq_false_iff_ne.2 g1]
   by_cases g2:(c:Int)+1≥l.length
   .rw[qde g2];simp;omega
   .rw[decide_eq_false g2];simp only[Bool.and_false,Bool.or_false,cond_false,qsI];constructor
    .rintro rfl;exact⟨g1,by omega,rfl⟩
    .rintro⟨_,_,rfl⟩;rfl
 have q2:K7 d l c { key := .int .i64 2,val := .int .i64 (i64.wrap ((c:Int)+d.wide)),born:=1 }=some j↔((c:Int)+d.wide<l.length/\j=Kt l c 2 ((c:Int)+d.wide)):=by
  rw[e2,w2]
  by_cases g2:(c:Int)+d.wide≥l.length
  .rw[qde g2];simp;omega
  .rw[decide_eq_false g2];simp only[show((2:Int)==1)=false from rfl,Bool.false_and,Bool.or_false,cond_false,qsI];constructor
   .rintro rfl;exact⟨by omega,rfl⟩
   .rintro⟨_,rfl⟩;rfl
 rw[<-q1,<-q2];simp only[JM,List.mem_cons,List.not_mem_nil,or_false];constructor
 .rintro⟨e,rfl|rfl,h⟩
  .exact .inl h
  .exact .inr h
 .rintro(h|h)
  .exact⟨_,.inl rfl,h⟩
  .exact⟨_,.inr rfl,h⟩
theorem QVu(hc:c<l.length)(ho:o<l.length){x:Int}(hx:x=o):Kt l c 1 x=cond (decide (l[o].piece<l[c].piece)) ⟨l[o].piece,onS l[o] 3,l[c].piece,onS l[c] 1⟩ ⟨l[c].piece,onS l[c] 1,l[o].piece,onS l[o] 3⟩:=by
 subst hx;unfold Kt;rw[Int.toNat_natCast,JL hc,JL ho];rfl
theorem QVT(hc:c<l.length)(ho:o<l.length){x:Int}(hx:x=o):Kt l c 2 x=cond (decide (l[o].piece<l[c].piece)) ⟨l[o].piece,onS l[o] 0,l[c].piece,onS l[c] 2⟩ ⟨l[c].piece,onS l[c] 2,l[o].piece,onS l[o] 0⟩:=by
 subst hx;unfold Kt;rw[Int.toNat_natCast,JL hc,JL ho];rfl
theorem QEV(h:Q8 d x){s:Int}(h0:0<=s):0<=onS x s/\onS x s<4:=by
 have:=h.t;exact⟨Int.tmod_nonneg 4 (by omega),Int.tmod_lt_of_pos _ (by decide)⟩
theorem QaX(h:Y9 d E l)(hc:c+1<l.length)(hw:((c:Int)+1).tmod d.wide≠0):Yd E l[c] l[c+1] 1 3≠0:=by
 have hm:=(h.st (c+1) hc).2.2;have hl:(l.take (c+1)).length=c+1:=by rw[List.length_take];omega
 unfold Qy at hm;rw[hl,qbA,qbA,qbO]at hm
 have hcol:(Q2 d (c+1)==0)=false:=by
  rw[beq_eq_false_iff_ne];exact hw
 have h2:=hm.2.2;rw[hcol]at h2
 have e:atL (l.take (c+1)) (((c+1:Nat):Int)-1)=l[c]:=by
  unfold atL;rw[show(((c+1:Nat):Int)-1).toNat=c by omega,JL (by rw[hl];omega),List.getElem_take]
 rw[e]at h2;simpa using h2
theorem QZU(hd:KB d)(h:Y9 d E l)(ho:(o:Int)=c+d.wide)(hol:o<l.length):Yd E (l[c]'(by have:=hd.w1;omega)) l[o] 2 0≠0:=by
 have h1:=hd.w1;have hm:=(h.st o hol).2.2;have hl:(l.take o).length=o:=by rw[List.length_take];omega
 unfold Qy at hm;rw[hl,qbA,qbA,qbO]at hm
 have hrow:decide (0<Qo d o)=true:=by
  rw[qdE,Qo,Int.tdiv_eq_ediv_of_nonneg (by omega)]
  have:=(Int.le_ediv_iff_mul_le (a:=1) (b:=(o:Int)) (c:=d.wide) (by omega)).2 (by omega)
  omega
 have h2:=hm.2.1;rw[hrow]at h2
 have e:atL (l.take o) ((o:Int)-d.wide)=l[c]'(by omega):=by
  unfold atL;rw[show((o:Int)-d.wide).toNat=c by omega,JL (by rw[hl];omega),List.getElem_take]
 rw[e]at h2;simpa using h2
theorem QK5(hd:KB d)(h:Y9 d (QK d) l)(hj:j∈VK d l):j∈Ks d 1:=by
 have hn:=hd.n;have hll:=h.len;have hw1:=hd.w1;obtain⟨c,hc,hj⟩:=List.mem_flatMap.1 hj;have hc:=List.mem_range.1 hc;rcases(QMu hd (by omega) hc).1 hj with ⟨h1,h2,rfl⟩|⟨h2,rfl⟩
 .have ho:c+1<l.length:=by omega
  rw[QVu hc ho (by omega)]
  exact QKd (h.lay hc) (h.lay ho) (h.ne hc ho (by omega)) (QEV (h.lay hc) (by decide)) (QEV (h.lay ho) (by decide)) (QaX h ho h1)
 .obtain⟨o,ho⟩:∃ o:Nat,(o:Int)=(c:Int)+d.wide:=⟨((c:Int)+d.wide).toNat,by omega⟩
  have hol:o<l.length:=by omega
  rw[QVT hc hol (by omega)]
  exact QKd (h.lay hc) (h.lay hol) (h.ne hc hol (by omega)) (QEV (h.lay hc) (by decide)) (QEV (h.lay hol) (by decide)) (QZU hd h ho hol)
def jU(l:List Lay)(c o:Nat)(j:Jn):Prop:=j.a=(l.getD c ⟨0,0⟩:Lay).piece/\j.b=(l.getD o ⟨0,0⟩:Lay).piece∨j.a=(l.getD o ⟨0,0⟩:Lay).piece/\j.b=(l.getD c ⟨0,0⟩:Lay).piece
theorem QCy(s:Int){x:Int}(hx:x=o):jU l c o (Kt l c s x):=by
 subst hx;unfold jU Kt;rw[Int.toNat_natCast];cases decide ((l.getD o ⟨0,0⟩:Lay).piece<(l.getD c ⟨0,0⟩:Lay).piece)
 .exact .inl ⟨rfl,rfl⟩
 .exact .inr ⟨rfl,rfl⟩
theorem QRF(h:Y9 d E l){c' o':Nat}(h1:c<o)(h2:o<l.length)(h3:c'<o')(h4:o'<l.length)(hj:jU l c o j)(hj':jU l c' o' j):c=c'/\o=o':=by
 have key:∀{i k:Nat},i<l.length->k<l.length->(l.getD i ⟨0,0⟩:Lay).piece=(l.getD k ⟨0,0⟩:Lay).piece->i=k:=by
  intro i k hi hk e;rw[JL hi,JL hk]at e
  by_cases q:i=k
  .exact q
  .exact absurd e (h.ne hi hk q)
 rcases hj with ⟨a1,a2⟩|⟨a1,a2⟩<;>rcases hj' with ⟨b1,b2⟩|⟨b1,b2⟩
 .exact⟨key (by omega) (by omega) (a1.symm.trans b1),key h2 h4 (a2.symm.trans b2)⟩
 .have:=key (by omega) h4 (a1.symm.trans b1)
  have:=key h2 (by omega) (a2.symm.trans b2)
  omega
 .have:=key h2 (by omega) (a1.symm.trans b1)
  have:=key (by omega) h4 (a2.symm.trans b2)
  omega
 .exact⟨key (by omega) (by omega) (a2.symm.trans b2),key h2 h4 (a1.symm.trans b1)⟩
theorem QM7(hd:KB d)(hl:l.length<=1000)(hc:c<l.length)(hj:j∈ZM d l c):∃ o,c<o/\o<l.length/\jU l c o j:=by
 have hw1:=hd.w1;rcases(QMu hd hl hc).1 hj with ⟨_,h2,rfl⟩|⟨h2,rfl⟩
 .exact⟨c+1,by omega,by omega,QCy 1 (by omega)⟩
 .exact⟨((c:Int)+d.wide).toNat,by omega,by omega,QCy 2 (by omega)⟩
theorem QbF(hd:KB d)(h:Y9 d E l):(VK d l).Nodup:=by
 have hn:=hd.n;have hll:=h.len;have hw1:=hd.w1;have hwn:=hd.wn;unfold VK List.Nodup;rw[List.pairwise_flatMap];refine⟨λc hc=>?_,?_⟩
 .have hc:=List.mem_range.1 hc;have w1:i64.wrap ((c:Int)+1)=(c:Int)+1:=w64 (by omega) (by omega)
  have w2:i64.wrap ((c:Int)+d.wide)=(c:Int)+d.wide:=w64 (by omega) (by omega)
  unfold ZM;rw[List.pairwise_filterMap];simp only[JM];refine List.pairwise_pair.2 λa ha b hb e=>?_;subst e;have e1:K7 d l c { key := .int .i64 1,val := .int .i64 (i64.wrap ((c:Int)+1)),born:=0 }=cond (((1:Int)==1&&((i64.wrap ((c:Int)+1)).tmod d.wide==0))||decide (i64.wrap ((c:Int)+1)≥(l.length:Int))) none (some (Kt l c 1 (i64.wrap ((c:Int)+1)))):=rfl
  have e2:K7 d l c { key := .int .i64 2,val := .int .i64 (i64.wrap ((c:Int)+d.wide)),born:=1 }=cond (((2:Int)==1&&((i64.wrap ((c:Int)+d.wide)).tmod d.wide==0))||decide (i64.wrap ((c:Int)+d.wide)≥(l.length:Int))) none (some (Kt l c 2 (i64.wrap ((c:Int)+d.wide)))):=rfl
  rw[e1,w1]at ha;rw[e2,w2]at hb;cases g1:((1:Int)==1&&(((c:Int)+1).tmod d.wide==0))||decide ((c:Int)+1≥(l.length:Int))with
  | true=>rw[g1]at ha;cases ha
  | false=>
   cases g2:((2:Int)==1&&(((c:Int)+d.wide).tmod d.wide==0))||decide ((c:Int)+d.wide≥(l.length:Int))with
   | true=>rw[g2]at hb;cases hb
   | false=>
    rw[g1]at ha;rw[g2]at hb;simp only[cond_false,qsI]at ha hb;rw[Bool.or_eq_false_iff,Bool.and_eq_false_iff]at g1 g2;have l1:=qdf g1.2;have l2:=qdf g2.2;obtain⟨o,ho⟩:∃ o:Nat,(o:Int)=(c:Int)+d.wide:=⟨((c:Int)+d.wide).toNat,by omega⟩
    have p1:jU l c (c+1) a:=ha ▸ QCy 1 (by omega)
    have p2:jU l c o a:=hb ▸ QCy 2 ho.symm;have:=(QRF h (by omega) (by omega) (by omega) (by omega) p1 p2).2
    have hw:d.wide=1:=by omega
    rcases g1.1 with q|q
    .cases q
    .rw[hw,Int.tmod_one]at q;cases q
 .refine List.pairwise_lt_range.imp_of_mem λ{c c'} hc hc' hcc x hx y hy e=>?_;subst e;obtain⟨o,h1,h2,h3⟩:=QM7 hd (by omega) (List.mem_range.1 hc) hx
  obtain⟨o',h4,h5,h6⟩:=QM7 hd (by omega) (List.mem_range.1 hc') hy
  have:=(QRF h h1 h2 h4 h5 h3 h6).1;have hcc:c<c':=hcc;omega
theorem QLu{α:Type}(p:α->Bool):∀ l:List α,(l.filter p).length+(l.filter λx=>!p x).length=l.length
 | []=>rfl
 | a::l=>by
  have:=QLu p l;rw[List.filter_cons,List.filter_cons];cases p a<;>simp<;>omega
theorem QRh(d:Puz)(m:Int):(Ks d m).Nodup:=(QIn d m).imp λ{x y} h q=>by subst q;exact QMF x h
theorem Qhv(d:Puz):(Jo d).Nodup:=(QRh d 1).filter _
theorem Qb0(h:j∈Jo d):j∈Ks d 1:=(List.mem_filter.1 h).1
theorem QF8(d:Puz):(Jo d).length<=(Ks d 1).length:=List.length_filter_le _ _
theorem QXG(h:Ko d (QK d)=[]):Jo d=Ks d 1:=by
 unfold Jo;rw[h,List.filter_eq_self];intro y _;rfl
theorem QiB(h:l∈Ko d (QK d))(hj:j∈VK d l):inJ (Jo d) j=false:=by
 refine QJq λq=>?_;have:=(List.mem_filter.1 q).2;have h2:((Ko d (QK d)).any λl=>inJ (VK d l) j)=true:=List.any_eq_true.2 ⟨l,h,vc.2 hj⟩;rw[h2]at this;cases this
theorem QVz(hd:KB d)(h:Ko d (QK d)=[l]):(Jo d).length+(VK d l).length=(Ks d 1).length:=by
 have hs:Y9 d (QK d) l:=QEH.1 (by rw[h];exact List.mem_singleton.2 rfl)
 have e1:Jo d=(Ks d 1).filter λy=>!inJ (VK d l) y:=by
  unfold Jo;rw[h];congr 1;funext y;rw[List.any_cons,List.any_nil,Bool.or_false]
 have hp:((Ks d 1).filter λy=>inJ (VK d l) y).Perm (VK d l):=by
  rw[List.perm_ext_iff_of_nodup ((QRh d 1).filter _) (QbF hd hs)];intro y;rw[List.mem_filter,vc];exact⟨λq=>q.2,λq=>⟨QK5 hd hs q,q⟩⟩
 have:=QLu (λy=>inJ (VK d l) y) (Ks d 1);rw[e1,<-hp.length_eq];omega
theorem QVV(d:Puz)(h:i<(Jo d).length):inJ ((Jo d).take i) (Jo d)[i]=false:=by
 refine QJq λq=>?_;obtain⟨k,hk,e⟩:=List.mem_take_iff_getElem.1 q;have:=List.pairwise_iff_getElem.1 (Qhv d) k i (by omega) h (by omega)
 exact this e
