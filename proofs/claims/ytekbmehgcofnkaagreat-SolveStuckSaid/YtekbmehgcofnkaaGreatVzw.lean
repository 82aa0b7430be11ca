/- - -/
import Derived.Test.YtekbmehgcofnkaaGreatVzn
import Derived.Test.YtekbmehgcofnkaaGreatVzg
open Go.IntKind (i64)
namespace Go.Proofs.YtekbmehgcofnkaaGreat
open Go Go.SX Go.SX.Told
variable {d:Puz}{E:ECt}{l:List Lay}{c t p a b:Nat}
theorem QQF{A:Int->Lay->Bool}:l∈jG A d E d.ps.n []↔XK d E l/\∀ i (h:i<l.length),A (i:Nat) l[i]=true:=by
 unfold jG;rw[QUl]
 have hk:∀ i (h:i<l.length),(qQ A d E ([]++l.take i) l[i]=true↔YK (l.take i) l[i]=false/\A (i:Nat) l[i]=true/\KA d E (l.take i) l[i]=true):=by
  intro i h;unfold qQ;rw[List.nil_append,qbA,Bool.not_eq_true',qbA,List.length_take,Nat.min_eq_left (by omega)]
 constructor
 .rintro⟨t,h1,h2,h3,_⟩;rw[List.nil_append]at h2;subst h2;rw[QGl]at h3;exact⟨⟨h1,λi h=>⟨(h3 i h).1,((hk i h).1 (h3 i h).2).1,((hk i h).1 (h3 i h).2).2.2⟩⟩,λi h=>((hk i h).1 (h3 i h).2).2.1⟩
 .rintro⟨h,ha⟩;refine⟨l,h.len,rfl,?_,rfl⟩;rw[QGl];exact λi hi=>⟨(h.st i hi).1,(hk i hi).2 ⟨(h.st i hi).2.1,ha i hi,(h.st i hi).2.2⟩⟩
theorem QH5{A:Int->Lay->Bool}:hsV d E A=true↔∃ l,XK d E l/\∀ i (h:i<l.length),A (i:Nat) l[i]=true:=by
 unfold hsV;rw[QHX];cases hs:jG A d E d.ps.n []with
 | nil=>
  constructor
  .intro h;cases h
  .rintro⟨l,h⟩;have:=QQF.2 h;rw[hs]at this;cases this
 | cons l L=>exact⟨λ_=>⟨l,QQF.1 (by rw[hs];exact qmc)⟩,λ_=>rfl⟩
theorem QNg(q:Nat->Bool):(QR q 1 0).isNone = !q 0:=by
 simp only[QR];cases q 0<;>rfl
theorem QLo{p i:Int}{x:Lay}:Qj (VA c p t) i x=true↔((c:Int)=i->x=⟨p,t⟩)/\(x.piece=p->(c:Int)=i):=by
 show(QR (X5 (VA c p t) i x) 1 0).isNone=true↔_;rw[QNg];obtain⟨a,b⟩:=x;unfold X5 VA;simp only[Lay.mk.injEq,Bool.not_eq_true',Bool.or_eq_false_iff,Bool.and_eq_false_iff,Bool.not_eq_false',qbA,beq_iff_eq,beq_eq_false_iff_ne];constructor
 .rintro⟨h1,h2⟩;refine⟨λe=>?_,λe=>?_⟩
  .rcases h1 with h|h
   .exact absurd e h
   .exact⟨h.1.symm,h.2.symm⟩
  .rcases h2 with h|h
   .exact absurd e.symm h
   .exact h
 .rintro⟨h1,h2⟩;refine⟨?_,?_⟩
  .by_cases e:(c:Int)=i
   .exact .inr ⟨(h1 e).1.symm,(h1 e).2.symm⟩
   .exact .inl e
  .by_cases e:a=p
   .exact .inr (h2 e)
   .exact .inl λq=>e q.symm
theorem QPL{p:Int}(hc:c<d.ps.n):hsV d E (Qj (VA c p t))=true↔∃ l,XK d E l/\(l.getD c ⟨0,0⟩:Lay)=⟨p,t⟩:=by
 rw[QH5];constructor
 .rintro⟨l,h,ha⟩;have hcl:c<l.length:=by rw[h.len];exact hc
  exact⟨l,h,by rw[Jb hcl];exact(QLo.1 (ha c hcl)).1 rfl⟩
 .rintro⟨l,h,e⟩;have hcl:c<l.length:=by rw[h.len];exact hc
  rw[Jb hcl]at e;refine⟨l,h,λi hi=>QLo.2 ⟨λq=>?_,λq=>?_⟩⟩
  .have:c=i:=by omega
   subst this;exact e
  .by_cases ci:c=i
   .rw[ci]
   .exact absurd (show l[c].piece=l[i].piece by rw[e,q]) (h.ne hcl hi ci)
theorem Gt:hsV d E (Qj Ja)=true↔Q7 d E≠[]:=by
 rw[QH5];constructor
 .rintro⟨l,h,_⟩ e;have:=Vr.2 h;rw[e]at this;cases this
 .intro h;obtain⟨l,hl⟩:=List.exists_mem_of_ne_nil _ h;exact⟨l,Vr.1 hl,λ_ _=>rfl⟩
theorem XK.every(h:XK d E l)(hp:p<d.ps.n):∃ c,∃ hc:c<l.length,l[c].piece=p:=by
 have hl:=λi hi=>(h.lay (i:=i) hi).p
 have hm:¬ p ∉ l.map λx=>x.piece.toNat:=by
  intro hm
  have hnd:(l.map λx=>x.piece.toNat).Nodup:=by
   unfold List.Nodup;rw[List.pairwise_map,List.pairwise_iff_getElem];intro i j hi hj hij e;have h1:=hl i hi;have h2:=hl j hj;exact h.ne hi hj (by omega) (by omega)
  have:=(List.nodup_cons.2 ⟨hm,hnd⟩).length_le_of_subset (l₂:=List.range d.ps.n) (λx hx=>by
   rcases List.mem_cons.1 hx with rfl|hx
   .exact List.mem_range.2 hp
   .obtain⟨y,hy,rfl⟩:=List.mem_map.1 hx;obtain⟨i,hi,rfl⟩:=List.getElem_of_mem hy;have:=hl i hi;exact List.mem_range.2 (by omega))
  rw[List.length_cons,List.length_map,List.length_range,h.len]at this;omega
 have hm:=Decidable.not_not.1 hm;obtain⟨y,hy,e⟩:=List.mem_map.1 hm;obtain⟨i,hi,rfl⟩:=List.getElem_of_mem hy;have:=hl i hi;exact⟨i,hi,by omega⟩
def Vd(b:Nat->Bool):Nat->Nat
 | 0=>0
 | c+1=>Vd b c ||| cond (b c) (2^c) 0
theorem QIV(b:Nat->Bool):∀ n,Vd b n<2^n
 | 0=>Nat.one_pos
 | c+1=>by
  refine Nat.or_lt_two_pow (Nat.lt_of_lt_of_le (QIV b c) (Nat.pow_le_pow_right (by decide) (Nat.le_succ c))) ?_
  cases b c
  .exact Nat.two_pow_pos _
  .exact Nat.pow_lt_pow_right (by decide) (Nat.lt_succ_self c)
theorem Wh(b:Nat->Bool)(i:Nat):∀ n,(Vd b n).testBit i=(decide (i<n)&&b i)
 | 0=>by simp[Vd]
 | c+1=>by
  rw[Vd,Nat.testBit_or,Wh b i c]
  have e:(cond (b c) (2^c) 0).testBit i=(decide (c=i)&&b c):=by
   cases b c
   .simp
   .simp[Nat.testBit_two_pow]
  rw[e]
  by_cases h:c=i
  .subst h;simp
  .rw[decide_eq_false h]
   by_cases h1:i<c
   .rw[qde h1,qde (show i<c+1 by omega)];simp
   .rw[decide_eq_false h1,decide_eq_false (show ¬ i<c+1 by omega)];simp
theorem Qh3:∀ c<9,∀ X<2^c,Gb (X:Nat) c=true/\QCq (X:Nat) c=((X ||| 2^c:Nat):Int)/\Gb ((X ||| 2^c:Nat):Int) c=false:=by decide +kernel
theorem Qhn{p:Int}{X:Nat}(hc:c<9)(hX:X<2^c):∀ ts:List Nat,ts.foldl (Vq d E p c) (X:Nat)=((X ||| cond (ts.any λt=>hsV d E (Qj (VA c p t))) (2^c) 0:Nat):Int):=by
 obtain⟨h1,h2,h3⟩:=Qh3 c hc X hX
 have set:∀ ts:List Nat,ts.foldl (Vq d E p c) ((X ||| 2^c:Nat):Int)=((X ||| 2^c:Nat):Int):=by
  intro ts
  induction ts with
  | nil=>rfl
  | cons t ts ih=>
   rw[List.foldl_cons,show Vq d E p c ((X ||| 2^c:Nat):Int) t=((X ||| 2^c:Nat):Int) by unfold Vq;rw[h3];rfl,ih]
 intro ts
 induction ts with
 | nil=>simp
 | cons t ts ih=>
  rw[List.foldl_cons,List.any_cons];cases h:hsV d E (Qj (VA c p t))with
  | true=>rw[show Vq d E p c (X:Nat) t=((X ||| 2^c:Nat):Int) by unfold Vq;rw[h1,h,h2];rfl,set];rfl
  | false=>rw[show Vq d E p c (X:Nat) t=(X:Nat) by unfold Vq;rw[h1,h];rfl,ih,Bool.false_or]
def Vk(d:Puz)(E:ECt)(p:Int)(c:Nat):Bool:=(List.range (tnV d p).toNat).any λt=>hsV d E (Qj (VA c p t))
theorem Qb3{p:Int}(hn:d.ps.n<=9):W0 d E p=((Vd (Vk d E p) d.ps.n:Nat):Int):=by
 have:∀ n ≤ 9,(List.range n).foldl (Zq d E p) 0=((Vd (Vk d E p) n:Nat):Int):=by
  intro n
  induction n with
  | zero=>intro _;rfl
  | succ c ih=>
   intro hc;rw[List.range_succ,List.foldl_append,ih (by omega),List.foldl_cons,List.foldl_nil]
   exact Qhn (by omega) (QIV _ _) _
 exact this _ hn
theorem QFR(hc:c<d.ps.n):Vk d E p c=true↔∃ l,XK d E l/\(l.getD c ⟨0,0⟩:Lay).piece=p:=by
 unfold Vk;rw[List.any_eq_true];constructor
 .rintro⟨t,_,h⟩;obtain⟨l,hl,e⟩:=(QPL hc).1 h;exact⟨l,hl,by rw[e]⟩
 .rintro⟨l,hl,e⟩;have hcl:c<l.length:=by rw[hl.len];exact hc
  rw[Jb hcl]at e;obtain⟨p',t,hp,ht,q⟩:=vP.1 (hl.st c hcl).1;rw[q]at e;obtain rfl:p'=p:=by have:(p':Int)=p:=e;omega
  exact⟨t,List.mem_range.2 ht,(QPL hc).2 ⟨l,hl,by rw[Jb hcl,q]⟩⟩
theorem QVZ(ho:d.ok=true)(hs:Q7 d (QH d)≠[])(hp:p<d.ps.n)(hc:c<d.ps.n)(ht:t<Qe d p):QX d (λ_=>⟨c,⟨p,t⟩⟩) 1=(cond (hsV d (QH d) (Qj (VA c p t))) 1 0,0):=by
 obtain⟨hd,hpos,h9⟩:=JW (JU ho);obtain⟨t1,t2⟩:=Yr d p
 have hb:JE d (λ_=>⟨c,⟨p,t⟩⟩) 0=false:=by
  unfold JE J2;show(!(Q1 (c:Int) 0 (i64.wrap ((d.ps.n:Int)-1))&&(Q1 (p:Int) 0 (i64.wrap ((d.ps.n:Int)-1))&&Q1 (t:Int) 0 (i64.wrap (tnV d p-1))))||false)=false
  rw[w64 (n:=(d.ps.n:Int)-1) (by omega) (by omega),w64 (n:=tnV d p-1) (by omega) (by omega)]
  unfold Q1;rw[qde (show(0:Int)<=c/\(c:Int)<=(d.ps.n:Int)-1 by omega),qde (show(0:Int)<=p/\(p:Int)<=(d.ps.n:Int)-1 by omega),qde (show(0:Int)<=t/\(t:Int)<=tnV d p-1 by omega)]
  rfl
 have h1:QR (JE d (λ_=>⟨c,⟨p,t⟩⟩)) 1 0=none:=by
  simp only[QR,hb]
 unfold QX Wf;rw[ho,cond_true,show decide (((1:Nat):Int)>20)=false from rfl,cond_false,h1];show cond (hsV d (QH d) (Qj Ja)) (JF d (QH d) (λ_=>⟨c,⟨p,t⟩⟩) 1,0) (0,4)=_;rw[Gt.2 hs,cond_true]
 have hk:JF d (QH d) (λ_=>⟨c,⟨p,t⟩⟩) 1=cond (hsV d (QH d) (Qj (VA c p t))) 1 0:=by
  have e:VB d (QH d) (λ_=>⟨c,⟨p,t⟩⟩) 0 = !hsV d (QH d) (Qj (VA c p t)):=rfl;unfold JF;cases h:hsV d (QH d) (Qj (VA c p t))with
  | true=>
   rw[h]at e;simp only[QR,e,Bool.not_true];rfl
  | false=>
   rw[h]at e;simp only[QR,e,Bool.not_false];rfl
 rw[hk]
def smV(d:Puz)(p c:Nat):Nat->Bool
 | 0=>false
 | t+1=>smV d p c t||(QX d (λ_=>⟨c,⟨p,t⟩⟩) 1).1==1
theorem QPO{d:Puz}(ho:d.ok=true)(hs:Q7 d (QH d)≠[]){p c:Nat}(hp:p<d.ps.n)(hc:c<d.ps.n):∀ t ≤ Qe d p,smV d p c t=(List.range t).any λt=>hsV d (QH d) (Qj (VA c p t))
 | 0,_=>rfl
 | t+1,ht=>by
  rw[smV,QPO ho hs hp hc t (by omega),QVZ ho hs hp hc (by omega),List.range_succ,List.any_append,List.any_cons,List.any_nil,Bool.or_false]
  congr 1;cases hsV d (QH d) (Qj (VA c p t))<;>rfl
theorem QkN(ho:d.ok=true)(hs:Q7 d (QH d)≠[])(hp:p<d.ps.n)(hc:c<d.ps.n):smV d p c (tnV d p).toNat=Vk d (QH d) p c:=QPO ho hs hp hc _ (qlr _)
def QKJ(cells:Int)(c:Nat):Bool:=i64.wrap (((BitVec.ofInt 64 (cells.fdiv (2^min (c:Int).toNat 64)) &&& BitVec.ofInt 64 1).toNat:Nat):Int)==1
theorem QjK:∀ c<9,∀ X<512,QKJ (X:Nat) c=X.testBit c:=by decide +kernel
def orN(a b:Int):Int:=i64.wrap (((BitVec.ofInt 64 a ||| BitVec.ofInt 64 b).toNat:Nat):Int)
theorem Qhg(ha:a<512)(hb:b<512):orN a b=((a ||| b:Nat):Int):=by
 have hab:a ||| b<2^9:=Nat.or_lt_two_pow ha hb
 unfold orN;rw[BitVec.toNat_or,BitVec.ofInt_natCast,BitVec.ofInt_natCast,BitVec.toNat_ofNat,BitVec.toNat_ofNat,Nat.mod_eq_of_lt (by omega),Nat.mod_eq_of_lt (by omega)]
 exact w64 (by omega) (by omega)
theorem QJH(b:Nat->Bool){n:Nat}(hn:n<=9):Vd b n<512:=Nat.lt_of_lt_of_le (QIV b n) (Nat.pow_le_pow_right (by decide) hn)
theorem QPx(ho:d.ok=true)(hp:p<d.ps.n):Kr d p=cond (Vd (Vk d (QH d) p) d.ps.n==0) (0,4) (((Vd (Vk d (QH d) p) d.ps.n:Nat):Int),0):=by
 obtain⟨hd,hpos,h9⟩:=JW (JU ho);unfold Kr
 rw[ho,cond_true,show Q1 (p:Int) 0 (i64.wrap ((d.ps.n:Int)-1))=true from by
  rw[w64 (n:=(d.ps.n:Int)-1) (by omega) (by omega)];exact qde (by omega),cond_true,Qb3 h9]
 cases Vd (Vk d (QH d) p) d.ps.n<;>rfl
theorem QWW(ho:d.ok=true)(hs:Q7 d (QH d)=[])(hp:p<d.ps.n):Kr d p=(0,4):=by
 have:Vd (Vk d (QH d) p) d.ps.n=0:=by
  refine Nat.eq_of_testBit_eq λi=>?_;rw[Wh,Nat.zero_testBit]
  by_cases hi:i<d.ps.n
  .cases hc:Vk d (QH d) p i with
   | false=>simp
   | true=>
    obtain⟨l,hl,_⟩:=(QFR hi).1 hc;have:=Vr.2 hl;rw[hs]at this;cases this
  .rw[decide_eq_false hi];rfl
 rw[QPx ho hp,this];rfl
theorem QK1(ho:d.ok=true)(hs:Q7 d (QH d)≠[])(hp:p<d.ps.n):Kr d p=(((Vd (Vk d (QH d) p) d.ps.n:Nat):Int),0):=by
 obtain⟨l,hl⟩:=List.exists_mem_of_ne_nil _ hs;have hl:=Vr.1 hl;obtain⟨c,hc,e⟩:=hl.every hp;have hcn:c<d.ps.n:=by rw[<-hl.len];exact hc
 have hb:(Vd (Vk d (QH d) p) d.ps.n).testBit c=true:=by
  rw[Wh,qde hcn,(QFR hcn).2 ⟨l,hl,by rw[Jb hc];exact e⟩];rfl
 rw[QPx ho hp];cases hX:Vd (Vk d (QH d) p) d.ps.n with
 | zero=>rw[hX,Nat.zero_testBit]at hb;cases hb
 | succ k=>rfl
theorem Qf9(ho:d.ok=true)(hs:Q7 d (QH d)≠[])(hp:p<d.ps.n)(hc:c<d.ps.n):QKJ (Kr d p).1 c=Vk d (QH d) p c:=by
 obtain⟨hd,hpos,h9⟩:=JW (JU ho);rw[QK1 ho hs hp,QjK c (by omega) _ (QJH _ h9),Wh,qde hc,Bool.true_and]
def wpA(d:Puz):Nat->Int
 | 0=>0
 | p+1=>orN (wpA d p) (Kr d p).1
theorem QLk{d:Puz}(ho:d.ok=true)(hs:Q7 d (QH d)≠[]):∀ p ≤ d.ps.n,wpA d p=((Vd (λc=>(List.range p).any λq=>Vk d (QH d) (q:Nat) c) d.ps.n:Nat):Int)
 | 0,_=>by
  have:Vd (λc=>(List.range 0).any λq=>Vk d (QH d) (q:Nat) c) d.ps.n=0:=by
   refine Nat.eq_of_testBit_eq λi=>?_;rw[Wh,Nat.zero_testBit];simp
  rw[this];rfl
 | p+1,hp=>by
  obtain⟨hd,hpos,h9⟩:=JW (JU ho);rw[wpA,QLk ho hs p (by omega),QK1 ho hs hp,Qhg (QJH _ h9) (QJH _ h9)]
  congr 1;refine Nat.eq_of_testBit_eq λi=>?_;rw[Nat.testBit_or,Wh,Wh,Wh,List.range_succ,List.any_append];cases decide (i<d.ps.n)<;>simp
theorem Qaw(ho:d.ok=true)(hs:Q7 d (QH d)≠[]):wpA d d.ps.n=((2^d.ps.n-1:Nat):Int):=by
 obtain⟨l,hl⟩:=List.exists_mem_of_ne_nil _ hs;have hl:=Vr.1 hl;rw[QLk ho hs _ (qlr _)];congr 1;refine Nat.eq_of_testBit_eq λc=>?_;rw[Wh,Nat.testBit_two_pow_sub_one]
 by_cases hc:c<d.ps.n
 .rw[qde hc,Bool.true_and,List.any_eq_true];have hcl:c<l.length:=by rw[hl.len];exact hc
  obtain⟨p,t,hp,_,e⟩:=vP.1 (hl.st c hcl).1;exact⟨p,List.mem_range.2 hp,(QFR hc).2 ⟨l,hl,by rw[Jb hcl,e]⟩⟩
 .rw[decide_eq_false hc];rfl
theorem QYn:∀ n:Nat,n<10->i64.wrap (i64.wrap (1*2^min (n:Int).toNat 64)-1)=((2^n-1:Nat):Int):=by decide +kernel
theorem Qb4{x:List Lay}(hs:Q7 d (QH d)=[x])(hc:c<d.ps.n):Vk d (QH d) p c=((x.getD c ⟨0,0⟩:Lay).piece==p):=by
 have hx:XK d (QH d) x:=Vr.1 (by rw[hs];exact qmc)
 rw[Bool.eq_iff_iff,QFR hc,beq_iff_eq];constructor
 .rintro⟨l,hl,e⟩;have:=Vr.2 hl;rw[hs]at this;obtain rfl:=List.mem_singleton.1 this;exact e
 .exact λe=>⟨x,hx,e⟩
theorem QYV{a b:Int}{x y:Lay}(h:(swS a b x).piece=(swS a b y).piece):x.piece=y.piece:=by
 have key:∀ y:Lay,(swS a b y).piece=if y.piece=a then b else if y.piece=b then a else y.piece:=λy=>by
  unfold swS
  by_cases h1:y.piece=a
  .rw[if_pos h1,beq_iff_eq.2 h1];rfl
  .rw[if_neg h1,beq_eq_false_iff_ne.2 h1]
   by_cases h2:y.piece=b
   .rw[if_pos h2,beq_iff_eq.2 h2];rfl
   .rw[if_neg h2,beq_eq_false_iff_ne.2 h2];rfl
 rw[key,key]at h
 repeat' split at h
 all_goals omega
theorem QhK(ho:d.ok=true)(hl:XK d (QH d) l)(ha:a<d.ps.n)(hb:b<d.ps.n)(h:V9 d (QH d) (l.map (swS a b))=true):XK d (QH d) (l.map (swS a b)):=by
 have hlen:(l.map (swS a b)).length=d.ps.n:=by rw[List.length_map,hl.len]
 refine⟨hlen,λi hi=>?_⟩;have hil:i<l.length:=by rw[List.length_map]at hi;exact hi
 have hbad:Xi d (QH d) (l.map (swS a b)) i=false:=vv (Option.isNone_iff_eq_none.1 h) i (Nat.zero_le _) (by omega)
 unfold Xi at hbad;rw[Jb hi,Bool.or_eq_false_iff]at hbad;obtain⟨hb1,hb2⟩:=hbad;have hb1:=qdf hb1;obtain⟨p,t,hp,ht,e⟩:=vP.1 (hl.st i hil).1;refine⟨?_,?_,by simpa using hb2⟩
 .have ei:(l.map (swS a b))[i]=swS a b ⟨p,t⟩:=by rw[List.getElem_map,e]
  rw[ei]at hb1 ⊢
  have key:∃ q:Nat,q<d.ps.n/\swS a b ⟨p,t⟩=⟨q,t⟩:=by
   unfold swS;cases h1:(p:Int)==a
   .cases h2:(p:Int)==b
    .exact⟨p,hp,rfl⟩
    .exact⟨a,ha,rfl⟩
   .exact⟨b,hb,rfl⟩
  obtain⟨q,hq,eq⟩:=key;rw[eq]at hb1 ⊢;refine vP.2 ⟨q,t,hq,?_,rfl⟩;have:=(Yr d q).1;have hb1:¬ ((t:Int)≥tnV d q):=hb1;omega
 .cases hu:YK ((l.map (swS a b)).take i) (l.map (swS a b))[i]with
  | false=>rfl
  | true=>
   unfold YK at hu;obtain⟨y,hy,e⟩:=List.any_eq_true.1 hu;obtain⟨k,hk,rfl⟩:=List.mem_take_iff_getElem.1 hy;have hkl:k<l.length:=by rw[List.length_map]at hk;omega
   have e:=beq_iff_eq.1 e;rw[List.getElem_map,List.getElem_map]at e;exact absurd (QYV e) (hl.ne hkl hil (by omega))
theorem Qdl(ho:d.ok=true)(h:(Q7 d (QH d)).length<=1)(hab:a<b)(hb:b<d.ps.n):twB d (QH d) a b=false:=by
 cases hq:twB d (QH d) a b with
 | false=>rfl
 | true=>
  unfold twB at hq;obtain⟨l,hl,hm⟩:=List.any_eq_true.1 hq;have hs:=Vr.1 hl;have h2:=Vr.2 (QhK ho hs (a:=b) (b:=a) hb (by omega) hm)
  have e:l.map (swS b a)=l:=by
   cases hL:Q7 d (QH d)with
   | nil=>rw[hL]at hl;cases hl
   | cons x L=>
    rw[hL]at hl h2 h;obtain rfl:L=[]:=List.eq_nil_of_length_eq_zero (by rw[List.length_cons]at h;omega)
    rw[List.mem_singleton.1 h2,List.mem_singleton.1 hl]
  obtain⟨c,hc,ec⟩:=hs.every hb;have e1:(l.map (swS b a))[c]'(by rw[List.length_map];exact hc)=swS b a l[c]:=List.getElem_map ..
  simp only[e]at e1
  have e2:(swS b a l[c]).piece=a:=by
   unfold swS;rw[ec,beq_self_eq_true,cond_true]
  rw[<-e1,ec]at e2;omega
theorem QQD(ho:d.ok=true)(h:(Q7 d (QH d)).length<=1):JC d=([],0):=by
 have:XJ d (QH d)=[]:=by
  cases ht:XJ d (QH d)with
  | nil=>rfl
  | cons x L=>
   obtain⟨a,b,h1,h2,h3,_⟩:=QSy.1 (show x∈XJ d (QH d) by rw[ht];exact qmc)
   rw[Qdl ho h h1 h2]at h3;cases h3
 unfold JC;rw[ho,cond_true,this,show Jy []=[]from List.eq_nil_of_length_eq_zero (by rw[QJS];rfl)]
