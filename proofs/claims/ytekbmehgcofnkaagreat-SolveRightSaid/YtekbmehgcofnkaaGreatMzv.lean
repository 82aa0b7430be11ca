/- - -/
import Derived.Test.YtekbmehgcofnkaaGreatMzo
import Derived.Test.YtekbmehgcofnkaaGreatMp
import Derived.Test.YtekbmehgcofnkaaGreatMx
open Go.Proofs.Tryz
open Go.IntKind (i64)
set_option maxRecDepth 100000
namespace Go.Proofs.YtekbmehgcofnkaaGreat
open Go.SX
structure QQ7 where
 off:Sp
 wide:Sp
 deep:Sp
instance : Enc QQ7 where
  enc x := .agg [.int false .i64 x.off.lo,.int false .i64 x.off.hi,.int false .i64 x.wide.lo,.int false .i64 x.wide.hi,.int false .i64 x.deep.lo,.int false .i64 x.deep.hi]
  dec | .agg [.int _ .i64 a0,.int _ .i64 a1,.int _ .i64 a2,.int _ .i64 a3,.int _ .i64 a4,.int _ .i64 a5] => some ⟨⟨a0,a1⟩,⟨a2,a3⟩,⟨a4,a5⟩⟩ | _ => none
  ok v x h := by
    split at h <;> (try (cases h; done))
    simp only[qsI]at h; subst h; exact⟨λ_=>rfl,rfl⟩
theorem QZ6{p:Qy}{t h:Edge}(hB:Q8.B ⟨p,t,h⟩):((-100000<=(Qo p t h).lo/\(Qo p t h).lo<=100000) /\ -100000<=(Qo p t h).hi/\(Qo p t h).hi<=100000)/\((-100000<=(Qn t h).lo/\(Qn t h).lo<=100000) /\ -100000<=(Qn t h).hi/\(Qn t h).hi<=100000) /\
  ((-100000<=(Qm t h).lo/\(Qm t h).lo<=100000) /\ -100000<=(Qm t h).hi/\(Qm t h).hi<=100000)/\(0<=p.dK.lo/\p.dK.lo<=100)/\0<=p.dK.hi/\p.dK.hi<=100:=by
 obtain⟨h1,h2,h3⟩:=hB;unfold VL at h1;unfold VH at h2 h3;simp only[Qo,Qn,Qm]at *;omega
def V6(s:Sp)(lo hi:Int)(d:Sp):Bool:=decide ((-100000<=s.lo/\s.lo<=100000)/\(-100000<=s.hi/\s.hi<=100000)/\(-500<=lo/\lo<=500)/\(-500<=hi/\hi<=500)/\0<=d.hi/\d.hi<=100)
def QR4:Qy×Edge×Edge×Unit->Bool×AV:=λ|(p,(t,(h,_)))=>(decide (Q8.B ⟨p,t,h⟩),Enc.enc (⟨Qo p t h,Qn t h,Qm t h⟩:QQ7))
def QLY:FC:=Kj (Kl QR4)
theorem QYz(p:Qy)(t:Edge)(h:Edge):KR (mkE prog Jp) (hnd (mkE prog Jp) 0) false f170 (KG.enc ((p,t,h,()):Qy×Edge×Edge×Unit)) [] 0=QC.leaf (AV.agg [vi (i64.wrap (i64.wrap (t.at_.lo+h.at_.lo)-p.length)),vi (i64.wrap (i64.wrap (t.at_.hi+h.at_.hi)-p.length)),vi (i64.wrap (h.wide.lo-t.wide.hi)),vi (i64.wrap (h.wide.hi-t.wide.lo)),vi (i64.wrap (h.deep.lo-t.deep.hi)),vi (i64.wrap (h.deep.hi-t.deep.lo))]) ([]):=by kernel_rfl
theorem QXq:QR prog 170 QLY:=by
 refine K0 ZN 0 func170 (by kernel_rfl) (by kernel_rfl) ?_
 rintro⟨p,t,h,⟨⟩⟩ hp;rw[QYz p t h];simp only[QR4,QC.den,AV.same,AV.sameL,and_true,true_and]at hp ⊢;have hq:=qdt hp;obtain⟨h1,h2,h3⟩:=hq;unfold VL at h1;unfold VH at h2 h3;simp only at h1 h2 h3;simp only[Enc.enc,AV.same,AV.sameL,true_and,and_true,Qo,Qn,Qm];rw[w64 (n:=t.at_.lo+h.at_.lo) (by omega) (by omega),w64 (n:=t.at_.hi+h.at_.hi) (by omega) (by omega)]
 rw[w64 (by omega) (by omega),w64 (by omega) (by omega),w64 (by omega) (by omega),w64 (by omega) (by omega),w64 (by omega) (by omega),w64 (by omega) (by omega)]
 refine⟨?_,?_,?_,?_,?_,?_⟩<;>omega
def QDe:Tab:=Qa Jp 170 QLY
theorem QPQ:Qc QDe:=ZN.add QXq
def QOg:Sp×Int×Int×Sp×Unit->Bool×AV:=λ|(s,(lo,(hi,(d,_))))=>(V6 s lo hi d,.bool false (Kw s.lo s.hi lo hi d.hi))
def QLM:FC:=Kj (Kl QOg)
theorem Qih(s:Sp)(lo:Int)(hi:Int)(d:Sp):KR (mkE prog QDe) (hnd (mkE prog QDe) 0) false f171 (KG.enc ((s,lo,hi,d,()):Sp×Int×Int×Sp×Unit)) [] 0=QC.br (decide (i64.wrap (s.lo*i64.wrap ((1000:Int)+d.hi))≥i64.wrap ((1000:Int)*lo))) (QC.leaf (AV.bool false (decide (i64.wrap (s.hi*i64.wrap ((1000:Int)+d.hi))<=i64.wrap ((1000:Int)*hi)))) ([])) (QC.leaf (AV.bool true false) ([])):=by kernel_rfl
theorem QfJ:QR prog 171 QLM:=by
 refine K0 QPQ 0 func171 (by kernel_rfl) (by kernel_rfl) ?_
 rintro⟨s,lo,hi,d,⟨⟩⟩ hp;rw[Qih s lo hi d];simp only[QOg,QC.den,AV.same,AV.sameL,and_true,true_and]at hp ⊢;have hq:=qdt hp;obtain⟨h1,h2,h3,h4,h5⟩:=hq;exact QAh h1 h2 h3 h4 h5
def ZC:Tab:=Qa QDe 171 QLM
theorem HL:Qc ZC:=QPQ.add QfJ
structure KY where
 s:Sp
 d:Sp
 lo:Int
 hi:Int
 n:Int
def KY.I(x:KY):JSt:=⟨40,[(1,vi x.lo),(2,vi x.hi),(4,.ptr 0 0 0),(7,.ptr 8 0 0),(9,vi x.n)],[(8,.cells 0 23 (Enc.enc x.d).cells),(0,.cells 0 23 (Enc.enc x.s).cells)],56⟩
def KY.pre(x:KY):Prop:=(-100000<=x.s.lo/\x.s.lo<=100000)/\(-100000<=x.s.hi/\x.s.hi<=100000)/\(-500<=x.lo/\x.lo<=0)/\(0<=x.hi/\x.hi<=500)/\(0<=x.d.lo/\x.d.lo<=100) /\ -100000<=x.n/\x.n<=100001
def KY.good(x:KY)(n:Int):Prop:=n<=min x.s.hi x.hi/\1000*x.lo<=n*(1000+x.d.lo)/\n*(1000+x.d.lo)<=1000*x.hi
def KY.yes(x:KY):Prop:=∃ n,x.n<=n/\x.good n
def QBu(x:KY)(e:Ex)(J:JSt):Prop:=(e = .ret/\J=⟨40,[(8,.bool true true)],[],0⟩/\x.yes)∨(e = .exit 0/\J=⟨40,[],[],0⟩/\¬ x.yes)
def QFC:Ex->List Nat
 | .normal=>[1,2,4,7,9]
 | .ret=>[8]
 | .exit _=>[]
def KY.mu(x:KY):Nat:=(min x.s.hi x.hi+1-x.n).toNat
def KY.next(x:KY):KY:={ x with n:=x.n+1 }
def QE1(x:KY):QC := .leaf (.tup [.nilp,.ptr 40 0 0,vi x.lo,vi x.hi,.ptr 0 0 0,.ptr 8 0 0,vi (i64.wrap (x.n+1))]) [(8,.cells 0 23 (Enc.enc x.d).cells),(0,.cells 0 23 (Enc.enc x.s).cells)]
theorem QaT(x:KY)(g:Nat->Value):exec (mkE prog ZC) (hnd (mkE prog ZC) 0) (QH f172 0) (JSt.inst x.I g) (QCr QFC) =
  .br (decide (x.n <= min x.s.hi x.hi))
    (.br (decide (i64.wrap (x.n * i64.wrap (1000 + x.d.lo)) ≥ i64.wrap (1000 * x.lo)))
      (.br (decide (i64.wrap (x.n * i64.wrap (1000 + x.d.lo)) <= i64.wrap (1000 * x.hi)))
        (.leaf (.tup [.nili,.ptr 40 0 0,.bool true true]) [(8,.cells 0 23 (Enc.enc x.d).cells),(0,.cells 0 23 (Enc.enc x.s).cells)])
        (QE1 x)) (QE1 x))
    (.leaf (.tup [.ptr 0 0 0,.ptr 40 0 0]) [(8,.cells 0 23 (Enc.enc x.d).cells),(0,.cells 0 23 (Enc.enc x.s).cells)]) := by kernel_rfl
theorem QUJ{x:KY}(h:x.pre):i64.wrap (x.n*i64.wrap (1000+x.d.lo))=x.n*(1000+x.d.lo)/\i64.wrap (1000*x.lo)=1000*x.lo/\i64.wrap (1000*x.hi)=1000*x.hi/\i64.wrap (x.n+1)=x.n+1:=by
 obtain⟨h1,h2,h3,h4,h5,h6,h7⟩:=h;have e:i64.wrap (1000+x.d.lo)=1000+x.d.lo:=w64 (by omega) (by omega)
 have m:=Int.mul_le_mul_of_nonneg_right h6 (show 0<=1000+x.d.lo by omega)
 have m':=Int.mul_le_mul_of_nonneg_right h7 (show 0<=1000+x.d.lo by omega)
 rw[e];exact⟨w64 (by omega) (by omega),w64 (by omega) (by omega),w64 (by omega) (by omega),w64 (by omega) (by omega)⟩
theorem QPy{x:KY}(hp:x.pre)(hn:x.n<=min x.s.hi x.hi)(hb:¬ (1000*x.lo<=x.n*(1000+x.d.lo)/\x.n*(1000+x.d.lo)<=1000*x.hi)):(QE1 x).den (WE (QQj KY.I KY.pre KY.mu QBu 0 QFC x) (Go.SX.Leaves QBu 0 QFC x)):=by
 unfold QE1;rw[(QUJ hp).2.2.2];refine⟨x.next,λi=>i,?_,?_,?_,?_⟩
 .obtain⟨h1,h2,h3,h4,h5,h6,h7⟩:=hp;refine⟨h1,h2,h3,h4,h5,?_,?_⟩<;>simp only[KY.next]<;>omega
 .simp only[KY.mu,KY.next];omega
 .intro e J hR
  have hy:x.next.yes↔x.yes:=by
   constructor
   .rintro⟨n,h1,h2⟩;simp only[KY.next]at h1;exact⟨n,by omega,h2⟩
   .rintro⟨n,h1,h2⟩;rcases(show n=x.n∨x.n+1<=n by omega)with rfl|h3
    .exact absurd h2.2 hb
    .exact⟨n,h3,h2⟩
  unfold QBu at *;rw[hy]at hR;exact hR
 .refine V7.same rfl rfl ?_ ?_ rfl rfl
  .exact⟨⟨rfl,rfl⟩,⟨rfl,rfl⟩,⟨rfl,rfl,rfl⟩,⟨rfl,rfl,rfl⟩,⟨rfl,rfl⟩,trivial⟩
  .exact⟨⟨_,rfl,rfl,rfl,⟨rfl,rfl⟩,⟨rfl,rfl⟩,trivial⟩,⟨_,rfl,rfl,rfl,⟨rfl,rfl⟩,⟨rfl,rfl⟩,trivial⟩,trivial⟩
theorem QX7:QJ3 KY.I KY.pre KY.mu QBu 0 QFC (mkE prog ZC) (hnd (mkE prog ZC) 0) (QH f172 0):=by
 intro x g hp;rw[QaT];obtain⟨e1,e2,e3,_⟩:=QUJ hp;simp only[QC.den,e1,e2,e3,qdE,decide_eq_false_iff_not];refine⟨λhn=>⟨λh1=>⟨λh2=>?_,λh2=>?_⟩,λh1=>?_⟩,λhn=>?_⟩
 .exact⟨⟨40,[(8,.bool true true)],[],0⟩,λi=>i,.inl ⟨rfl,rfl,x.n,Int.le_refl _,hn,h1,h2⟩,V7.same rfl rfl ⟨rfl,trivial⟩ trivial rfl rfl⟩
 .exact QPy hp hn (λh=>h2 h.2)
 .exact QPy hp hn (λh=>h1 h.1)
 .refine⟨⟨40,[],[],0⟩,λi=>i,.inr ⟨rfl,rfl,?_⟩,V7.same rfl rfl trivial trivial rfl rfl⟩;rintro⟨n,h1,h2,_⟩;omega
instance (x : KY) : Decidable x.pre := by unfold KY.pre; infer_instance
def ZB:Code->St->(Ex->St->QC)->QC:=λ_ st K=>match st.tm.length==40&&Vc st.hp,QI st.tm 1,QI st.tm 2,QI st.tm 4,QI st.tm 7,QI st.tm 9,Go.SX.look st.hp 8,Go.SX.look st.hp 0 with
 | true,.int _ .i64 lo,.int _ .i64 hi,.ptr 0 0 0,.ptr 8 0 0,.int _ .i64 n,some (.cells 0 23 [.int _ .i64 dlo,.int _ .i64 dhi]),some (.cells 0 23 [.int _ .i64 slo,.int _ .i64 shi])=>
  .need (decide (KY.pre ⟨⟨slo,shi⟩,⟨dlo,dhi⟩,lo,hi,n⟩)) (.both (.asm (KY.yes ⟨⟨slo,shi⟩,⟨dlo,dhi⟩,lo,hi,n⟩) (.all λg=>K .ret (JSt.inst ⟨40,[(8,.bool true true)],[],0⟩ g)))
   (.asm (¬ KY.yes ⟨⟨slo,shi⟩,⟨dlo,dhi⟩,lo,hi,n⟩) (.all λg=>K (.exit 0) (JSt.inst ⟨40,[],[],0⟩ g))))
 | _, _, _, _, _, _, _, _ => .fail "some"
theorem QfS(body:Code)(st:St)(K:Ex->St->QC)(T:AV->List (Nat×Blk)->Prop)(h:(ZB body st K).den T):∃ s q ls',KY.pre s/\V7 0 q ls' st.tm.length (ls'.map (QI st.tm)) st.hp (KY.I s)/\∀ e J g,QBu s e J->(K e (J.inst g)).den T:=by
 unfold ZB at h;split at h<;>(try (exact h.elim))
 rename_i k1 lo k2 hi k9 n kd dlo ke dhi ks slo kt shi c1 e1 e2 e4 e7 e9 h8 h0;simp only[QC.den,qdE]at h;rw[qbA]at c1;refine⟨⟨⟨slo,shi⟩,⟨dlo,dhi⟩,lo,hi,n⟩,λi=>i,[1,2,4,7,9],h.1,V7.same rfl ?_ ?_ ?_ rfl rfl ?_,?_⟩
 .exact beq_iff_eq.1 c1.1
 .simp only[List.map_cons,List.map_nil, *];exact⟨⟨rfl,rfl⟩,⟨rfl,rfl⟩,⟨rfl,rfl,rfl⟩,⟨rfl,rfl,rfl⟩,⟨rfl,rfl⟩,trivial⟩
 .exact⟨⟨_,h8,rfl,rfl,⟨rfl,rfl⟩,⟨rfl,rfl⟩,trivial⟩,⟨_,h0,rfl,rfl,⟨rfl,rfl⟩,⟨rfl,rfl⟩,trivial⟩,trivial⟩
 .exact c1.2
 .rintro e J g (⟨rfl,rfl,hy⟩|⟨rfl,rfl,hy⟩)
  .exact h.2.1 hy g
  .exact h.2.2 hy g
theorem QWz(G:Ctx)(hG:G.n=0)(hrd:G.rd=none):Qw (mkE prog ZC) G { hnd (mkE prog ZC) 0 with loop:=ZB } (Qk f172):=
 ⟨λb hb=>by
  have e:K5 (Qk f172)=[.loop (QH f172 0)]:=by kernel_rfl
  rw[e,List.mem_singleton]at hb;subst hb;exact Qh4 (QO HL) (by omega) (Qv (QO HL) 0 G _ hrd) (λ_=>Nat.zero_le _) QX7 (λst K T h=>QfS (QH f172 0) st K T h),(Qv (QO HL) 0 G (Qk f172) hrd).call,(Qv (QO HL) 0 G (Qk f172) hrd).yield⟩
def K2(s:Sp)(lo hi:Int)(d:Sp):Bool:=decide (s.lo<=s.hi/\(-100000<=s.lo/\s.lo<=100000)/\(-100000<=s.hi/\s.hi<=100000)/\(-500<=lo/\lo<=0)/\(0<=hi/\hi<=500)/\0<=d.lo/\d.lo<=100)
def QOS:Sp×Int×Int×Sp×Unit->Bool×AV:=λ|(s,(lo,(hi,(d,_))))=>(K2 s lo hi d,.bool false (Q2 s.lo s.hi lo hi d.lo))
def QSx:FC:=Kj (Kl QOS)
theorem QZI(s:Sp)(lo:Int)(hi:Int)(d:Sp):KR (mkE prog ZC) { hnd (mkE prog ZC) 0 with loop:=ZB } false f172 (KG.enc ((s,lo,hi,d,()):Sp×Int×Int×Sp×Unit)) [] 0=QC.need (decide (KY.mk s d lo hi (max s.lo lo)).pre) (QC.both (QC.asm ((KY.mk s d lo hi (max s.lo lo)).yes) (QC.all (λ(g0:Nat->Value)=>QC.leaf (AV.bool true true) ([])))) (QC.asm (¬(KY.mk s d lo hi (max s.lo lo)).yes) (QC.all (λ(g1:Nat->Value)=>QC.leaf (AV.bool true false) ([]))))):=by kernel_rfl
theorem QYI:QR prog 172 QSx:=by
 refine QJK (QO HL) func172 (by kernel_rfl) (by kernel_rfl) QWz ?_
 rintro⟨s,lo,hi,d,⟨⟩⟩ hp;rw[QZI s lo hi d];simp only[QOS,QC.den,AV.same,AV.sameL,and_true,true_and]at hp ⊢;have hq:=qdt hp;obtain⟨h0,h1,h2,h3,h4,h5⟩:=hq;unfold KY.yes KY.good;refine⟨qde ⟨h1,h2,h3,h4,h5,?_,?_⟩,?_,?_⟩
 .show -100000<=max s.lo lo;omega
 .show max s.lo lo<=100001;omega
 .rintro⟨n,g1,g2,g3,g4⟩ _
  dsimp only at g1 g2 g3 g4
  exact(QgQ (n:=n) (by omega) (by omega) (by omega) (by omega) (by omega) g3 g4).symm
 .intro hn _
  dsimp only at hn
  refine(Qca (by omega) (by omega) (by omega) h0 λn g1 g2 g3=>hn ⟨n,g1,g2,g3⟩).symm
def QC9:Tab:=Qa ZC 172 QSx
theorem QSf:Qc QC9:=HL.add QYI
theorem QUg{p:Qy}{t h:Edge}(h1:p.ok=true)(h2:t.ok=true)(h3:h.ok=true)(ht:t.kind=1)(hh:h.kind=2):(Q8.B ⟨p,t,h⟩/\i64.wrap (0-p.aK) = -p.aK)/\(V6 (Qo p t h) (-p.aK) p.aK p.dK=true/\V6 (Qn t h) 0 p.oK p.dK=true/\V6 (Qm t h) 0 p.oK p.dK=true) /\
  K2 (Qo p t h) (-p.aK) p.aK p.dK=true/\K2 (Qn t h) 0 p.oK p.dK=true/\K2 (Qm t h) 0 p.oK p.dK=true:=by
 have hB:=QF7 h1 h2 h3 ht hh;have hb:=QZ6 hB;have h1':=hB.1;unfold VL at h1'
 have s2:(t.at_.lo<=t.at_.hi/\t.wide.lo<=t.wide.hi/\t.deep.lo<=t.deep.hi):=by
  unfold Edge.ok Sp.isIn at h2;simp[ht]at h2;omega
 have s3:(h.at_.lo<=h.at_.hi/\h.wide.lo<=h.wide.hi/\h.deep.lo<=h.deep.hi):=by
  unfold Edge.ok Sp.isIn at h3;simp[hh]at h3;omega
 obtain⟨o1,o2,o3,o4⟩:=hb;simp only at h1';have n1:(Qo p t h).lo<=(Qo p t h).hi:=by simp only[Qo];omega
 have n2:(Qn t h).lo<=(Qn t h).hi:=by simp only[Qn];omega
 have n3:(Qm t h).lo<=(Qm t h).hi:=by simp only[Qm];omega
 unfold V6 K2;refine⟨⟨hB,?_⟩,⟨qde ?_,qde ?_,qde ?_⟩,qde ?_,qde ?_,qde ?_⟩
 .rw[w64 (by omega) (by omega)];omega
 all_goals omega
def QUX:Qy×Edge×Edge×Unit->Bool×AV:=λ|(p,(a,(b,_)))=>(okP p a b,.int false .i64 (XU p a b))
def QL8:FC:=Kj (Kl QUX)
theorem QZc(p:Qy)(a:Edge)(b:Edge):KR (mkE prog QC9) (hnd (mkE prog QC9) 4) false f155 (KG.enc ((p,a,b,()):Qy×Edge×Edge×Unit)) [] 0 = .br (a.kind==1) (.br (b.kind==2) (.need (decide (Q8.mk p a b).B) (.need (V6 (Qo p a b) (i64.wrap ((0:Int)-p.aK)) p.aK p.dK) (.br (Kw (Qo p a b).lo (Qo p a b).hi (i64.wrap ((0:Int)-p.aK)) p.aK p.dK.hi) (.need (V6 (Qn a b) (0:Int) p.oK p.dK) (.br (Kw (Qn a b).lo (Qn a b).hi (0:Int) p.oK p.dK.hi) (.need (V6 (Qm a b) (0:Int) p.oK p.dK) (.br (Kw (Qm a b).lo (Qm a b).hi (0:Int) p.oK p.dK.hi) (.leaf (vj 2) ([])) (.need (K2 (Qo p a b) (i64.wrap ((0:Int)-p.aK)) p.aK p.dK) (.br (Q2 (Qo p a b).lo (Qo p a b).hi (i64.wrap ((0:Int)-p.aK)) p.aK p.dK.lo) (.need (K2 (Qn a b) (0:Int) p.oK p.dK) (.br (Q2 (Qn a b).lo (Qn a b).hi (0:Int) p.oK p.dK.lo) (.need (K2 (Qm a b) (0:Int) p.oK p.dK) (.br (Q2 (Qm a b).lo (Qm a b).hi (0:Int) p.oK p.dK.lo) (.leaf (vj 1) ([])) (.leaf (vj 0) ([])))) (.leaf (vj 0) ([])))) (.leaf (vj 0) ([])))))) (.need (K2 (Qo p a b) (i64.wrap ((0:Int)-p.aK)) p.aK p.dK) (.br (Q2 (Qo p a b).lo (Qo p a b).hi (i64.wrap ((0:Int)-p.aK)) p.aK p.dK.lo) (.need (K2 (Qn a b) (0:Int) p.oK p.dK) (.br (Q2 (Qn a b).lo (Qn a b).hi (0:Int) p.oK p.dK.lo) (.need (K2 (Qm a b) (0:Int) p.oK p.dK) (.br (Q2 (Qm a b).lo (Qm a b).hi (0:Int) p.oK p.dK.lo) (.leaf (vj 1) ([])) (.leaf (vj 0) ([])))) (.leaf (vj 0) ([])))) (.leaf (vj 0) ([])))))) (.need (K2 (Qo p a b) (i64.wrap ((0:Int)-p.aK)) p.aK p.dK) (.br (Q2 (Qo p a b).lo (Qo p a b).hi (i64.wrap ((0:Int)-p.aK)) p.aK p.dK.lo) (.need (K2 (Qn a b) (0:Int) p.oK p.dK) (.br (Q2 (Qn a b).lo (Qn a b).hi (0:Int) p.oK p.dK.lo) (.need (K2 (Qm a b) (0:Int) p.oK p.dK) (.br (Q2 (Qm a b).lo (Qm a b).hi (0:Int) p.oK p.dK.lo) (.leaf (vj 1) ([])) (.leaf (vj 0) ([])))) (.leaf (vj 0) ([])))) (.leaf (vj 0) ([]))))))) (.br (b.kind==1) (.br (a.kind==2) (.need (decide (Q8.mk p b a).B) (.need (V6 (Qo p b a) (i64.wrap ((0:Int)-p.aK)) p.aK p.dK) (.br (Kw (Qo p b a).lo (Qo p b a).hi (i64.wrap ((0:Int)-p.aK)) p.aK p.dK.hi) (.need (V6 (Qn b a) (0:Int) p.oK p.dK) (.br (Kw (Qn b a).lo (Qn b a).hi (0:Int) p.oK p.dK.hi) (.need (V6 (Qm b a) (0:Int) p.oK p.dK) (.br (Kw (Qm b a).lo (Qm b a).hi (0:Int) p.oK p.dK.hi) (.leaf (vj 2) ([])) (.need (K2 (Qo p b a) (i64.wrap ((0:Int)-p.aK)) p.aK p.dK) (.br (Q2 (Qo p b a).lo (Qo p b a).hi (i64.wrap ((0:Int)-p.aK)) p.aK p.dK.lo) (.need (K2 (Qn b a) (0:Int) p.oK p.dK) (.br (Q2 (Qn b a).lo (Qn b a).hi (0:Int) p.oK p.dK.lo) (.need (K2 (Qm b a) (0:Int) p.oK p.dK) (.br (Q2 (Qm b a).lo (Qm b a).hi (0:Int) p.oK p.dK.lo) (.leaf (vj 1) ([])) (.leaf (vj 0) ([])))) (.leaf (vj 0) ([])))) (.leaf (vj 0) ([])))))) (.need (K2 (Qo p b a) (i64.wrap ((0:Int)-p.aK)) p.aK p.dK) (.br (Q2 (Qo p b a).lo (Qo p b a).hi (i64.wrap ((0:Int)-p.aK)) p.aK p.dK.lo) (.need (K2 (Qn b a) (0:Int) p.oK p.dK) (.br (Q2 (Qn b a).lo (Qn b a).hi (0:Int) p.oK p.dK.lo) (.need (K2 (Qm b a) (0:Int) p.oK p.dK) (.br (Q2 (Qm b a).lo (Qm b a).hi (0:Int) p.oK p.dK.lo) (.leaf (vj 1) ([])) (.leaf (vj 0) ([])))) (.leaf (vj 0) ([])))) (.leaf (vj 0) ([])))))) (.need (K2 (Qo p b a) (i64.wrap ((0:Int)-p.aK)) p.aK p.dK) (.br (Q2 (Qo p b a).lo (Qo p b a).hi (i64.wrap ((0:Int)-p.aK)) p.aK p.dK.lo) (.need (K2 (Qn b a) (0:Int) p.oK p.dK) (.br (Q2 (Qn b a).lo (Qn b a).hi (0:Int) p.oK p.dK.lo) (.need (K2 (Qm b a) (0:Int) p.oK p.dK) (.br (Q2 (Qm b a).lo (Qm b a).hi (0:Int) p.oK p.dK.lo) (.leaf (vj 1) ([])) (.leaf (vj 0) ([])))) (.leaf (vj 0) ([])))) (.leaf (vj 0) ([]))))))) (.leaf (vj 0) ([]))) (.leaf (vj 0) ([])))) (.br (b.kind==1) (.br (a.kind==2) (.need (decide (Q8.mk p b a).B) (.need (V6 (Qo p b a) (i64.wrap ((0:Int)-p.aK)) p.aK p.dK) (.br (Kw (Qo p b a).lo (Qo p b a).hi (i64.wrap ((0:Int)-p.aK)) p.aK p.dK.hi) (.need (V6 (Qn b a) (0:Int) p.oK p.dK) (.br (Kw (Qn b a).lo (Qn b a).hi (0:Int) p.oK p.dK.hi) (.need (V6 (Qm b a) (0:Int) p.oK p.dK) (.br (Kw (Qm b a).lo (Qm b a).hi (0:Int) p.oK p.dK.hi) (.leaf (vj 2) ([])) (.need (K2 (Qo p b a) (i64.wrap ((0:Int)-p.aK)) p.aK p.dK) (.br (Q2 (Qo p b a).lo (Qo p b a).hi (i64.wrap ((0:Int)-p.aK)) p.aK p.dK.lo) (.need (K2 (Qn b a) (0:Int) p.oK p.dK) (.br (Q2 (Qn b a).lo (Qn b a).hi (0:Int) p.oK p.dK.lo) (.need (K2 (Qm b a) (0:Int) p.oK p.dK) (.br (Q2 (Qm b a).lo (Qm b a).hi (0:Int) p.oK p.dK.lo) (.leaf (vj 1) ([])) (.leaf (vj 0) ([])))) (.leaf (vj 0) ([])))) (.leaf (vj 0) ([])))))) (.need (K2 (Qo p b a) (i64.wrap ((0:Int)-p.aK)) p.aK p.dK) (.br (Q2 (Qo p b a).lo (Qo p b a).hi (i64.wrap ((0:Int)-p.aK)) p.aK p.dK.lo) (.need (K2 (Qn b a) (0:Int) p.oK p.dK) (.br (Q2 (Qn b a).lo (Qn b a).hi (0:Int) p.oK p.dK.lo) (.need (K2 (Qm b a) (0:Int) p.oK p.dK) (.br (Q2 (Qm b a).lo (Qm b a).hi (0:Int) p.oK p.dK.lo) (.leaf (vj 1) ([])) (.leaf (vj 0) ([])))) (.leaf (vj 0) ([])))) (.leaf (vj 0) ([])))))) (.need (K2 (Qo p b a) (i64.wrap ((0:Int)-p.aK)) p.aK p.dK) (.br (Q2 (Qo p b a).lo (Qo p b a).hi (i64.wrap ((0:Int)-p.aK)) p.aK p.dK.lo) (.need (K2 (Qn b a) (0:Int) p.oK p.dK) (.br (Q2 (Qn b a).lo (Qn b a).hi (0:Int) p.oK p.dK.lo) (.need (K2 (Qm b a) (0:Int) p.oK p.dK) (.br (Q2 (Qm b a).lo (Qm b a).hi (0:Int) p.oK p.dK.lo) (.leaf (vj 1) ([])) (.leaf (vj 0) ([])))) (.leaf (vj 0) ([])))) (.leaf (vj 0) ([]))))))) (.leaf (vj 0) ([]))) (.leaf (vj 0) ([]))):=by kernel_rfl
theorem QcN:QR prog 155 QL8:=by
 refine K0 QSf 4 func155 (by kernel_rfl) (by kernel_rfl) ?_
 rintro⟨p,a,b,⟨⟩⟩ hp;rw[QZc p a b];simp only[QUX,QC.den,AV.same,AV.sameL,and_true,true_and]at hp ⊢;unfold okP at hp;simp only[qbA]at hp;obtain⟨h1,h2,h3⟩:=hp;unfold XU
 by_cases c1:a.kind=1/\b.kind=2
 .obtain⟨ha,hb⟩:=c1;obtain⟨⟨q1,q2⟩,⟨q3,q4,q5⟩,q6,q7,q8⟩:=QUg h1 h2 h3 ha hb;rw[if_neg (by omega),if_pos ⟨ha,hb⟩,QGy]
  simp only[ha,hb,q1,q2,q3,q4,q5,q6,q7,q8,alw,may,beq_self_eq_true,decide_true];generalize Kw (Qo p a b).lo (Qo p a b).hi (-p.aK) p.aK p.dK.hi=b1;generalize Kw (Qn a b).lo (Qn a b).hi 0 p.oK p.dK.hi=b2;generalize Kw (Qm a b).lo (Qm a b).hi 0 p.oK p.dK.hi=b3;generalize Q2 (Qo p a b).lo (Qo p a b).hi (-p.aK) p.aK p.dK.lo=b4;generalize Q2 (Qn a b).lo (Qn a b).hi 0 p.oK p.dK.lo=b5;generalize Q2 (Qm a b).lo (Qm a b).hi 0 p.oK p.dK.lo=b6;cases b1<;>cases b2<;>cases b3<;>cases b4<;>cases b5<;>cases b6<;>simp
 by_cases c2:b.kind=1/\a.kind=2
 .obtain⟨hb,ha⟩:=c2;obtain⟨⟨q1,q2⟩,⟨q3,q4,q5⟩,q6,q7,q8⟩:=QUg h1 h3 h2 hb ha;rw[if_pos ha,if_pos hb,QGy];simp only[ha,hb,q1,q2,q3,q4,q5,q6,q7,q8,alw,may,beq_self_eq_true,decide_true];generalize Kw (Qo p b a).lo (Qo p b a).hi (-p.aK) p.aK p.dK.hi=b1;generalize Kw (Qn b a).lo (Qn b a).hi 0 p.oK p.dK.hi=b2;generalize Kw (Qm b a).lo (Qm b a).hi 0 p.oK p.dK.hi=b3;generalize Q2 (Qo p b a).lo (Qo p b a).hi (-p.aK) p.aK p.dK.lo=b4;generalize Q2 (Qn b a).lo (Qn b a).hi 0 p.oK p.dK.lo=b5;generalize Q2 (Qm b a).lo (Qm b a).hi 0 p.oK p.dK.lo=b6
  cases b1<;>cases b2<;>cases b3<;>cases b4<;>cases b5<;>cases b6<;>simp
 have e0:(if a.kind=2 then (if b.kind=1 then XT p b a else 0)else if a.kind=1/\b.kind=2 then XT p a b else 0)=0:=by
  split
  .rename_i ha;rw[if_neg (λh=>c2 ⟨h,ha⟩)]
  .rfl
 rw[e0];simp only[beq_iff_eq,beq_eq_false_iff_ne];refine⟨λha=>⟨λhb=>absurd ⟨ha,hb⟩ c1,λ_=>⟨λhb=>⟨λh=>absurd ⟨hb,h⟩ c2,λ_=>trivial⟩,λ_=>trivial⟩⟩,λ_=>⟨λhb=>⟨λh=>absurd ⟨hb,h⟩ c2,λ_=>trivial⟩,λ_=>trivial⟩⟩
def QD7:Tab:=Qa QC9 155 QL8
theorem QOj:Qc QD7:=QSf.add QcN
def QMh:Qy×Edge×Edge×Unit->Bool×AV:=λ|(p,(a,(b,_)))=>(true,.tup [.int false .i64 (Kq p a b).1,.int false .i64 (Kq p a b).2])
def QU4:FC:=Kj (Kl QMh)
theorem Qfa(p:Qy)(a:Edge)(b:Edge):KR (mkE prog QD7) (hnd (mkE prog QD7) 4) false f132 (KG.enc ((p,a,b,()):Qy×Edge×Edge×Unit)) [] 0=QC.need (true) (QC.br (!p.ok) (QC.leaf (AV.tup [vj (0:Int),vj (1:Int)]) ([])) (QC.need (true) (QC.br (!a.ok) (QC.leaf (AV.tup [vj (0:Int),vj (1:Int)]) ([])) (QC.need (true) (QC.br (!b.ok) (QC.leaf (AV.tup [vj (0:Int), vj (1:Int)]) ([])) (QC.need (okP p a b) (QC.leaf (AV.tup [vi (XU p a b),vj (0:Int)]) ([])))))))):=by kernel_rfl
theorem QdD:QR prog 132 QU4:=by
 refine K0 QOj 4 func132 (by kernel_rfl) (by kernel_rfl) ?_
 rintro⟨p,a,b,⟨⟩⟩ hp;rw[Qfa p a b];simp only[QMh,QC.den,AV.same,AV.sameL,and_true,true_and]at hp ⊢;unfold Kq okP;cases p.ok<;>cases a.ok<;>cases b.ok<;>simp
def Wt:Tab:=Qa QD7 132 QU4
theorem QJM:Qc Wt:=QOj.add QdD
def QBm:WF (Puz×Edge×Edge×Unit):=λ|(d,(a,(b,_)))=>(decide (d.ps.n<=1000),.int false .i64 (Kq d.pK a b).1,[])
def QNI:FC:=wFC QBm
theorem Qgb(d:Puz)(a:Edge)(b:Edge):Kd (mkE prog Wt) (hnd (mkE prog Wt) 0) f90 (Qb.vals 0 ((d,a,b,()):Puz×Edge×Edge×Unit)) (Qb.blks 0 ((d,a,b,()):Puz×Edge×Edge×Unit)) 8=QC.need (true) (QC.leaf (vi (Kq d.pK a b).1) ([])):=by kernel_rfl
theorem QbT:JA (mkE prog Wt) (Qk f90) 8 QBm (λx_=>(hnd (mkE prog Wt) 0)):=by
 refine⟨?_⟩;rintro⟨d,⟨a,⟨b,⟨⟩⟩⟩⟩ hp G h1 h2;exact Qv (QO QJM) 0 G _ h1
theorem Qcv:JB (mkE prog Wt) f90 8 QBm (λx_=>(hnd (mkE prog Wt) 0)):=by
 refine⟨?_⟩;rintro⟨d,⟨a,⟨b,⟨⟩⟩⟩⟩ hp;refine⟨⟨rfl,by simp[QBm],rfl⟩,⟨?_⟩⟩
 rw[Qgb d a b];simp only[QBm]at hp;refine QG rfl ?_
 .exact KE ⟨rfl,rfl⟩ rfl
theorem Qec:QR prog 90 QNI:=
 JL (QO QJM) func90 (by kernel_rfl) (by kernel_rfl) (by decide) QbT Qcv
def Wd:Tab:=Qa Wt 90 QNI
theorem QJC:Qc Wd:=QJM.add Qec
def vZ:WF (Puz×Int×Unit):=λ|(d,(p,_))=>(true,.int false .i64 (tnV d p),[])
def QLk:FC:=wFC vZ
theorem QZg(d:Puz)(p:Int):Kd (mkE prog Wd) (hnd (mkE prog Wd) 0) f34 (Qb.vals 0 ((d,p,()):Puz×Int×Unit)) (Qb.blks 0 ((d,p,()):Puz×Int×Unit)) 8=QC.br (d.turn) (QC.br (decide (p>(0:Int))) (QC.leaf (vj (4:Int)) ([])) (QC.leaf (vj (1:Int)) ([]))) (QC.leaf (vj (1:Int)) ([])):=by kernel_rfl
theorem Qcc:JA (mkE prog Wd) (Qk f34) 8 vZ (λx_=>(hnd (mkE prog Wd) 0)):=by
 refine⟨?_⟩;rintro⟨d,⟨p,⟨⟩⟩⟩ hp G h1 h2;exact Qv (QO QJC) 0 G _ h1
theorem Qa2:JB (mkE prog Wd) f34 8 vZ (λx_=>(hnd (mkE prog Wd) 0)):=by
 refine⟨?_⟩;rintro⟨d,⟨p,⟨⟩⟩⟩ hp;refine⟨⟨rfl,by simp[vZ],rfl⟩,⟨?_⟩⟩
 rw[QZg d p];simp only[vZ]at hp;have fin:∀(v:Int) (c:Bool),v=tnV d p->(QC.leaf (.int c .i64 v) []).den (q9 8 (vZ (d,p,())).2.1 (vZ (d,p,())).2.2):=λv c h=>KE ⟨rfl,h⟩ rfl;refine QE (λb0=>?_) (λb0=>?_);refine QE ?_ ?_<;>intro b1
 .refine fin _ _ ?_;rw[tnV,b0,show decide (0<p)=true from b1];rfl
 .refine fin _ _ ?_;rw[tnV,b0,show decide (0<p)=false from b1];rfl
 .refine fin _ _ ?_;rw[tnV,b0];rfl
theorem QYE:QR prog 34 QLk:=
 JL (QO QJC) func34 (by kernel_rfl) (by kernel_rfl) (by decide) Qcc Qa2
def W7:Tab:=Qa Wd 34 QLk
theorem QI5:Qc W7:=QJC.add QYE
def QB0:WF (Puz×Lay×Int×Unit):=λ|(d,(x,(s,_)))=>(decide (0<=x.piece/\x.piece<d.ps.n/\0<=x.turn/\x.turn<4/\0<=s/\s<4),Enc.enc (K1 (d.ps.get x.piece.toNat) (onS x s).toNat),[])
def QOx:FC:=wFC QB0
theorem QYB(d:Puz)(x:Lay)(s:Int):Kd (mkF prog W7) (hnd (mkF prog W7) 0) f33 (Qb.vals 0 ((d,x,s,()):Puz×Lay×Int×Unit)) (Qb.blks 0 ((d,x,s,()):Puz×Lay×Int × Unit)) 8 = .need (decide ((0:Int)<=x.piece/\x.piece<(d.ps.n:Int))&&decide (d.ps.n<=d.ps.n)) (.need (decide ((0:Int)<=(i64.wrap (i64.wrap (s+4)-x.turn)).tmod (4:Int)/\(i64.wrap (i64.wrap (s+4)-x.turn)).tmod (4:Int)<4)) (.br (decide ((i64.wrap (i64.wrap (s+4)-x.turn)).tmod (4:Int)=0)) (.need (decide (x.piece.toNat<d.ps.n)) (.leaf (.agg [vi (d.ps.get x.piece.toNat).up.kind,vi (d.ps.get x.piece.toNat).up.at_.lo,vi (d.ps.get x.piece.toNat).up.at_.hi,vi (d.ps.get x.piece.toNat).up.wide.lo,vi (d.ps.get x.piece.toNat).up.wide.hi,vi (d.ps.get x.piece.toNat).up.deep.lo,vi (d.ps.get x.piece.toNat).up.deep.hi]) ([]))) (.br (decide ((i64.wrap (i64.wrap (s+4)-x.turn)).tmod (4:Int)=1)) (.need (decide (x.piece.toNat<d.ps.n)) (.leaf (.agg [vi (d.ps.get x.piece.toNat).right.kind,vi (d.ps.get x.piece.toNat).right.at_.lo,vi (d.ps.get x.piece.toNat).right.at_.hi,vi (d.ps.get x.piece.toNat).right.wide.lo,vi (d.ps.get x.piece.toNat).right.wide.hi,vi (d.ps.get x.piece.toNat).right.deep.lo,vi (d.ps.get x.piece.toNat).right.deep.hi]) ([]))) (.br (decide ((i64.wrap (i64.wrap (s+4)-x.turn)).tmod (4:Int)=2)) (.need (decide (x.piece.toNat<d.ps.n)) (.leaf (.agg [vi (d.ps.get x.piece.toNat).down.kind,vi (d.ps.get x.piece.toNat).down.at_.lo,vi (d.ps.get x.piece.toNat).down.at_.hi,vi (d.ps.get x.piece.toNat).down.wide.lo,vi (d.ps.get x.piece.toNat).down.wide.hi,vi (d.ps.get x.piece.toNat).down.deep.lo,vi (d.ps.get x.piece.toNat).down.deep.hi]) ([]))) (.need (decide (x.piece.toNat<d.ps.n)) (.leaf (.agg [vi (d.ps.get x.piece.toNat).left.kind,vi (d.ps.get x.piece.toNat).left.at_.lo,vi (d.ps.get x.piece.toNat).left.at_.hi,vi (d.ps.get x.piece.toNat).left.wide.lo,vi (d.ps.get x.piece.toNat).left.wide.hi,vi (d.ps.get x.piece.toNat).left.deep.lo,vi (d.ps.get x.piece.toNat).left.deep.hi]) ([]))))))):=by kernel_rfl
theorem QYS:JA (mkF prog W7) (Qk f33) 8 QB0 (λx_=>(hnd (mkF prog W7) 0)):=by
 refine⟨?_⟩;rintro⟨d,⟨x,⟨s,⟨⟩⟩⟩⟩ hp G h1 h2;exact Qv (KF QI5) 0 G _ h1
theorem Qfl:JB (mkF prog W7) f33 8 QB0 (λx_=>(hnd (mkF prog W7) 0)):=by
 refine⟨?_⟩;rintro⟨d,⟨x,⟨s,⟨⟩⟩⟩⟩ hp;refine⟨⟨rfl,by simp[QB0],rfl⟩,⟨?_⟩⟩
 rw[QYB d x s];simp only[QB0]at hp;obtain⟨h1,h2,h3,h4,h5,h6⟩:=qdt hp
 have hw:(i64.wrap (i64.wrap (s+4)-x.turn)).tmod 4=onS x s:=by
  rw[w64 (n:=s+4) (by omega) (by omega),w64 (by omega) (by omega)];rfl
 have ho:0<=onS x s/\onS x s<4:=⟨Int.tmod_nonneg 4 (by omega),Int.tmod_lt_of_pos _ (by decide)⟩
 rw[hw];have hc:decide (x.piece.toNat<d.ps.n)=true:=qde (by omega)
 iterate 2 (refine QG ?_ ?_;rotate_left)
 refine QE (λb0=>?_) (λb0=>?_);refine QG ?_ ?_;rotate_left
 .have e:onS x s=0:=qdt b0;refine KE (v:=Enc.enc (K1 (d.ps.get x.piece.toNat) (onS x s).toNat)) ?_ rfl;rw[e];show AV.same _ (Enc.enc (d.ps.get x.piece.toNat).up);simp only[Enc.enc,AV.same,AV.sameL,and_self]
 refine QE (λb1=>?_) (λb1=>?_);refine QG ?_ ?_;rotate_left
 .have e:onS x s=1:=qdt b1;refine KE (v:=Enc.enc (K1 (d.ps.get x.piece.toNat) (onS x s).toNat)) ?_ rfl;rw[e];show AV.same _ (Enc.enc (d.ps.get x.piece.toNat).right);simp only[Enc.enc,AV.same,AV.sameL,and_self]
 refine QE (λb2=>?_) (λb2=>?_);refine QG ?_ ?_;rotate_left
 .have e:onS x s=2:=qdt b2;refine KE (v:=Enc.enc (K1 (d.ps.get x.piece.toNat) (onS x s).toNat)) ?_ rfl;rw[e];show AV.same _ (Enc.enc (d.ps.get x.piece.toNat).down);simp only[Enc.enc,AV.same,AV.sameL,and_self]
 refine QG ?_ ?_;rotate_left
 .have e:onS x s=3:=by
   have q0:=qdf b0;have q1:=qdf b1;have q2:=qdf b2;omega
  refine KE (v:=Enc.enc (K1 (d.ps.get x.piece.toNat) (onS x s).toNat)) ?_ rfl;rw[e];show AV.same _ (Enc.enc (d.ps.get x.piece.toNat).left);simp only[Enc.enc,AV.same,AV.sameL,and_self]
 all_goals first|exact hc|(simp;omega)
theorem Qed:QR prog 33 QOx:=
 JL (KF QI5) func33 (by kernel_rfl) (by kernel_rfl) (by decide) QYS Qfl
def Kg:Tab:=Qa W7 33 QOx
theorem Yk:Qc Kg:=QI5.add Qed
def smJ{α:Type}[QA α](a b:Rw α)(k:Nat):JSt:=⟨26,[(0,.slz 0 0 a.n (.of 0)),(1,.slz 1 0 b.n (.of 0)),(5,.int false .i64 k)],Qi.blk 0 a++Qi.blk 1 b,8⟩
def QQC:Ex->List Nat
 | .normal=>[0,1,5]
 | .exit _=>[]
 | .ret=>[4]
def QJG:JSt:=⟨26,[(4,.bool false false)],[],8⟩
def QJR:JSt:=⟨26,[],[],8⟩
def smR(p:Nat->Bool)(n k:Nat)(e:Ex)(J:JSt):Prop:=(e = .ret/\(QP p (n-k) k).isNone=false/\J=QJG)∨(e = .exit 0/\(QP p (n-k) k).isNone=true/\J=QJR)
def smX(p:Nat->Bool)(n:Nat):List (Prop×Ex×JSt):=[((QP p n 0).isNone=false,.ret,QJG),((QP p n 0).isNone=true,.exit 0,QJR)]
def lyQ(a b:Rw Lay)(i:Nat):Bool := !((a.get i).piece==(b.get i).piece&&((a.get i).turn==(b.get i).turn&&true))
