/- - -/
import Derived.Test.YtekbmehgcofnkaaGreatVzq
set_option linter.all false
open Go.Proofs.Tryz
open Go.IntKind (i64)
set_option maxRecDepth 100000
namespace Go.Proofs.YtekbmehgcofnkaaGreat
open Go.SX
structure QMh where
 off:Sp
 wide:Sp
 deep:Sp
instance : Enc QMh where
  enc x := .agg [.int false .i64 x.off.lo,.int false .i64 x.off.hi,.int false .i64 x.wide.lo,.int false .i64 x.wide.hi,.int false .i64 x.deep.lo,.int false .i64 x.deep.hi]
  dec | .agg [.int _ .i64 a0,.int _ .i64 a1,.int _ .i64 a2,.int _ .i64 a3,.int _ .i64 a4,.int _ .i64 a5] => some ⟨⟨a0,a1⟩,⟨a2,a3⟩,⟨a4,a5⟩⟩ | _ => none
  ok v x h := by
    split at h <;> (try (cases h; done))
    simp only[qsI]at h; subst h; exact⟨λ_=>rfl,rfl⟩
theorem Qjs{p:Qx}{t h:Edge}(hB:KB.B ⟨p,t,h⟩):((-100000<=(Qq p t h).lo/\(Qq p t h).lo<=100000) /\ -100000<=(Qq p t h).hi/\(Qq p t h).hi<=100000)/\((-100000<=(Qr t h).lo/\(Qr t h).lo<=100000) /\ -100000<=(Qr t h).hi/\(Qr t h).hi<=100000) /\
  ((-100000<=(Qp t h).lo/\(Qp t h).lo<=100000) /\ -100000<=(Qp t h).hi/\(Qp t h).hi<=100000)/\(0<=p.dK.lo/\p.dK.lo<=100)/\0<=p.dK.hi/\p.dK.hi<=100:=by
 obtain⟨h1,h2,h3⟩:=hB;unfold VQ at h1;unfold Vb at h2 h3;simp only[Qq,Qr,Qp]at *;omega
def Xf(s:Sp)(lo hi:Int)(d:Sp):Bool:=decide ((-100000<=s.lo/\s.lo<=100000)/\(-100000<=s.hi/\s.hi<=100000)/\(-500<=lo/\lo<=500)/\(-500<=hi/\hi<=500)/\0<=d.hi/\d.hi<=100)
def QLf:Qx×Edge×Edge×Unit->Bool×AV:=λ|(p,(t,(h,_)))=>(decide (KB.B ⟨p,t,h⟩),Enc.enc (⟨Qq p t h,Qr t h,Qp t h⟩:QMh))
def QVh:FC:=Kj (Ko QLf)
theorem Qk5(p:Qx)(t:Edge)(h:Edge):KY (mkE prog K7) (hnd (mkE prog K7) 0) false f170 (KL.enc ((p,t,h,()):Qx×Edge×Edge×Unit)) [] 0=QC.leaf (AV.agg [vi (i64.wrap (i64.wrap (t.at_.lo+h.at_.lo)-p.length)),vi (i64.wrap (i64.wrap (t.at_.hi+h.at_.hi)-p.length)),vi (i64.wrap (h.wide.lo-t.wide.hi)),vi (i64.wrap (h.wide.hi-t.wide.lo)),vi (i64.wrap (h.deep.lo-t.deep.hi)),vi (i64.wrap (h.deep.hi-t.deep.lo))]) ([]):=by kernel_rfl
theorem QaM:QS prog 170 QVh:=by
 refine K2 XW 0 func170 (by kernel_rfl) (by kernel_rfl) ?_
 rintro⟨p,t,h,⟨⟩⟩ hp;rw[Qk5 p t h];simp only[QLf,QC.den,AV.same,AV.sameL,and_true,true_and]at hp ⊢;have hq:=qdt hp;obtain⟨h1,h2,h3⟩:=hq;unfold VQ at h1;unfold Vb at h2 h3;simp only at h1 h2 h3;simp only[Enc.enc,AV.same,AV.sameL,true_and,and_true,Qq,Qr,Qp];rw[w64 (n:=t.at_.lo+h.at_.lo) (by omega) (by omega),w64 (n:=t.at_.hi+h.at_.hi) (by omega) (by omega)]
 rw[w64 (by omega) (by omega),w64 (by omega) (by omega),w64 (by omega) (by omega),w64 (by omega) (by omega),w64 (by omega) (by omega),w64 (by omega) (by omega)]
 refine⟨?_,?_,?_,?_,?_,?_⟩<;>omega
def QC7:Tab:=Qc K7 170 QVh
theorem QWA:Qf QC7:=XW.add QaM
def QQK:Sp×Int×Int×Sp×Unit->Bool×AV:=λ|(s,(lo,(hi,(d,_))))=>(Xf s lo hi d,.bool false (Kx s.lo s.hi lo hi d.hi))
def QLl:FC:=Kj (Ko QQK)
theorem QaX(s:Sp)(lo:Int)(hi:Int)(d:Sp):KY (mkE prog QC7) (hnd (mkE prog QC7) 0) false f171 (KL.enc ((s,lo,hi,d,()):Sp×Int×Int×Sp×Unit)) [] 0=QC.br (decide (i64.wrap (s.lo*i64.wrap ((1000:Int)+d.hi))≥i64.wrap ((1000:Int)*lo))) (QC.leaf (AV.bool false (decide (i64.wrap (s.hi*i64.wrap ((1000:Int)+d.hi))<=i64.wrap ((1000:Int)*hi)))) ([])) (QC.leaf (AV.bool true false) ([])):=by kernel_rfl
theorem Qk0:QS prog 171 QLl:=by
 refine K2 QWA 0 func171 (by kernel_rfl) (by kernel_rfl) ?_
 rintro⟨s,lo,hi,d,⟨⟩⟩ hp;rw[QaX s lo hi d];simp only[QQK,QC.den,AV.same,AV.sameL,and_true,true_and]at hp ⊢;have hq:=qdt hp;obtain⟨h1,h2,h3,h4,h5⟩:=hq;exact QA7 h1 h2 h3 h4 h5
def ZZ:Tab:=Qc QC7 171 QLl
theorem QAR:Qf ZZ:=QWA.add Qk0
structure Kh where
 s:Sp
 d:Sp
 lo:Int
 hi:Int
 n:Int
def Kh.I(x:Kh):JSt:=⟨40,[(1,vi x.lo),(2,vi x.hi),(4,.ptr 0 0 0),(7,.ptr 8 0 0),(9,vi x.n)],[(8,.cells 0 23 (Enc.enc x.d).cells),(0,.cells 0 23 (Enc.enc x.s).cells)],56⟩
def Kh.pre(x:Kh):Prop:=(-100000<=x.s.lo/\x.s.lo<=100000)/\(-100000<=x.s.hi/\x.s.hi<=100000)/\(-500<=x.lo/\x.lo<=0)/\(0<=x.hi/\x.hi<=500)/\(0<=x.d.lo/\x.d.lo<=100) /\ -100000<=x.n/\x.n<=100001
def Kh.good(x:Kh)(n:Int):Prop:=n<=min x.s.hi x.hi/\1000*x.lo<=n*(1000+x.d.lo)/\n*(1000+x.d.lo)<=1000*x.hi
def Kh.yes(x:Kh):Prop:=∃ n,x.n<=n/\x.good n
def QBE(x:Kh)(e:Ex)(J:JSt):Prop:=(e = .ret/\J=⟨40,[(8,.bool true true)],[],0⟩/\x.yes)∨(e = .exit 0/\J=⟨40,[],[],0⟩/\¬ x.yes)
def QGa:Ex->List Nat
 | .normal=>[1,2,4,7,9]
 | .ret=>[8]
 | .exit _=>[]
def Kh.mu(x:Kh):Nat:=(min x.s.hi x.hi+1-x.n).toNat
def Kh.next(x:Kh):Kh:={ x with n:=x.n+1 }
def QDz(x:Kh):QC := .leaf (.tup [.nilp,.ptr 40 0 0,vi x.lo,vi x.hi,.ptr 0 0 0,.ptr 8 0 0,vi (i64.wrap (x.n+1))]) [(8,.cells 0 23 (Enc.enc x.d).cells),(0,.cells 0 23 (Enc.enc x.s).cells)]
theorem QYv(x:Kh)(g:Nat->Value):exec (mkE prog ZZ) (hnd (mkE prog ZZ) 0) (QI f172 0) (JSt.inst x.I g) (QGr QGa) =
  .br (decide (x.n <= min x.s.hi x.hi))
    (.br (decide (i64.wrap (x.n * i64.wrap (1000 + x.d.lo)) ≥ i64.wrap (1000 * x.lo)))
      (.br (decide (i64.wrap (x.n * i64.wrap (1000 + x.d.lo)) <= i64.wrap (1000 * x.hi)))
        (.leaf (.tup [.nili,.ptr 40 0 0,.bool true true]) [(8,.cells 0 23 (Enc.enc x.d).cells),(0,.cells 0 23 (Enc.enc x.s).cells)])
        (QDz x)) (QDz x))
    (.leaf (.tup [.ptr 0 0 0,.ptr 40 0 0]) [(8,.cells 0 23 (Enc.enc x.d).cells),(0,.cells 0 23 (Enc.enc x.s).cells)]) := by kernel_rfl
theorem QOM{x:Kh}(h:x.pre):i64.wrap (x.n*i64.wrap (1000+x.d.lo))=x.n*(1000+x.d.lo)/\i64.wrap (1000*x.lo)=1000*x.lo/\i64.wrap (1000*x.hi)=1000*x.hi/\i64.wrap (x.n+1)=x.n+1:=by
 obtain⟨h1,h2,h3,h4,h5,h6,h7⟩:=h;have e:i64.wrap (1000+x.d.lo)=1000+x.d.lo:=w64 (by omega) (by omega)
 have m:=Int.mul_le_mul_of_nonneg_right h6 (show 0<=1000+x.d.lo by omega)
 have m':=Int.mul_le_mul_of_nonneg_right h7 (show 0<=1000+x.d.lo by omega)
 rw[e];exact⟨w64 (by omega) (by omega),w64 (by omega) (by omega),w64 (by omega) (by omega),w64 (by omega) (by omega)⟩
theorem QT1{x:Kh}(hp:x.pre)(hn:x.n<=min x.s.hi x.hi)(hb:¬ (1000*x.lo<=x.n*(1000+x.d.lo)/\x.n*(1000+x.d.lo)<=1000*x.hi)):(QDz x).den (q9 (QNX Kh.I Kh.pre Kh.mu QBE 0 QGa x) (Go.SX.Leaves QBE 0 QGa x)):=by
 unfold QDz;rw[(QOM hp).2.2.2];refine⟨x.next,λi=>i,?_,?_,?_,?_⟩
 .obtain⟨h1,h2,h3,h4,h5,h6,h7⟩:=hp;refine⟨h1,h2,h3,h4,h5,?_,?_⟩<;>simp only[Kh.next]<;>omega
 .simp only[Kh.mu,Kh.next];omega
 .intro e J hR
  have hy:x.next.yes↔x.yes:=by
   constructor
   .rintro⟨n,h1,h2⟩;simp only[Kh.next]at h1;exact⟨n,by omega,h2⟩
   .rintro⟨n,h1,h2⟩;rcases(show n=x.n∨x.n+1<=n by omega)with rfl|h3
    .exact absurd h2.2 hb
    .exact⟨n,h3,h2⟩
  unfold QBE at *;rw[hy]at hR;exact hR
 .refine Xg.same rfl rfl ?_ ?_ rfl rfl
  .exact⟨⟨rfl,rfl⟩,⟨rfl,rfl⟩,⟨rfl,rfl,rfl⟩,⟨rfl,rfl,rfl⟩,⟨rfl,rfl⟩,trivial⟩
  .exact⟨⟨_,rfl,rfl,rfl,⟨rfl,rfl⟩,⟨rfl,rfl⟩,trivial⟩,⟨_,rfl,rfl,rfl,⟨rfl,rfl⟩,⟨rfl,rfl⟩,trivial⟩,trivial⟩
theorem Qgx:QKX Kh.I Kh.pre Kh.mu QBE 0 QGa (mkE prog ZZ) (hnd (mkE prog ZZ) 0) (QI f172 0):=by
 intro x g hp;rw[QYv];obtain⟨e1,e2,e3,_⟩:=QOM hp;simp only[QC.den,e1,e2,e3,qdE,decide_eq_false_iff_not];refine⟨λhn=>⟨λh1=>⟨λh2=>?_,λh2=>?_⟩,λh1=>?_⟩,λhn=>?_⟩
 .exact⟨⟨40,[(8,.bool true true)],[],0⟩,λi=>i,.inl ⟨rfl,rfl,x.n,Int.le_refl _,hn,h1,h2⟩,Xg.same rfl rfl ⟨rfl,trivial⟩ trivial rfl rfl⟩
 .exact QT1 hp hn (λh=>h2 h.2)
 .exact QT1 hp hn (λh=>h1 h.1)
 .refine⟨⟨40,[],[],0⟩,λi=>i,.inr ⟨rfl,rfl,?_⟩,Xg.same rfl rfl trivial trivial rfl rfl⟩;rintro⟨n,h1,h2,_⟩;omega
instance (x : Kh) : Decidable x.pre := by unfold Kh.pre; infer_instance
def Z3:Code->St->(Ex->St->QC)->QC:=λ_ st K=>match st.tm.length==40&&V8 st.hp,QJ st.tm 1,QJ st.tm 2,QJ st.tm 4,QJ st.tm 7,QJ st.tm 9,Go.SX.look st.hp 8,Go.SX.look st.hp 0 with
 | true,.int _ .i64 lo,.int _ .i64 hi,.ptr 0 0 0,.ptr 8 0 0,.int _ .i64 n,some (.cells 0 23 [.int _ .i64 dlo,.int _ .i64 dhi]),some (.cells 0 23 [.int _ .i64 slo,.int _ .i64 shi])=>
  .need (decide (Kh.pre ⟨⟨slo,shi⟩,⟨dlo,dhi⟩,lo,hi,n⟩)) (.both (.asm (Kh.yes ⟨⟨slo,shi⟩,⟨dlo,dhi⟩,lo,hi,n⟩) (.all λg=>K .ret (JSt.inst ⟨40,[(8,.bool true true)],[],0⟩ g)))
   (.asm (¬ Kh.yes ⟨⟨slo,shi⟩,⟨dlo,dhi⟩,lo,hi,n⟩) (.all λg=>K (.exit 0) (JSt.inst ⟨40,[],[],0⟩ g))))
 | _, _, _, _, _, _, _, _ => .fail "some"
theorem QiT(body:Code)(st:St)(K:Ex->St->QC)(T:AV->List (Nat×Blk)->Prop)(h:(Z3 body st K).den T):∃ s q ls',Kh.pre s/\Xg 0 q ls' st.tm.length (ls'.map (QJ st.tm)) st.hp (Kh.I s)/\∀ e J g,QBE s e J->(K e (J.inst g)).den T:=by
 unfold Z3 at h;split at h<;>(try (exact h.elim))
 rename_i k1 lo k2 hi k9 n kd dlo ke dhi ks slo kt shi c1 e1 e2 e4 e7 e9 h8 h0;simp only[QC.den,qdE]at h;rw[qbA]at c1;refine⟨⟨⟨slo,shi⟩,⟨dlo,dhi⟩,lo,hi,n⟩,λi=>i,[1,2,4,7,9],h.1,Xg.same rfl ?_ ?_ ?_ rfl rfl ?_,?_⟩
 .exact beq_iff_eq.1 c1.1
 .simp only[List.map_cons,List.map_nil, *];exact⟨⟨rfl,rfl⟩,⟨rfl,rfl⟩,⟨rfl,rfl,rfl⟩,⟨rfl,rfl,rfl⟩,⟨rfl,rfl⟩,trivial⟩
 .exact⟨⟨_,h8,rfl,rfl,⟨rfl,rfl⟩,⟨rfl,rfl⟩,trivial⟩,⟨_,h0,rfl,rfl,⟨rfl,rfl⟩,⟨rfl,rfl⟩,trivial⟩,trivial⟩
 .exact c1.2
 .rintro e J g (⟨rfl,rfl,hy⟩|⟨rfl,rfl,hy⟩)
  .exact h.2.1 hy g
  .exact h.2.2 hy g
theorem QlW(G:Ctx)(hG:G.n=0)(hrd:G.rd=none):Q0 (mkE prog ZZ) G { hnd (mkE prog ZZ) 0 with loop:=Z3 } (Qn f172):=
 ⟨λb hb=>by
  have e:JA (Qn f172)=[.loop (QI f172 0)]:=by kernel_rfl
  rw[e,List.mem_singleton]at hb;subst hb;exact QWl (QP QAR) (by omega) (Qz (QP QAR) 0 G _ hrd) (λ_=>Nat.zero_le _) Qgx (λst K T h=>QiT (QI f172 0) st K T h),(Qz (QP QAR) 0 G (Qn f172) hrd).call,(Qz (QP QAR) 0 G (Qn f172) hrd).yield⟩
def K5(s:Sp)(lo hi:Int)(d:Sp):Bool:=decide (s.lo<=s.hi/\(-100000<=s.lo/\s.lo<=100000)/\(-100000<=s.hi/\s.hi<=100000)/\(-500<=lo/\lo<=0)/\(0<=hi/\hi<=500)/\0<=d.lo/\d.lo<=100)
def QVO:Sp×Int×Int×Sp×Unit->Bool×AV:=λ|(s,(lo,(hi,(d,_))))=>(K5 s lo hi d,.bool false (Q4 s.lo s.hi lo hi d.lo))
def QQd:FC:=Kj (Ko QVO)
theorem Qay(s:Sp)(lo:Int)(hi:Int)(d:Sp):KY (mkE prog ZZ) { hnd (mkE prog ZZ) 0 with loop:=Z3 } false f172 (KL.enc ((s,lo,hi,d,()):Sp×Int×Int×Sp×Unit)) [] 0=QC.need (decide (Kh.mk s d lo hi (max s.lo lo)).pre) (QC.both (QC.asm ((Kh.mk s d lo hi (max s.lo lo)).yes) (QC.all (λ(g0:Nat->Value)=>QC.leaf (AV.bool true true) ([])))) (QC.asm (¬(Kh.mk s d lo hi (max s.lo lo)).yes) (QC.all (λ(g1:Nat->Value)=>QC.leaf (AV.bool true false) ([]))))):=by kernel_rfl
theorem Qey:QS prog 172 QQd:=by
 refine QKN (QP QAR) func172 (by kernel_rfl) (by kernel_rfl) QlW ?_
 rintro⟨s,lo,hi,d,⟨⟩⟩ hp;rw[Qay s lo hi d];simp only[QVO,QC.den,AV.same,AV.sameL,and_true,true_and]at hp ⊢;have hq:=qdt hp;obtain⟨h0,h1,h2,h3,h4,h5⟩:=hq;unfold Kh.yes Kh.good;refine⟨qde ⟨h1,h2,h3,h4,h5,?_,?_⟩,?_,?_⟩
 .show -100000<=max s.lo lo;omega
 .show max s.lo lo<=100001;omega
 .rintro⟨n,g1,g2,g3,g4⟩ _
  dsimp only at g1 g2 g3 g4
  exact(QEh (n:=n) (by omega) (by omega) (by omega) (by omega) (by omega) g3 g4).symm
 .intro hn _
  dsimp only at hn
  refine(QlV (by omega) (by omega) (by omega) h0 λn g1 g2 g3=>hn ⟨n,g1,g2,g3⟩).symm
def QFu:Tab:=Qc ZZ 172 QQd
theorem QOB:Qf QFu:=QAR.add Qey
theorem QT2{p:Qx}{t h:Edge}(h1:p.ok=true)(h2:t.ok=true)(h3:h.ok=true)(ht:t.kind=1)(hh:h.kind=2):(KB.B ⟨p,t,h⟩/\i64.wrap (0-p.aK) = -p.aK)/\(Xf (Qq p t h) (-p.aK) p.aK p.dK=true/\Xf (Qr t h) 0 p.oK p.dK=true/\Xf (Qp t h) 0 p.oK p.dK=true) /\
  K5 (Qq p t h) (-p.aK) p.aK p.dK=true/\K5 (Qr t h) 0 p.oK p.dK=true/\K5 (Qp t h) 0 p.oK p.dK=true:=by
 have hB:=QLK h1 h2 h3 ht hh;have hb:=Qjs hB;have h1':=hB.1;unfold VQ at h1'
 have s2:(t.at_.lo<=t.at_.hi/\t.wide.lo<=t.wide.hi/\t.deep.lo<=t.deep.hi):=by
  unfold Edge.ok Sp.isIn at h2;simp[ht]at h2;omega
 have s3:(h.at_.lo<=h.at_.hi/\h.wide.lo<=h.wide.hi/\h.deep.lo<=h.deep.hi):=by
  unfold Edge.ok Sp.isIn at h3;simp[hh]at h3;omega
 obtain⟨o1,o2,o3,o4⟩:=hb;simp only at h1';have n1:(Qq p t h).lo<=(Qq p t h).hi:=by simp only[Qq];omega
 have n2:(Qr t h).lo<=(Qr t h).hi:=by simp only[Qr];omega
 have n3:(Qp t h).lo<=(Qp t h).hi:=by simp only[Qp];omega
 unfold Xf K5;refine⟨⟨hB,?_⟩,⟨qde ?_,qde ?_,qde ?_⟩,qde ?_,qde ?_,qde ?_⟩
 .rw[w64 (by omega) (by omega)];omega
 all_goals omega
def QMY:Qx×Edge×Edge×Unit->Bool×AV:=λ|(p,(a,(b,_)))=>(okP p a b,.int false .i64 (Y7 p a b))
def QQg:FC:=Kj (Ko QMY)
theorem QXi(p:Qx)(a:Edge)(b:Edge):KY (mkE prog QFu) (hnd (mkE prog QFu) 4) false f155 (KL.enc ((p,a,b,()):Qx×Edge×Edge×Unit)) [] 0 = .br (a.kind==1) (.br (b.kind==2) (.need (decide (KB.mk p a b).B) (.need (Xf (Qq p a b) (i64.wrap ((0:Int)-p.aK)) p.aK p.dK) (.br (Kx (Qq p a b).lo (Qq p a b).hi (i64.wrap ((0:Int)-p.aK)) p.aK p.dK.hi) (.need (Xf (Qr a b) (0:Int) p.oK p.dK) (.br (Kx (Qr a b).lo (Qr a b).hi (0:Int) p.oK p.dK.hi) (.need (Xf (Qp a b) (0:Int) p.oK p.dK) (.br (Kx (Qp a b).lo (Qp a b).hi (0:Int) p.oK p.dK.hi) (.leaf (vj 2) ([])) (.need (K5 (Qq p a b) (i64.wrap ((0:Int)-p.aK)) p.aK p.dK) (.br (Q4 (Qq p a b).lo (Qq p a b).hi (i64.wrap ((0:Int)-p.aK)) p.aK p.dK.lo) (.need (K5 (Qr a b) (0:Int) p.oK p.dK) (.br (Q4 (Qr a b).lo (Qr a b).hi (0:Int) p.oK p.dK.lo) (.need (K5 (Qp a b) (0:Int) p.oK p.dK) (.br (Q4 (Qp a b).lo (Qp a b).hi (0:Int) p.oK p.dK.lo) (.leaf (vj 1) ([])) (.leaf (vj 0) ([])))) (.leaf (vj 0) ([])))) (.leaf (vj 0) ([])))))) (.need (K5 (Qq p a b) (i64.wrap ((0:Int)-p.aK)) p.aK p.dK) (.br (Q4 (Qq p a b).lo (Qq p a b).hi (i64.wrap ((0:Int)-p.aK)) p.aK p.dK.lo) (.need (K5 (Qr a b) (0:Int) p.oK p.dK) (.br (Q4 (Qr a b).lo (Qr a b).hi (0:Int) p.oK p.dK.lo) (.need (K5 (Qp a b) (0:Int) p.oK p.dK) (.br (Q4 (Qp a b).lo (Qp a b).hi (0:Int) p.oK p.dK.lo) (.leaf (vj 1) ([])) (.leaf (vj 0) ([])))) (.leaf (vj 0) ([])))) (.leaf (vj 0) ([])))))) (.need (K5 (Qq p a b) (i64.wrap ((0:Int)-p.aK)) p.aK p.dK) (.br (Q4 (Qq p a b).lo (Qq p a b).hi (i64.wrap ((0:Int)-p.aK)) p.aK p.dK.lo) (.need (K5 (Qr a b) (0:Int) p.oK p.dK) (.br (Q4 (Qr a b).lo (Qr a b).hi (0:Int) p.oK p.dK.lo) (.need (K5 (Qp a b) (0:Int) p.oK p.dK) (.br (Q4 (Qp a b).lo (Qp a b).hi (0:Int) p.oK p.dK.lo) (.leaf (vj 1) ([])) (.leaf (vj 0) ([])))) (.leaf (vj 0) ([])))) (.leaf (vj 0) ([]))))))) (.br (b.kind==1) (.br (a.kind==2) (.need (decide (KB.mk p b a).B) (.need (Xf (Qq p b a) (i64.wrap ((0:Int)-p.aK)) p.aK p.dK) (.br (Kx (Qq p b a).lo (Qq p b a).hi (i64.wrap ((0:Int)-p.aK)) p.aK p.dK.hi) (.need (Xf (Qr b a) (0:Int) p.oK p.dK) (.br (Kx (Qr b a).lo (Qr b a).hi (0:Int) p.oK p.dK.hi) (.need (Xf (Qp b a) (0:Int) p.oK p.dK) (.br (Kx (Qp b a).lo (Qp b a).hi (0:Int) p.oK p.dK.hi) (.leaf (vj 2) ([])) (.need (K5 (Qq p b a) (i64.wrap ((0:Int)-p.aK)) p.aK p.dK) (.br (Q4 (Qq p b a).lo (Qq p b a).hi (i64.wrap ((0:Int)-p.aK)) p.aK p.dK.lo) (.need (K5 (Qr b a) (0:Int) p.oK p.dK) (.br (Q4 (Qr b a).lo (Qr b a).hi (0:Int) p.oK p.dK.lo) (.need (K5 (Qp b a) (0:Int) p.oK p.dK) (.br (Q4 (Qp b a).lo (Qp b a).hi (0:Int) p.oK p.dK.lo) (.leaf (vj 1) ([])) (.leaf (vj 0) ([])))) (.leaf (vj 0) ([])))) (.leaf (vj 0) ([])))))) (.need (K5 (Qq p b a) (i64.wrap ((0:Int)-p.aK)) p.aK p.dK) (.br (Q4 (Qq p b a).lo (Qq p b a).hi (i64.wrap ((0:Int)-p.aK)) p.aK p.dK.lo) (.need (K5 (Qr b a) (0:Int) p.oK p.dK) (.br (Q4 (Qr b a).lo (Qr b a).hi (0:Int) p.oK p.dK.lo) (.need (K5 (Qp b a) (0:Int) p.oK p.dK) (.br (Q4 (Qp b a).lo (Qp b a).hi (0:Int) p.oK p.dK.lo) (.leaf (vj 1) ([])) (.leaf (vj 0) ([])))) (.leaf (vj 0) ([])))) (.leaf (vj 0) ([])))))) (.need (K5 (Qq p b a) (i64.wrap ((0:Int)-p.aK)) p.aK p.dK) (.br (Q4 (Qq p b a).lo (Qq p b a).hi (i64.wrap ((0:Int)-p.aK)) p.aK p.dK.lo) (.need (K5 (Qr b a) (0:Int) p.oK p.dK) (.br (Q4 (Qr b a).lo (Qr b a).hi (0:Int) p.oK p.dK.lo) (.need (K5 (Qp b a) (0:Int) p.oK p.dK) (.br (Q4 (Qp b a).lo (Qp b a).hi (0:Int) p.oK p.dK.lo) (.leaf (vj 1) ([])) (.leaf (vj 0) ([])))) (.leaf (vj 0) ([])))) (.leaf (vj 0) ([]))))))) (.leaf (vj 0) ([]))) (.leaf (vj 0) ([])))) (.br (b.kind==1) (.br (a.kind==2) (.need (decide (KB.mk p b a).B) (.need (Xf (Qq p b a) (i64.wrap ((0:Int)-p.aK)) p.aK p.dK) (.br (Kx (Qq p b a).lo (Qq p b a).hi (i64.wrap ((0:Int)-p.aK)) p.aK p.dK.hi) (.need (Xf (Qr b a) (0:Int) p.oK p.dK) (.br (Kx (Qr b a).lo (Qr b a).hi (0:Int) p.oK p.dK.hi) (.need (Xf (Qp b a) (0:Int) p.oK p.dK) (.br (Kx (Qp b a).lo (Qp b a).hi (0:Int) p.oK p.dK.hi) (.leaf (vj 2) ([])) (.need (K5 (Qq p b a) (i64.wrap ((0:Int)-p.aK)) p.aK p.dK) (.br (Q4 (Qq p b a).lo (Qq p b a).hi (i64.wrap ((0:Int)-p.aK)) p.aK p.dK.lo) (.need (K5 (Qr b a) (0:Int) p.oK p.dK) (.br (Q4 (Qr b a).lo (Qr b a).hi (0:Int) p.oK p.dK.lo) (.need (K5 (Qp b a) (0:Int) p.oK p.dK) (.br (Q4 (Qp b a).lo (Qp b a).hi (0:Int) p.oK p.dK.lo) (.leaf (vj 1) ([])) (.leaf (vj 0) ([])))) (.leaf (vj 0) ([])))) (.leaf (vj 0) ([])))))) (.need (K5 (Qq p b a) (i64.wrap ((0:Int)-p.aK)) p.aK p.dK) (.br (Q4 (Qq p b a).lo (Qq p b a).hi (i64.wrap ((0:Int)-p.aK)) p.aK p.dK.lo) (.need (K5 (Qr b a) (0:Int) p.oK p.dK) (.br (Q4 (Qr b a).lo (Qr b a).hi (0:Int) p.oK p.dK.lo) (.need (K5 (Qp b a) (0:Int) p.oK p.dK) (.br (Q4 (Qp b a).lo (Qp b a).hi (0:Int) p.oK p.dK.lo) (.leaf (vj 1) ([])) (.leaf (vj 0) ([])))) (.leaf (vj 0) ([])))) (.leaf (vj 0) ([])))))) (.need (K5 (Qq p b a) (i64.wrap ((0:Int)-p.aK)) p.aK p.dK) (.br (Q4 (Qq p b a).lo (Qq p b a).hi (i64.wrap ((0:Int)-p.aK)) p.aK p.dK.lo) (.need (K5 (Qr b a) (0:Int) p.oK p.dK) (.br (Q4 (Qr b a).lo (Qr b a).hi (0:Int) p.oK p.dK.lo) (.need (K5 (Qp b a) (0:Int) p.oK p.dK) (.br (Q4 (Qp b a).lo (Qp b a).hi (0:Int) p.oK p.dK.lo) (.leaf (vj 1) ([])) (.leaf (vj 0) ([])))) (.leaf (vj 0) ([])))) (.leaf (vj 0) ([]))))))) (.leaf (vj 0) ([]))) (.leaf (vj 0) ([]))):=by kernel_rfl
theorem QeR:QS prog 155 QQg:=by
 refine K2 QOB 4 func155 (by kernel_rfl) (by kernel_rfl) ?_
 rintro⟨p,a,b,⟨⟩⟩ hp;rw[QXi p a b];simp only[QMY,QC.den,AV.same,AV.sameL,and_true,true_and]at hp ⊢;unfold okP at hp;simp only[qbA]at hp;obtain⟨h1,h2,h3⟩:=hp;unfold Y7
 by_cases c1:a.kind=1/\b.kind=2
 .obtain⟨ha,hb⟩:=c1;obtain⟨⟨q1,q2⟩,⟨q3,q4,q5⟩,q6,q7,q8⟩:=QT2 h1 h2 h3 ha hb;rw[if_neg (by omega),if_pos ⟨ha,hb⟩,QEB]
  simp only[ha,hb,q1,q2,q3,q4,q5,q6,q7,q8,alw,may,beq_self_eq_true,decide_true];generalize Kx (Qq p a b).lo (Qq p a b).hi (-p.aK) p.aK p.dK.hi=b1;generalize Kx (Qr a b).lo (Qr a b).hi 0 p.oK p.dK.hi=b2;generalize Kx (Qp a b).lo (Qp a b).hi 0 p.oK p.dK.hi=b3;generalize Q4 (Qq p a b).lo (Qq p a b).hi (-p.aK) p.aK p.dK.lo=b4;generalize Q4 (Qr a b).lo (Qr a b).hi 0 p.oK p.dK.lo=b5;generalize Q4 (Qp a b).lo (Qp a b).hi 0 p.oK p.dK.lo=b6;cases b1<;>cases b2<;>cases b3<;>cases b4<;>cases b5<;>cases b6<;>simp
 by_cases c2:b.kind=1/\a.kind=2
 .obtain⟨hb,ha⟩:=c2;obtain⟨⟨q1,q2⟩,⟨q3,q4,q5⟩,q6,q7,q8⟩:=QT2 h1 h3 h2 hb ha;rw[if_pos ha,if_pos hb,QEB];simp only[ha,hb,q1,q2,q3,q4,q5,q6,q7,q8,alw,may,beq_self_eq_true,decide_true];generalize Kx (Qq p b a).lo (Qq p b a).hi (-p.aK) p.aK p.dK.hi=b1;generalize Kx (Qr b a).lo (Qr b a).hi 0 p.oK p.dK.hi=b2;generalize Kx (Qp b a).lo (Qp b a).hi 0 p.oK p.dK.hi=b3;generalize Q4 (Qq p b a).lo (Qq p b a).hi (-p.aK) p.aK p.dK.lo=b4;generalize Q4 (Qr b a).lo (Qr b a).hi 0 p.oK p.dK.lo=b5;generalize Q4 (Qp b a).lo (Qp b a).hi 0 p.oK p.dK.lo=b6
  cases b1<;>cases b2<;>cases b3<;>cases b4<;>cases b5<;>cases b6<;>simp
 have e0:(if a.kind=2 then (if b.kind=1 then ZT p b a else 0)else if a.kind=1/\b.kind=2 then ZT p a b else 0)=0:=by
  split
  .rename_i ha;rw[if_neg (λh=>c2 ⟨h,ha⟩)]
  .rfl
 rw[e0];simp only[beq_iff_eq,beq_eq_false_iff_ne];refine⟨λha=>⟨λhb=>absurd ⟨ha,hb⟩ c1,λ_=>⟨λhb=>⟨λh=>absurd ⟨hb,h⟩ c2,λ_=>trivial⟩,λ_=>trivial⟩⟩,λ_=>⟨λhb=>⟨λh=>absurd ⟨hb,h⟩ c2,λ_=>trivial⟩,λ_=>trivial⟩⟩
def QGP:Tab:=Qc QFu 155 QQg
theorem QQY:Qf QGP:=QOB.add QeR
def QV7:Qx×Edge×Edge×Unit->Bool×AV:=λ|(p,(a,(b,_)))=>(true,.tup [.int false .i64 (JN p a b).1,.int false .i64 (JN p a b).2])
def QNE:FC:=Kj (Ko QV7)
theorem QXx(p:Qx)(a:Edge)(b:Edge):KY (mkE prog QGP) (hnd (mkE prog QGP) 4) false f132 (KL.enc ((p,a,b,()):Qx×Edge×Edge×Unit)) [] 0=QC.need (true) (QC.br (!p.ok) (QC.leaf (AV.tup [vj (0:Int),vj (1:Int)]) ([])) (QC.need (true) (QC.br (!a.ok) (QC.leaf (AV.tup [vj (0:Int),vj (1:Int)]) ([])) (QC.need (true) (QC.br (!b.ok) (QC.leaf (AV.tup [vj (0:Int), vj (1:Int)]) ([])) (QC.need (okP p a b) (QC.leaf (AV.tup [vi (Y7 p a b),vj (0:Int)]) ([])))))))):=by kernel_rfl
theorem Qeb:QS prog 132 QNE:=by
 refine K2 QQY 4 func132 (by kernel_rfl) (by kernel_rfl) ?_
 rintro⟨p,a,b,⟨⟩⟩ hp;rw[QXx p a b];simp only[QV7,QC.den,AV.same,AV.sameL,and_true,true_and]at hp ⊢;unfold JN okP;cases p.ok<;>cases a.ok<;>cases b.ok<;>simp
def qo:Tab:=Qc QGP 132 QNE
theorem QJX:Qf qo:=QQY.add Qeb
def QAy:WF (Puz×Edge×Edge×Unit):=λ|(d,(a,(b,_)))=>(decide (d.ps.n<=1000),.int false .i64 (JN d.pK a b).1,[])
def QRL:FC:=wFC QAy
theorem Qe0(d:Puz)(a:Edge)(b:Edge):Kg (mkE prog qo) (hnd (mkE prog qo) 0) f90 (QZ.vals 0 ((d,a,b,()):Puz×Edge×Edge×Unit)) (QZ.blks 0 ((d,a,b,()):Puz×Edge×Edge×Unit)) 8=QC.need (true) (QC.leaf (vi (JN d.pK a b).1) ([])):=by kernel_rfl
theorem Qdt:JL (mkE prog qo) (Qn f90) 8 QAy (λx_=>(hnd (mkE prog qo) 0)):=by
 refine⟨?_⟩;rintro⟨d,⟨a,⟨b,⟨⟩⟩⟩⟩ hp G h1 h2;exact Qz (QP QJX) 0 G _ h1
theorem QiH:JH (mkE prog qo) f90 8 QAy (λx_=>(hnd (mkE prog qo) 0)):=by
 refine⟨?_⟩;rintro⟨d,⟨a,⟨b,⟨⟩⟩⟩⟩ hp;refine⟨⟨rfl,by simp[QAy],rfl⟩,⟨?_⟩⟩
 rw[Qe0 d a b];simp only[QAy]at hp;refine QG rfl ?_
 .exact KN ⟨rfl,rfl⟩ rfl
theorem Qi3:QS prog 90 QRL:=
 JY (QP QJX) func90 (by kernel_rfl) (by kernel_rfl) (by decide) Qdt QiH
def qU:Tab:=Qc qo 90 QRL
theorem QJv:Qf qU:=QJX.add Qi3
def zW:WF (Puz×Int×Unit):=λ|(d,(p,_))=>(true,.int false .i64 (tnV d p),[])
def QJo:FC:=wFC zW
theorem Qcy(d:Puz)(p:Int):Kg (mkE prog qU) (hnd (mkE prog qU) 0) f34 (QZ.vals 0 ((d,p,()):Puz×Int×Unit)) (QZ.blks 0 ((d,p,()):Puz×Int×Unit)) 8=QC.br (d.turn) (QC.br (decide (p>(0:Int))) (QC.leaf (vj (4:Int)) ([])) (QC.leaf (vj (1:Int)) ([]))) (QC.leaf (vj (1:Int)) ([])):=by kernel_rfl
theorem Qas:JL (mkE prog qU) (Qn f34) 8 zW (λx_=>(hnd (mkE prog qU) 0)):=by
 refine⟨?_⟩;rintro⟨d,⟨p,⟨⟩⟩⟩ hp G h1 h2;exact Qz (QP QJv) 0 G _ h1
theorem QXS:JH (mkE prog qU) f34 8 zW (λx_=>(hnd (mkE prog qU) 0)):=by
 refine⟨?_⟩;rintro⟨d,⟨p,⟨⟩⟩⟩ hp;refine⟨⟨rfl,by simp[zW],rfl⟩,⟨?_⟩⟩
 rw[Qcy d p];simp only[zW]at hp;have fin:∀(v:Int) (c:Bool),v=tnV d p->(QC.leaf (.int c .i64 v) []).den (ZY 8 (zW (d,p,())).2.1 (zW (d,p,())).2.2):=λv c h=>KN ⟨rfl,h⟩ rfl;refine QE (λb0=>?_) (λb0=>?_);refine QE ?_ ?_<;>intro b1
 .refine fin _ _ ?_;rw[tnV,b0,show decide (0<p)=true from b1];rfl
 .refine fin _ _ ?_;rw[tnV,b0,show decide (0<p)=false from b1];rfl
 .refine fin _ _ ?_;rw[tnV,b0];rfl
theorem QSa:QS prog 34 QJo:=
 JY (QP QJv) func34 (by kernel_rfl) (by kernel_rfl) (by decide) Qas QXS
def qx:Tab:=Qc qU 34 QJo
theorem QJn:Qf qx:=QJv.add QSa
def QBS:WF (Puz×Lay×Int×Unit):=λ|(d,(x,(s,_)))=>(decide (0<=x.piece/\x.piece<d.ps.n/\0<=x.turn/\x.turn<4/\0<=s/\s<4),Enc.enc (KI (d.ps.get x.piece.toNat) (onS x s).toNat),[])
def QL3:FC:=wFC QBS
theorem QdY(d:Puz)(x:Lay)(s:Int):Kg (mkF prog qx) (hnd (mkF prog qx) 0) f33 (QZ.vals 0 ((d,x,s,()):Puz×Lay×Int×Unit)) (QZ.blks 0 ((d,x,s,()):Puz×Lay×Int × Unit)) 8 = .need (decide ((0:Int)<=x.piece/\x.piece<(d.ps.n:Int))&&decide (d.ps.n<=d.ps.n)) (.need (decide ((0:Int)<=(i64.wrap (i64.wrap (s+4)-x.turn)).tmod (4:Int)/\(i64.wrap (i64.wrap (s+4)-x.turn)).tmod (4:Int)<4)) (.br (decide ((i64.wrap (i64.wrap (s+4)-x.turn)).tmod (4:Int)=0)) (.need (decide (x.piece.toNat<d.ps.n)) (.leaf (.agg [vi (d.ps.get x.piece.toNat).up.kind,vi (d.ps.get x.piece.toNat).up.at_.lo,vi (d.ps.get x.piece.toNat).up.at_.hi,vi (d.ps.get x.piece.toNat).up.wide.lo,vi (d.ps.get x.piece.toNat).up.wide.hi,vi (d.ps.get x.piece.toNat).up.deep.lo,vi (d.ps.get x.piece.toNat).up.deep.hi]) ([]))) (.br (decide ((i64.wrap (i64.wrap (s+4)-x.turn)).tmod (4:Int)=1)) (.need (decide (x.piece.toNat<d.ps.n)) (.leaf (.agg [vi (d.ps.get x.piece.toNat).right.kind,vi (d.ps.get x.piece.toNat).right.at_.lo,vi (d.ps.get x.piece.toNat).right.at_.hi,vi (d.ps.get x.piece.toNat).right.wide.lo,vi (d.ps.get x.piece.toNat).right.wide.hi,vi (d.ps.get x.piece.toNat).right.deep.lo,vi (d.ps.get x.piece.toNat).right.deep.hi]) ([]))) (.br (decide ((i64.wrap (i64.wrap (s+4)-x.turn)).tmod (4:Int)=2)) (.need (decide (x.piece.toNat<d.ps.n)) (.leaf (.agg [vi (d.ps.get x.piece.toNat).down.kind,vi (d.ps.get x.piece.toNat).down.at_.lo,vi (d.ps.get x.piece.toNat).down.at_.hi,vi (d.ps.get x.piece.toNat).down.wide.lo,vi (d.ps.get x.piece.toNat).down.wide.hi,vi (d.ps.get x.piece.toNat).down.deep.lo,vi (d.ps.get x.piece.toNat).down.deep.hi]) ([]))) (.need (decide (x.piece.toNat<d.ps.n)) (.leaf (.agg [vi (d.ps.get x.piece.toNat).left.kind,vi (d.ps.get x.piece.toNat).left.at_.lo,vi (d.ps.get x.piece.toNat).left.at_.hi,vi (d.ps.get x.piece.toNat).left.wide.lo,vi (d.ps.get x.piece.toNat).left.wide.hi,vi (d.ps.get x.piece.toNat).left.deep.lo,vi (d.ps.get x.piece.toNat).left.deep.hi]) ([]))))))):=by kernel_rfl
theorem QdG:JL (mkF prog qx) (Qn f33) 8 QBS (λx_=>(hnd (mkF prog qx) 0)):=by
 refine⟨?_⟩;rintro⟨d,⟨x,⟨s,⟨⟩⟩⟩⟩ hp G h1 h2;exact Qz (KS QJn) 0 G _ h1
theorem Qju:JH (mkF prog qx) f33 8 QBS (λx_=>(hnd (mkF prog qx) 0)):=by
 refine⟨?_⟩;rintro⟨d,⟨x,⟨s,⟨⟩⟩⟩⟩ hp;refine⟨⟨rfl,by simp[QBS],rfl⟩,⟨?_⟩⟩
 rw[QdY d x s];simp only[QBS]at hp;obtain⟨h1,h2,h3,h4,h5,h6⟩:=qdt hp
 have hw:(i64.wrap (i64.wrap (s+4)-x.turn)).tmod 4=onS x s:=by
  rw[w64 (n:=s+4) (by omega) (by omega),w64 (by omega) (by omega)];rfl
 have ho:0<=onS x s/\onS x s<4:=⟨Int.tmod_nonneg 4 (by omega),Int.tmod_lt_of_pos _ (by decide)⟩
 rw[hw];have hc:decide (x.piece.toNat<d.ps.n)=true:=qde (by omega)
 iterate 2 (refine QG ?_ ?_;rotate_left)
 refine QE (λb0=>?_) (λb0=>?_);refine QG ?_ ?_;rotate_left
 .have e:onS x s=0:=qdt b0;refine KN (v:=Enc.enc (KI (d.ps.get x.piece.toNat) (onS x s).toNat)) ?_ rfl;rw[e];show AV.same _ (Enc.enc (d.ps.get x.piece.toNat).up);simp only[Enc.enc,AV.same,AV.sameL,and_self]
 refine QE (λb1=>?_) (λb1=>?_);refine QG ?_ ?_;rotate_left
 .have e:onS x s=1:=qdt b1;refine KN (v:=Enc.enc (KI (d.ps.get x.piece.toNat) (onS x s).toNat)) ?_ rfl;rw[e];show AV.same _ (Enc.enc (d.ps.get x.piece.toNat).right);simp only[Enc.enc,AV.same,AV.sameL,and_self]
 refine QE (λb2=>?_) (λb2=>?_);refine QG ?_ ?_;rotate_left
 .have e:onS x s=2:=qdt b2;refine KN (v:=Enc.enc (KI (d.ps.get x.piece.toNat) (onS x s).toNat)) ?_ rfl;rw[e];show AV.same _ (Enc.enc (d.ps.get x.piece.toNat).down);simp only[Enc.enc,AV.same,AV.sameL,and_self]
 refine QG ?_ ?_;rotate_left
 .have e:onS x s=3:=by
   have q0:=qdf b0;have q1:=qdf b1;have q2:=qdf b2;omega
  refine KN (v:=Enc.enc (KI (d.ps.get x.piece.toNat) (onS x s).toNat)) ?_ rfl;rw[e];show AV.same _ (Enc.enc (d.ps.get x.piece.toNat).left);simp only[Enc.enc,AV.same,AV.sameL,and_self]
 all_goals first|exact hc|(simp;omega)
theorem QaC:QS prog 33 QL3:=
 JY (KS QJn) func33 (by kernel_rfl) (by kernel_rfl) (by decide) QdG Qju
def qz:Tab:=Qc qx 33 QL3
theorem QKm:Qf qz:=QJn.add QaC
