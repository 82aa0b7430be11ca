/- - -/
import Derived.Test.YtbpffdkemeoajaaMvzd
import Derived.Test.YtbpffdkemeoajaaMvp
open Go.IntKind (i64)
set_option maxRecDepth 100000
namespace Go.Proofs.Ytbpffdkemeoajaa
open Go.SX
structure KJ where
 s:Sp
 d:Sp
 lo:Int
 hi:Int
 n:Int
def KJ.I(x:KJ):JSt:=⟨40,[(1,.int false .i64 x.lo),(2,.int false .i64 x.hi),(4,.ptr 0 0 0),(7,.ptr 8 0 0),(9,.int false .i64 x.n)],[(8,.cells 0 23 (Enc.enc x.d).cells),(0,.cells 0 23 (Enc.enc x.s).cells)],56⟩
def KJ.pre(x:KJ):Prop:=(-100000≤x.s.lo∧x.s.lo≤100000)∧(-100000≤x.s.hi∧x.s.hi≤100000)∧(-500≤x.lo∧x.lo≤0)∧(0≤x.hi∧x.hi≤500)∧(0≤x.d.lo∧x.d.lo≤100) ∧ -100000≤x.n∧x.n≤100001
def KJ.good(x:KJ)(n:Int):Prop:=n≤min x.s.hi x.hi∧1000*x.lo≤n*(1000+x.d.lo)∧n*(1000+x.d.lo)≤1000*x.hi
def KJ.yes(x:KJ):Prop:=∃ n,x.n≤n∧x.good n
def zS(x:KJ)(e:Ex)(J:JSt):Prop:=(e = .ret∧J=⟨40,[(8,.bool true true)],[],0⟩∧x.yes)∨(e = .exit 0∧J=⟨40,[],[],0⟩∧¬ x.yes)
def Hj:Ex→List Nat
 | .normal=>[1,2,4,7,9]
 | .ret=>[8]
 | .exit _=>[]
def KJ.mu(x:KJ):Nat:=(min x.s.hi x.hi+1-x.n).toNat
def KJ.next(x:KJ):KJ:={ x with n:=x.n+1 }
def G5(x:KJ):QC := .leaf (.tup [.nilp,.ptr 40 0 0,.int false .i64 x.lo,.int false .i64 x.hi,.ptr 0 0 0,.ptr 8 0 0,.int false .i64 (i64.wrap (x.n+1))]) [(8,.cells 0 23 (Enc.enc x.d).cells),(0,.cells 0 23 (Enc.enc x.s).cells)]
theorem QVj(x:KJ)(g:Nat→Value):exec (mkE Try.prog YL) (hnd (mkE Try.prog YL) 0) (Qa Try.f106 0) (JSt.inst x.I g) (Gt Hj) =
  .br (decide (x.n ≤ min x.s.hi x.hi))
    (.br (decide (i64.wrap (x.n * i64.wrap (1000 + x.d.lo)) ≥ i64.wrap (1000 * x.lo)))
      (.br (decide (i64.wrap (x.n * i64.wrap (1000 + x.d.lo)) ≤ i64.wrap (1000 * x.hi)))
        (.leaf (.tup [.nili,.ptr 40 0 0,.bool true true]) [(8,.cells 0 23 (Enc.enc x.d).cells),(0,.cells 0 23 (Enc.enc x.s).cells)])
        (G5 x)) (G5 x))
    (.leaf (.tup [.ptr 0 0 0,.ptr 40 0 0]) [(8,.cells 0 23 (Enc.enc x.d).cells),(0,.cells 0 23 (Enc.enc x.s).cells)]) := by kernel_rfl
theorem QKG{x:KJ}(h:x.pre):i64.wrap (x.n*i64.wrap (1000+x.d.lo))=x.n*(1000+x.d.lo)∧i64.wrap (1000*x.lo)=1000*x.lo∧i64.wrap (1000*x.hi)=1000*x.hi∧i64.wrap (x.n+1)=x.n+1:=by
 obtain⟨h1,h2,h3,h4,h5,h6,h7⟩:=h;have e:i64.wrap (1000+x.d.lo)=1000+x.d.lo:=w64 (by omega) (by omega)
 have m:=Int.mul_le_mul_of_nonneg_right h6 (show 0≤1000+x.d.lo by omega)
 have m':=Int.mul_le_mul_of_nonneg_right h7 (show 0≤1000+x.d.lo by omega)
 rw[e];exact⟨w64 (by omega) (by omega),w64 (by omega) (by omega),w64 (by omega) (by omega),w64 (by omega) (by omega)⟩
theorem QKC{x:KJ}(hp:x.pre)(hn:x.n≤min x.s.hi x.hi)(hb:¬ (1000*x.lo≤x.n*(1000+x.d.lo)∧x.n*(1000+x.d.lo)≤1000*x.hi)):(G5 x).den (qq (QJ9 KJ.I KJ.pre KJ.mu zS 0 Hj x) (Go.SX.Leaves zS 0 Hj x)):=by
 unfold G5;rw[(QKG hp).2.2.2];refine⟨x.next,fun i=>i,?_,?_,?_,?_⟩
 ·obtain⟨h1,h2,h3,h4,h5,h6,h7⟩:=hp;refine⟨h1,h2,h3,h4,h5,?_,?_⟩<;>simp only[KJ.next]<;>omega
 ·simp only[KJ.mu,KJ.next];omega
 ·intro e J hR
  have hy:x.next.yes↔x.yes:=by
   constructor
   ·rintro⟨n,h1,h2⟩;simp only[KJ.next]at h1;exact⟨n,by omega,h2⟩
   ·rintro⟨n,h1,h2⟩;rcases(show n=x.n∨x.n+1≤n by omega)with rfl|h3
    ·exact absurd h2.2 hb
    ·exact⟨n,h3,h2⟩
  unfold zS at *;rw[hy]at hR;exact hR
 ·refine XB.same rfl rfl ?_ ?_ rfl rfl
  ·exact⟨⟨rfl,rfl⟩,⟨rfl,rfl⟩,⟨rfl,rfl,rfl⟩,⟨rfl,rfl,rfl⟩,⟨rfl,rfl⟩,trivial⟩
  ·exact⟨⟨_,rfl,rfl,rfl,⟨rfl,rfl⟩,⟨rfl,rfl⟩,trivial⟩,⟨_,rfl,rfl,rfl,⟨rfl,rfl⟩,⟨rfl,rfl⟩,trivial⟩,trivial⟩
theorem QQA:QEJ KJ.I KJ.pre KJ.mu zS 0 Hj (mkE Try.prog YL) (hnd (mkE Try.prog YL) 0) (Qa Try.f106 0):=by
 intro x g hp;rw[QVj];obtain⟨e1,e2,e3,_⟩:=QKG hp;simp only[QC.den,e1,e2,e3,qdE,decide_eq_false_iff_not];refine⟨fun hn=>⟨fun h1=>⟨fun h2 => ?_,fun h2 => ?_⟩,fun h1 => ?_⟩,fun hn => ?_⟩
 ·exact⟨⟨40,[(8,.bool true true)],[],0⟩,fun i=>i,.inl ⟨rfl,rfl,x.n,Int.le_refl _,hn,h1,h2⟩,XB.same rfl rfl ⟨rfl,trivial⟩ trivial rfl rfl⟩
 ·exact QKC hp hn (fun h=>h2 h.2)
 ·exact QKC hp hn (fun h=>h1 h.1)
 ·refine⟨⟨40,[],[],0⟩,fun i=>i,.inr ⟨rfl,rfl,?_⟩,XB.same rfl rfl trivial trivial rfl rfl⟩;rintro⟨n,h1,h2,_⟩;omega
instance (x : KJ) : Decidable x.pre := by unfold KJ.pre; infer_instance
def YB:Code→St→(Ex→St→QC)→QC:=fun _ st K=>match st.tm.length==40&&Vn st.hp,QH st.tm 1,QH st.tm 2,QH st.tm 4,QH st.tm 7,QH st.tm 9,Go.SX.look st.hp 8,Go.SX.look st.hp 0 with
 | true,.int _ .i64 lo,.int _ .i64 hi,.ptr 0 0 0,.ptr 8 0 0,.int _ .i64 n,some (.cells 0 23 [.int _ .i64 dlo,.int _ .i64 dhi]),some (.cells 0 23 [.int _ .i64 slo,.int _ .i64 shi])=>
  .need (decide (KJ.pre ⟨⟨slo,shi⟩,⟨dlo,dhi⟩,lo,hi,n⟩)) (.both (.asm (KJ.yes ⟨⟨slo,shi⟩,⟨dlo,dhi⟩,lo,hi,n⟩) (.all fun g=>K .ret (JSt.inst ⟨40,[(8,.bool true true)],[],0⟩ g)))
   (.asm (¬ KJ.yes ⟨⟨slo,shi⟩,⟨dlo,dhi⟩,lo,hi,n⟩) (.all fun g=>K (.exit 0) (JSt.inst ⟨40,[],[],0⟩ g))))
 | _, _, _, _, _, _, _, _ => .fail "some"
theorem QUG(body:Code)(st:St)(K:Ex→St→QC)(T:AV→List (Nat×Blk)→Prop)(h:(YB body st K).den T):∃ s q ls',KJ.pre s∧XB 0 q ls' st.tm.length (ls'.map (QH st.tm)) st.hp (KJ.I s)∧∀ e J g,zS s e J→(K e (J.inst g)).den T:=by
 unfold YB at h;split at h<;>(try (exact h.elim))
 rename_i k1 lo k2 hi k9 n kd dlo ke dhi ks slo kt shi c1 e1 e2 e4 e7 e9 h8 h0;simp only[QC.den,qdE]at h;rw[qbA]at c1;refine⟨⟨⟨slo,shi⟩,⟨dlo,dhi⟩,lo,hi,n⟩,fun i=>i,[1,2,4,7,9],h.1,XB.same rfl ?_ ?_ ?_ rfl rfl ?_,?_⟩
 ·exact beq_iff_eq.1 c1.1
 ·simp only[List.map_cons,List.map_nil, *];exact⟨⟨rfl,rfl⟩,⟨rfl,rfl⟩,⟨rfl,rfl,rfl⟩,⟨rfl,rfl,rfl⟩,⟨rfl,rfl⟩,trivial⟩
 ·exact⟨⟨_,h8,rfl,rfl,⟨rfl,rfl⟩,⟨rfl,rfl⟩,trivial⟩,⟨_,h0,rfl,rfl,⟨rfl,rfl⟩,⟨rfl,rfl⟩,trivial⟩,trivial⟩
 ·exact c1.2
 ·rintro e J g (⟨rfl,rfl,hy⟩|⟨rfl,rfl,hy⟩)
  ·exact h.2.1 hy g
  ·exact h.2.2 hy g
theorem QTc(G:Ctx)(hG:G.n=0)(hrd:G.rd=none):KH (mkE Try.prog YL) G { hnd (mkE Try.prog YL) 0 with loop:=YB } (Qr Try.f106):=
 ⟨fun b hb=>by
  have e:Kg (Qr Try.f106)=[.loop (Qa Try.f106 0)]:=by kernel_rfl
  rw[e,List.mem_singleton]at hb;subst hb;exact QOA (QS qA) (by omega) (Q3 (QS qA) 0 G _ hrd) (fun _=>Nat.zero_le _) QQA (fun st K T h=>QUG (Qa Try.f106 0) st K T h),(Q3 (QS qA) 0 G (Qr Try.f106) hrd).call,(Q3 (QS qA) 0 G (Qr Try.f106) hrd).yield⟩
def Kb(s:Sp)(lo hi:Int)(d:Sp):Bool:=decide (s.lo≤s.hi∧(-100000≤s.lo∧s.lo≤100000)∧(-100000≤s.hi∧s.hi≤100000)∧(-500≤lo∧lo≤0)∧(0≤hi∧hi≤500)∧0≤d.lo∧d.lo≤100)
def QMX:Sp×Int×Int×Sp×Unit→Bool×AV:=fun|(s,(lo,(hi,(d,_))))=>(Kb s lo hi d,.bool false (Qp s.lo s.hi lo hi d.lo))
def QGr:FC:=Q5 (Q6 QMX)
theorem QVR(s:Sp)(lo:Int)(hi:Int)(d:Sp):Q2 (mkE Try.prog YL) { hnd (mkE Try.prog YL) 0 with loop:=YB } false Try.f106 (Qm.enc ((s,lo,hi,d,()):Sp×Int×Int×Sp×Unit)) [] 0 =
  QC.need (decide (KJ.mk s d lo hi (max s.lo lo)).pre) (QC.both (QC.asm ((KJ.mk s d lo hi (max s.lo lo)).yes) (QC.all (fun(g0:Nat→Value)=>QC.leaf (AV.bool true
  true) ([])))) (QC.asm (¬(KJ.mk s d lo hi (max s.lo lo)).yes) (QC.all (fun(g1:Nat→Value)=>QC.leaf (AV.bool true false) ([]))))):=by kernel_rfl
theorem QNy:QQ Try.prog 106 QGr:=by
 refine QC0 (QS qA) Try.func106 (by kernel_rfl) (by kernel_rfl) QTc ?_
 rintro⟨s,lo,hi,d,⟨⟩⟩ hp;rw[QVR s lo hi d];simp only[QMX,QC.den,AV.same,AV.sameL,and_true,true_and]at hp ⊢;have hq:=qdt hp;obtain⟨h0,h1,h2,h3,h4,h5⟩:=hq;unfold KJ.yes KJ.good;refine⟨decide_eq_true ⟨h1,h2,h3,h4,h5,?_,?_⟩,?_,?_⟩
 ·show -100000≤max s.lo lo;omega
 ·show max s.lo lo≤100001;omega
 ·rintro⟨n,g1,g2,g3,g4⟩ _
  dsimp only at g1 g2 g3 g4
  exact(QQa (n:=n) (by omega) (by omega) (by omega) (by omega) (by omega) g3 g4).symm
 ·intro hn _
  dsimp only at hn
  refine(QSL (by omega) (by omega) (by omega) h0 fun n g1 g2 g3=>hn ⟨n,g1,g2,g3⟩).symm
def H6:Tab:=Qb YL 106 QGr
theorem QFs:QV H6:=qA.add QNy
theorem QGi{p:Qk}{t h:Edge}(h1:p.ok=true)(h2:t.ok=true)(h3:h.ok=true)(ht:t.kind=1)(hh:h.kind=2):(Qs.B ⟨p,t,h⟩∧i64.wrap (0-p.slack) = -p.slack)∧(V5 (Qd p t h) (-p.slack) p.slack p.damp=true∧V5 (Qe t h) 0 p.loose p.damp=true∧V5 (Qf t h) 0 p.loose p.damp=true) ∧
  Kb (Qd p t h) (-p.slack) p.slack p.damp=true∧Kb (Qe t h) 0 p.loose p.damp=true∧Kb (Qf t h) 0 p.loose p.damp=true:=by
 have hB:=QEb h1 h2 h3 ht hh;have hb:=QQU hB;have h1':=hB.1;unfold Jq at h1'
 have s2:(t.at_.lo≤t.at_.hi∧t.wide.lo≤t.wide.hi∧t.deep.lo≤t.deep.hi):=by
  unfold Edge.ok Sp.isIn at h2;simp[ht]at h2;omega
 have s3:(h.at_.lo≤h.at_.hi∧h.wide.lo≤h.wide.hi∧h.deep.lo≤h.deep.hi):=by
  unfold Edge.ok Sp.isIn at h3;simp[hh]at h3;omega
 obtain⟨o1,o2,o3,o4⟩:=hb;simp only at h1';have n1:(Qd p t h).lo≤(Qd p t h).hi:=by simp only[Qd];omega
 have n2:(Qe t h).lo≤(Qe t h).hi:=by simp only[Qe];omega
 have n3:(Qf t h).lo≤(Qf t h).hi:=by simp only[Qf];omega
 unfold V5 Kb;refine⟨⟨hB,?_⟩,⟨decide_eq_true ?_,decide_eq_true ?_,decide_eq_true ?_⟩,decide_eq_true ?_,decide_eq_true ?_,decide_eq_true ?_⟩
 ·rw[w64 (by omega) (by omega)];omega
 all_goals omega
def QFY:Qk×Edge×Edge×Unit→Bool×AV:=fun|(p,(a,(b,_)))=>(okP p a b,.int false .i64 (Yp p a b))
def QMc:FC:=Q5 (Q6 QFY)
theorem QTe(p:Qk)(a:Edge)(b:Edge):Q2 (mkE Try.prog H6) (hnd (mkE Try.prog H6) 4) false Try.f89 (Qm.enc ((p,a,b,()):Qk×Edge×Edge×Unit)) [] 0 = .br (a.kind==1) (.br (b.kind==2)
  (.need (decide (Qs.mk p a b).B) (.need (V5 (Qd p a b) (i64.wrap ((0:Int)-p.slack)) p.slack p.damp) (.br (KW (Qd p a b).lo (Qd p a b).hi
  (i64.wrap ((0:Int)-p.slack)) p.slack p.damp.hi) (.need (V5 (Qe a b) (0:Int) p.loose p.damp) (.br (KW (Qe a b).lo (Qe a b).hi (0:Int) p.loose
  p.damp.hi) (.need (V5 (Qf a b) (0:Int) p.loose p.damp) (.br (KW (Qf a b).lo (Qf a b).hi (0:Int) p.loose p.damp.hi) (.leaf (.int true .i64 2) ([])) (.need
  (Kb (Qd p a b) (i64.wrap ((0:Int)-p.slack)) p.slack p.damp) (.br (Qp (Qd p a b).lo (Qd p a b).hi (i64.wrap ((0:Int)-p.slack)) p.slack
  p.damp.lo) (.need (Kb (Qe a b) (0:Int) p.loose p.damp) (.br (Qp (Qe a b).lo (Qe a b).hi (0:Int) p.loose p.damp.lo) (.need (Kb (Qf a b) (0:Int)
  p.loose p.damp) (.br (Qp (Qf a b).lo (Qf a b).hi (0:Int) p.loose p.damp.lo) (.leaf (.int true .i64 1) ([])) (.leaf (.int true .i64 0) ([])))) (.leaf (.int true .i64
  0) ([])))) (.leaf (.int true .i64 0) ([])))))) (.need (Kb (Qd p a b) (i64.wrap ((0:Int)-p.slack)) p.slack p.damp) (.br (Qp (Qd p a b).lo (Qd p a b).hi
  (i64.wrap ((0:Int)-p.slack)) p.slack p.damp.lo) (.need (Kb (Qe a b) (0:Int) p.loose p.damp) (.br (Qp (Qe a b).lo (Qe a b).hi (0:Int) p.loose
  p.damp.lo) (.need (Kb (Qf a b) (0:Int) p.loose p.damp) (.br (Qp (Qf a b).lo (Qf a b).hi (0:Int) p.loose p.damp.lo) (.leaf (.int true .i64 1) ([])) (.leaf
  (.int true .i64 0) ([])))) (.leaf (.int true .i64 0) ([])))) (.leaf (.int true .i64 0) ([])))))) (.need (Kb (Qd p a b) (i64.wrap ((0:Int)-p.slack)) p.slack p.damp)
  (.br (Qp (Qd p a b).lo (Qd p a b).hi (i64.wrap ((0:Int)-p.slack)) p.slack p.damp.lo) (.need (Kb (Qe a b) (0:Int) p.loose p.damp) (.br (Qp
  (Qe a b).lo (Qe a b).hi (0:Int) p.loose p.damp.lo) (.need (Kb (Qf a b) (0:Int) p.loose p.damp) (.br (Qp (Qf a b).lo (Qf a b).hi (0:Int) p.loose
  p.damp.lo) (.leaf (.int true .i64 1) ([])) (.leaf (.int true .i64 0) ([])))) (.leaf (.int true .i64 0) ([])))) (.leaf (.int true .i64 0) ([]))))))) (.br (b.kind==1) (.br (a.kind
  == 2) (.need (decide (Qs.mk p b a).B) (.need (V5 (Qd p b a) (i64.wrap ((0:Int)-p.slack)) p.slack p.damp) (.br (KW (Qd p b a).lo (Qd p b a).hi
  (i64.wrap ((0:Int)-p.slack)) p.slack p.damp.hi) (.need (V5 (Qe b a) (0:Int) p.loose p.damp) (.br (KW (Qe b a).lo (Qe b a).hi (0:Int) p.loose
  p.damp.hi) (.need (V5 (Qf b a) (0:Int) p.loose p.damp) (.br (KW (Qf b a).lo (Qf b a).hi (0:Int) p.loose p.damp.hi) (.leaf (.int true .i64 2) ([])) (.need
  (Kb (Qd p b a) (i64.wrap ((0:Int)-p.slack)) p.slack p.damp) (.br (Qp (Qd p b a).lo (Qd p b a).hi (i64.wrap ((0:Int)-p.slack)) p.slack
  p.damp.lo) (.need (Kb (Qe b a) (0:Int) p.loose p.damp) (.br (Qp (Qe b a).lo (Qe b a).hi (0:Int) p.loose p.damp.lo) (.need (Kb (Qf b a) (0:Int)
  p.loose p.damp) (.br (Qp (Qf b a).lo (Qf b a).hi (0:Int) p.loose p.damp.lo) (.leaf (.int true .i64 1) ([])) (.leaf (.int true .i64 0) ([])))) (.leaf (.int true .i64
  0) ([])))) (.leaf (.int true .i64 0) ([])))))) (.need (Kb (Qd p b a) (i64.wrap ((0:Int)-p.slack)) p.slack p.damp) (.br (Qp (Qd p b a).lo (Qd p b a).hi
  (i64.wrap ((0:Int)-p.slack)) p.slack p.damp.lo) (.need (Kb (Qe b a) (0:Int) p.loose p.damp) (.br (Qp (Qe b a).lo (Qe b a).hi (0:Int) p.loose
  p.damp.lo) (.need (Kb (Qf b a) (0:Int) p.loose p.damp) (.br (Qp (Qf b a).lo (Qf b a).hi (0:Int) p.loose p.damp.lo) (.leaf (.int true .i64 1) ([])) (.leaf
  (.int true .i64 0) ([])))) (.leaf (.int true .i64 0) ([])))) (.leaf (.int true .i64 0) ([])))))) (.need (Kb (Qd p b a) (i64.wrap ((0:Int)-p.slack)) p.slack p.damp)
  (.br (Qp (Qd p b a).lo (Qd p b a).hi (i64.wrap ((0:Int)-p.slack)) p.slack p.damp.lo) (.need (Kb (Qe b a) (0:Int) p.loose p.damp) (.br (Qp
  (Qe b a).lo (Qe b a).hi (0:Int) p.loose p.damp.lo) (.need (Kb (Qf b a) (0:Int) p.loose p.damp) (.br (Qp (Qf b a).lo (Qf b a).hi (0:Int) p.loose
  p.damp.lo) (.leaf (.int true .i64 1) ([])) (.leaf (.int true .i64 0) ([])))) (.leaf (.int true .i64 0) ([])))) (.leaf (.int true .i64 0) ([]))))))) (.leaf (.int true .i64 0) ([])))
  (.leaf (.int true .i64 0) ([])))) (.br (b.kind==1) (.br (a.kind==2) (.need (decide (Qs.mk p b a).B) (.need (V5 (Qd p b a) (i64.wrap ((0:Int)-p.slack))
  p.slack p.damp) (.br (KW (Qd p b a).lo (Qd p b a).hi (i64.wrap ((0:Int)-p.slack)) p.slack p.damp.hi) (.need (V5 (Qe b a) (0:Int) p.loose p.damp) (.br
  (KW (Qe b a).lo (Qe b a).hi (0:Int) p.loose p.damp.hi) (.need (V5 (Qf b a) (0:Int) p.loose p.damp) (.br (KW (Qf b a).lo (Qf b a).hi (0:Int)
  p.loose p.damp.hi) (.leaf (.int true .i64 2) ([])) (.need (Kb (Qd p b a) (i64.wrap ((0:Int)-p.slack)) p.slack p.damp) (.br (Qp (Qd p b a).lo (Qd p b
  a).hi (i64.wrap ((0:Int)-p.slack)) p.slack p.damp.lo) (.need (Kb (Qe b a) (0:Int) p.loose p.damp) (.br (Qp (Qe b a).lo (Qe b a).hi (0:Int)
  p.loose p.damp.lo) (.need (Kb (Qf b a) (0:Int) p.loose p.damp) (.br (Qp (Qf b a).lo (Qf b a).hi (0:Int) p.loose p.damp.lo) (.leaf (.int true .i64 1) ([]))
  (.leaf (.int true .i64 0) ([])))) (.leaf (.int true .i64 0) ([])))) (.leaf (.int true .i64 0) ([])))))) (.need (Kb (Qd p b a) (i64.wrap ((0:Int)-p.slack)) p.slack
  p.damp) (.br (Qp (Qd p b a).lo (Qd p b a).hi (i64.wrap ((0:Int)-p.slack)) p.slack p.damp.lo) (.need (Kb (Qe b a) (0:Int) p.loose p.damp) (.br
  (Qp (Qe b a).lo (Qe b a).hi (0:Int) p.loose p.damp.lo) (.need (Kb (Qf b a) (0:Int) p.loose p.damp) (.br (Qp (Qf b a).lo (Qf b a).hi (0:Int)
  p.loose p.damp.lo) (.leaf (.int true .i64 1) ([])) (.leaf (.int true .i64 0) ([])))) (.leaf (.int true .i64 0) ([])))) (.leaf (.int true .i64 0) ([])))))) (.need (Kb (Qd p b
  a) (i64.wrap ((0:Int)-p.slack)) p.slack p.damp) (.br (Qp (Qd p b a).lo (Qd p b a).hi (i64.wrap ((0:Int)-p.slack)) p.slack p.damp.lo) (.need
  (Kb (Qe b a) (0:Int) p.loose p.damp) (.br (Qp (Qe b a).lo (Qe b a).hi (0:Int) p.loose p.damp.lo) (.need (Kb (Qf b a) (0:Int) p.loose p.damp) (.br
  (Qp (Qf b a).lo (Qf b a).hi (0:Int) p.loose p.damp.lo) (.leaf (.int true .i64 1) ([])) (.leaf (.int true .i64 0) ([])))) (.leaf (.int true .i64 0) ([])))) (.leaf
  (.int true .i64 0) ([]))))))) (.leaf (.int true .i64 0) ([]))) (.leaf (.int true .i64 0) ([]))):=by kernel_rfl
theorem QU6:QQ Try.prog 89 QMc:=by
 refine KC QFs 4 Try.func89 (by kernel_rfl) (by kernel_rfl) ?_
 rintro⟨p,a,b,⟨⟩⟩ hp;rw[QTe p a b];simp only[QFY,QC.den,AV.same,AV.sameL,and_true,true_and]at hp ⊢;unfold okP at hp;simp only[qbA]at hp;obtain⟨h1,h2,h3⟩:=hp;unfold Yp
 by_cases c1:a.kind=1∧b.kind=2
 ·obtain⟨ha,hb⟩:=c1;obtain⟨⟨q1,q2⟩,⟨q3,q4,q5⟩,q6,q7,q8⟩:=QGi h1 h2 h3 ha hb;rw[if_neg (by omega),if_pos ⟨ha,hb⟩,QB7]
  simp only[ha,hb,q1,q2,q3,q4,q5,q6,q7,q8,alw,may,beq_self_eq_true,decide_true];generalize KW (Qd p a b).lo (Qd p a b).hi (-p.slack) p.slack p.damp.hi=b1;generalize KW (Qe a b).lo (Qe a b).hi 0 p.loose p.damp.hi=b2;generalize KW (Qf a b).lo (Qf a b).hi 0 p.loose p.damp.hi=b3;generalize Qp (Qd p a b).lo (Qd p a b).hi (-p.slack) p.slack p.damp.lo=b4;generalize Qp (Qe a b).lo (Qe a b).hi 0 p.loose p.damp.lo=b5;generalize Qp (Qf a b).lo (Qf a b).hi 0 p.loose p.damp.lo=b6;cases b1<;>cases b2<;>cases b3<;>cases b4<;>cases b5<;>cases b6<;>simp
 by_cases c2:b.kind=1∧a.kind=2
 ·obtain⟨hb,ha⟩:=c2;obtain⟨⟨q1,q2⟩,⟨q3,q4,q5⟩,q6,q7,q8⟩:=QGi h1 h3 h2 hb ha;rw[if_pos ha,if_pos hb,QB7];simp only[ha,hb,q1,q2,q3,q4,q5,q6,q7,q8,alw,may,beq_self_eq_true,decide_true];generalize KW (Qd p b a).lo (Qd p b a).hi (-p.slack) p.slack p.damp.hi=b1;generalize KW (Qe b a).lo (Qe b a).hi 0 p.loose p.damp.hi=b2;generalize KW (Qf b a).lo (Qf b a).hi 0 p.loose p.damp.hi=b3;generalize Qp (Qd p b a).lo (Qd p b a).hi (-p.slack) p.slack p.damp.lo=b4;generalize Qp (Qe b a).lo (Qe b a).hi 0 p.loose p.damp.lo=b5;generalize Qp (Qf b a).lo (Qf b a).hi 0 p.loose p.damp.lo=b6
  cases b1<;>cases b2<;>cases b3<;>cases b4<;>cases b5<;>cases b6<;>simp
 have e0:(if a.kind=2 then (if b.kind=1 then Yg p b a else 0)else if a.kind=1∧b.kind=2 then Yg p a b else 0)=0:=by
  split
  ·rename_i ha;rw[if_neg (fun h=>c2 ⟨h,ha⟩)]
  ·rfl
 rw[e0];simp only[beq_iff_eq,beq_eq_false_iff_ne];refine⟨fun ha=>⟨fun hb=>absurd ⟨ha,hb⟩ c1,fun _=>⟨fun hb=>⟨fun h=>absurd ⟨hb,h⟩ c2,fun _=>trivial⟩,fun _=>trivial⟩⟩,fun _=>⟨fun hb=>⟨fun h=>absurd ⟨hb,h⟩ c2,fun _=>trivial⟩,fun _=>trivial⟩⟩
def HU:Tab:=Qb H6 89 QMc
theorem QIO:QV HU:=QFs.add QU6
def QLg:Qk×Edge×Edge×Unit→Bool×AV:=fun|(p,(a,(b,_)))=>(true,.tup [.int false .i64 (Qw p a b).1,.int false .i64 (Qw p a b).2])
def QIM:FC:=Q5 (Q6 QLg)
theorem QUP(p:Qk)(a:Edge)(b:Edge):Q2 (mkE Try.prog HU) (hnd (mkE Try.prog HU) 4) false Try.f69 (Qm.enc ((p,a,b,()):Qk×Edge×Edge×Unit)) [] 0 =
  QC.need (true) (QC.br (!p.ok) (QC.leaf (AV.tup [AV.int true i64 (0:Int),AV.int true i64 (1:Int)]) ([])) (QC.need (true) (QC.br (!a.ok) (QC.leaf
  (AV.tup [AV.int true i64 (0:Int),AV.int true i64 (1:Int)]) ([])) (QC.need (true) (QC.br (!b.ok) (QC.leaf (AV.tup [AV.int true i64 (0:Int),
  AV.int true i64 (1:Int)]) ([])) (QC.need (okP p a b) (QC.leaf (AV.tup [AV.int false i64 (Yp p a b),AV.int true i64 (0:Int)]) ([])))))))):=by kernel_rfl
theorem QRs:QQ Try.prog 69 QIM:=by
 refine KC QIO 4 Try.func69 (by kernel_rfl) (by kernel_rfl) ?_
 rintro⟨p,a,b,⟨⟩⟩ hp;rw[QUP p a b];simp only[QLg,QC.den,AV.same,AV.sameL,and_true,true_and]at hp ⊢;unfold Qw okP;cases p.ok<;>cases a.ok<;>cases b.ok<;>simp
def H3:Tab:=Qb HU 69 QIM
theorem QJ3:QV H3:=QIO.add QRs
def QMz:Int×Int×Int×Unit→Bool×AV:=fun|(n,(a,(b,_)))=>(true,.bool false (QY n a b))
def QIA:FC:=Q5 (Q6 QMz)
theorem QVv(n:Int)(a:Int)(b:Int):Q2 (mkE Try.prog H3) (hnd (mkE Try.prog H3) 0) false Try.f68 (Qm.enc ((n,a,b,()):Int×Int×Int×Unit)) [] 0 =
  QC.br (decide (a≤n)) (QC.leaf (AV.bool false (decide (n≤b))) ([])) (QC.leaf (AV.bool true false) ([])):=by kernel_rfl
theorem QVm:QQ Try.prog 68 QIA:=by
 refine KC QJ3 0 Try.func68 (by kernel_rfl) (by kernel_rfl) ?_
 rintro⟨n,a,b,⟨⟩⟩ hp;rw[QVv n a b];simp only[QMz,QC.den,AV.same,AV.sameL,and_true,true_and]at hp ⊢
 (repeat' (first|(refine And.intro ?_ ?_)|(intro _)))<;>simp_all [QY]<;>omega
def HS:Tab:=Qb H3 68 QIA
theorem QG9:QV HS:=QJ3.add QVm
def QLC:Sp×Sp×Unit→Bool×AV:=fun|(a,(b,_))=>(true,.bool false (com a b))
def QMS:FC:=Q5 (Q6 QLC)
theorem QTE(a:Sp)(b:Sp):Q2 (mkE Try.prog HS) (hnd (mkE Try.prog HS) 0) false Try.f102 (Qm.enc ((a,b,()):Sp×Sp×Unit)) [] 0 =
  QC.br (decide (a.lo≤b.hi)) (QC.leaf (AV.bool false (decide (b.lo≤a.hi))) ([])) (QC.leaf (AV.bool true false) ([])):=by kernel_rfl
theorem QVg:QQ Try.prog 102 QMS:=by
 refine KC QG9 0 Try.func102 (by kernel_rfl) (by kernel_rfl) ?_
 rintro⟨a,b,⟨⟩⟩ hp;rw[QTE a b];simp only[QLC,QC.den,AV.same,AV.sameL,and_true,true_and]at hp ⊢;simp only[com];refine⟨fun h => ?_,fun h => ?_⟩
 ·rw[h];simp
 ·rw[h];simp
def GD:Tab:=Qb HS 102 QMS
theorem QFb:QV GD:=QG9.add QVg
def QKX:Edge×Edge×Unit→Bool×AV:=fun|(a,(b,_))=>(true,.bool false (isS a b))
def QLZ:FC:=Q5 (Q6 QKX)
theorem QTs(a:Edge)(b:Edge):Q2 (mkE Try.prog GD) (hnd (mkE Try.prog GD) 0) false Try.f88 (Qm.enc ((a,b,()):Edge×Edge×Unit)) [] 0 =
  QC.br (a.kind==b.kind) (QC.br (a.kind==(0:Int)) (QC.leaf (AV.bool true true) ([])) (QC.need (true) (QC.br (com a.at_ b.at_) (QC.need (true) (QC.br (com a.wide
  b.wide) (QC.need (true) (QC.leaf (AV.bool false (com a.deep b.deep)) ([]))) (QC.leaf (AV.bool true false) ([])))) (QC.leaf (AV.bool true false) ([]))))) (QC.leaf (AV.bool
  true false) ([])):=by kernel_rfl
theorem QOZ:QQ Try.prog 88 QLZ:=by
 refine KC QFb 0 Try.func88 (by kernel_rfl) (by kernel_rfl) ?_
 rintro⟨a,b,⟨⟩⟩ hp;rw[QTs a b];simp only[QKX,QC.den,AV.same,AV.sameL,and_true,true_and]at hp ⊢;simp only[isS,isF];generalize com a.at_ b.at_=c1
 generalize com a.wide b.wide=c2;generalize com a.deep b.deep=c3
 by_cases h:a.kind=b.kind
 ·by_cases h0:b.kind=0
  ·simp[h,h0]
  ·cases c1<;>cases c2<;>cases c3<;>simp[h,h0]
 ·by_cases h0:a.kind=0
  ·have:¬ b.kind=0:=fun e=>h (by rw[h0,e])
   have h':¬ 0=b.kind:=fun e=>this e.symm;simp[h0,this,h']
  ·simp[h,h0]
def QAq:Tab:=Qb GD 88 QLZ
theorem QGv:QV QAq:=QFb.add QOZ
def QKE:QG×Unit→Bool×AV:=fun|(s,_)=>(true,.bool false s.ok)
def QGz:FC:=Q5 (Q6 QKE)
theorem QNI(s:QG):Q2 (mkE Try.prog QAq) (hnd (mkE Try.prog QAq) 6) false Try.f28 (Qm.enc ((s,()):QG×Unit)) [] 0 =
  QC.need (true) (QC.br (!s.up.ok) (QC.leaf (AV.bool true false) ([])) (QC.need (true) (QC.br (!s.right.ok) (QC.leaf (AV.bool true false) ([])) (QC.need (true) (QC.br
  (!s.down.ok) (QC.leaf (AV.bool true false) ([])) (QC.need (true) (QC.br (!s.left.ok) (QC.leaf (AV.bool true false) ([])) (QC.leaf (AV.bool true true) ([]))))))))):=by kernel_rfl
theorem QRV:QQ Try.prog 28 QGz:=by
 refine KC QGv 6 Try.func28 (by kernel_rfl) (by kernel_rfl) ?_
 rintro⟨s,⟨⟩⟩ hp;rw[QNI s];simp only[QKE,QC.den,AV.same,AV.sameL,and_true,true_and]at hp ⊢;simp only[QG.ok];cases s.up.ok<;>cases s.right.ok<;>cases s.down.ok<;>cases s.left.ok<;>simp
def Z1:Tab:=Qb QAq 28 QGz
theorem QB8:QV Z1:=QGv.add QRV
def zK:WF (Puz×Edge×Edge×Unit):=fun|(d,(a,(b,_)))=>(decide (d.ps.n≤1000),.int false .i64 (Qw d.play a b).1,[])
def QGl:FC:=wFC zK
variable (d:Puz)(k:Nat)
theorem QRQ(a:Edge)(b:Edge):Kd (mkE Try.prog Z1) (hnd (mkE Try.prog Z1) 0) Try.f41 (QU.vals 0 ((d,a,b,()):Puz×Edge×Edge×Unit)) (QU.blks 0 ((d,a,b,()):Puz×Edge×Edge×Unit)) 8 =
  QC.need (true) (QC.leaf (AV.int false i64 (Qw d.play a b).1) ([])):=by kernel_rfl
theorem QSg:JN (mkE Try.prog Z1) (Qr Try.f41) 8 zK (fun x_=>(hnd (mkE Try.prog Z1) 0)):=by
 refine⟨?_⟩;rintro⟨d,⟨a,⟨b,⟨⟩⟩⟩⟩ hp G h1 h2;exact Q3 (QS QB8) 0 G _ h1
theorem QRW:JM (mkE Try.prog Z1) Try.f41 8 zK (fun x_=>(hnd (mkE Try.prog Z1) 0)):=by
 refine⟨?_⟩;rintro⟨d,⟨a,⟨b,⟨⟩⟩⟩⟩ hp;refine⟨⟨rfl,by simp[zK],rfl⟩,⟨?_⟩⟩
 rw[QRQ d a b];simp only[zK]at hp;refine QF rfl (K7 ?_ rfl);exact⟨rfl,rfl⟩
theorem QTm:QQ Try.prog 41 QGl:=
 Jc (QS QB8) Try.func41 (by kernel_rfl) (by kernel_rfl) (by decide) QSg QRW
def ZE:Tab:=Qb Z1 41 QGl
theorem QCj:QV ZE:=QB8.add QTm
def WQ:WF (Puz×Int×Int×Unit):=fun|(d,(c,(s,_)))=>(decide ((1≤d.wide∧d.wide≤100)∧(1≤d.high∧d.high≤100)∧(0≤c∧c≤100)),.int false .i64 (QN d.wide d.high c s),[])
def QM0:FC:=wFC WQ
theorem QN7(c:Int)(s:Int):Kd (mkE Try.prog ZE) (hnd (mkE Try.prog ZE) 0) Try.f31 (QU.vals 0 ((d,c,s,()):Puz×Int×Int×Unit)) (QU.blks 0 ((d,c,s,()):Puz×Int×Int ×
  Unit)) 8 = .need (!decide (d.wide=0)) (.need (!decide (d.wide=0)) (.br (s==0) (.br (decide (i64.wrap (c.tdiv d.wide)>0)) (.leaf (.int false .i64 (i64.wrap (c
  - d.wide))) ([])) (.br (s==1) (.br (decide (c.tmod d.wide<i64.wrap (d.wide-1))) (.leaf (.int false .i64 (i64.wrap (c+1))) ([])) (.br (s==2) (.br (decide
  (i64.wrap (c.tdiv d.wide)<i64.wrap (d.high-1))) (.leaf (.int false .i64 (i64.wrap (c+d.wide))) ([])) (.br (s==3) (.br (decide (c.tmod d.wide>0))
  (.leaf (.int false .i64 (i64.wrap (c-1))) ([])) (.leaf (.int true .i64 (-1)) ([]))) (.leaf (.int true .i64 (-1)) ([])))) (.br (s==3) (.br (decide (c.tmod d.wide>0))
  (.leaf (.int false .i64 (i64.wrap (c-1))) ([])) (.leaf (.int true .i64 (-1)) ([]))) (.leaf (.int true .i64 (-1)) ([]))))) (.br (s==2) (.br (decide (i64.wrap
  (c.tdiv d.wide)<i64.wrap (d.high-1))) (.leaf (.int false .i64 (i64.wrap (c+d.wide))) ([])) (.br (s==3) (.br (decide (c.tmod d.wide>0)) (.leaf (.int false
  .i64 (i64.wrap (c-1))) ([])) (.leaf (.int true .i64 (-1)) ([]))) (.leaf (.int true .i64 (-1)) ([])))) (.br (s==3) (.br (decide (c.tmod d.wide>0)) (.leaf (.int false
  .i64 (i64.wrap (c-1))) ([])) (.leaf (.int true .i64 (-1)) ([]))) (.leaf (.int true .i64 (-1)) ([])))))) (.br (s==1) (.br (decide (c.tmod d.wide<i64.wrap
  (d.wide-1))) (.leaf (.int false .i64 (i64.wrap (c+1))) ([])) (.br (s==2) (.br (decide (i64.wrap (c.tdiv d.wide)<i64.wrap (d.high-1))) (.leaf (.int
  false .i64 (i64.wrap (c+d.wide))) ([])) (.br (s==3) (.br (decide (c.tmod d.wide>0)) (.leaf (.int false .i64 (i64.wrap (c-1))) ([])) (.leaf (.int true .i64
  (-1)) ([]))) (.leaf (.int true .i64 (-1)) ([])))) (.br (s==3) (.br (decide (c.tmod d.wide>0)) (.leaf (.int false .i64 (i64.wrap (c-1))) ([])) (.leaf (.int true .i64
  (-1)) ([]))) (.leaf (.int true .i64 (-1)) ([]))))) (.br (s==2) (.br (decide (i64.wrap (c.tdiv d.wide)<i64.wrap (d.high-1))) (.leaf (.int false .i64
  (i64.wrap (c+d.wide))) ([])) (.br (s==3) (.br (decide (c.tmod d.wide>0)) (.leaf (.int false .i64 (i64.wrap (c-1))) ([])) (.leaf (.int true .i64 (-1)) ([])))
  (.leaf (.int true .i64 (-1)) ([])))) (.br (s==3) (.br (decide (c.tmod d.wide>0)) (.leaf (.int false .i64 (i64.wrap (c-1))) ([])) (.leaf (.int true .i64 (-1)) ([])))
  (.leaf (.int true .i64 (-1)) ([]))))))):=by kernel_rfl
theorem QT7:JN (mkE Try.prog ZE) (Qr Try.f31) 8 WQ (fun x_=>(hnd (mkE Try.prog ZE) 0)):=by
 refine⟨?_⟩;rintro⟨d,⟨c,⟨s,⟨⟩⟩⟩⟩ hp G h1 h2;exact Q3 (QS QCj) 0 G _ h1
theorem QSD:JM (mkE Try.prog ZE) Try.f31 8 WQ (fun x_=>(hnd (mkE Try.prog ZE) 0)):=by
 refine⟨?_⟩;rintro⟨d,⟨c,⟨s,⟨⟩⟩⟩⟩ hp;refine⟨⟨rfl,by simp[WQ],rfl⟩,⟨?_⟩⟩
 rw[QN7 d c s];simp only[WQ]at hp;obtain⟨⟨w1,w2⟩,⟨h1,h2⟩,c1,c2⟩:=qdt hp;have q0:0≤c.tdiv d.wide:=Int.tdiv_nonneg c1 (by omega)
 have q1:c.tdiv d.wide≤c:=by rw[Int.tdiv_eq_ediv_of_nonneg c1];exact Int.ediv_le_self _ c1
 have m0:0≤c.tmod d.wide:=Int.tmod_nonneg _ c1;have m1:c.tmod d.wide<d.wide:=Int.tmod_lt_of_pos _ (by omega)
 have e1:i64.wrap (c.tdiv d.wide)=c.tdiv d.wide:=w64 (by omega) (by omega)
 have e2:i64.wrap (c-d.wide)=c-d.wide:=w64 (by omega) (by omega)
 have e3:i64.wrap (d.wide-1)=d.wide-1:=w64 (by omega) (by omega)
 have e4:i64.wrap (c+1)=c+1:=w64 (by omega) (by omega)
 have e5:i64.wrap (d.high-1)=d.high-1:=w64 (by omega) (by omega)
 have e6:i64.wrap (c+d.wide)=c+d.wide:=w64 (by omega) (by omega)
 have e7:i64.wrap (c-1)=c-1:=w64 (by omega) (by omega)
 have dz:(!decide (d.wide=0))=true:=by simp;omega
 rw[e1,e2,e3,e4,e5,e6,e7];refine QF dz (QF dz ?_);have fin:∀ v:AV,v.same (.int false .i64 (QN d.wide d.high c s))→(QC.leaf v []).den (XX 8 (WQ (d,c,s,())).2.1 (WQ (d,c,s,())).2.2):=fun v h=>K7 h rfl
 repeat' refine QI (fun _ => ?_) (fun _ => ?_)
 all_goals refine fin _ ?_
 all_goals simp only[AV.same,QN,true_and]
 all_goals grind
theorem QPF:QQ Try.prog 31 QM0:=
 Jc (QS QCj) Try.func31 (by kernel_rfl) (by kernel_rfl) (by decide) QT7 QSD
def X9:Tab:=Qb ZE 31 QM0
theorem vg:QV X9:=QCj.add QPF
def Kp(l:Rw QG)(i:Nat):Bool := !(l.get i).ok
def okR:Bool:=d.play.ok&&(QY (d.ps.n:Int) 1 9&&(QY d.wide 1 9&&(QY d.high 1 9&&((i64.wrap (d.wide*d.high)==(d.ps.n:Int))&&(QP (Kp d.ps) d.ps.n 0).isNone))))
theorem QLp(p:Qk)(l:Rw QG)(h:1≤l.n):Jm p l=(p.ok&&(QP (Kp l) l.n 0).isNone):=by
 unfold Jm;cases hp:p.ok with
 | true=>
  have:Kk ⟨p⟩ l=Kp l:=by funext i;simp only[Kk,Kp,hp,Bool.true_and]
  rw[this,Bool.true_and]
 | false=>
  obtain⟨m,hm⟩:∃ m,l.n=m+1:=⟨l.n-1,by omega⟩
  rw[hm,QP];simp only[Kk,hp,Bool.false_and,Bool.not_false];rfl
theorem QAT:okR d=d.ok:=by
 rw[Bool.eq_iff_iff];simp only[okR,Puz.ok,Puz.okN,qbA,QY,qdE,beq_iff_eq];constructor
 ·rintro⟨hp,hn,hw,hh,hm,ha⟩;have m1:d.wide*d.high≤9*9:=Int.mul_le_mul hw.2 hh.2 (by omega) (by omega)
  have m0:0≤d.wide*d.high:=Int.mul_nonneg (by omega) (by omega)
  have e:=hm;rw[w64 (by omega) (by omega)]at e
  have a1:=Int.mul_le_mul_of_nonneg_left (show 1≤d.high from hh.1) (show 0≤d.wide by omega)
  have a2:=Int.mul_le_mul_of_nonneg_right (show 1≤d.wide from hw.1) (show 0≤d.high by omega)
  refine⟨⟨hn,by omega,by omega,hm⟩,?_⟩
  rw[QLp _ _ (by omega),hp,ha];rfl
 ·rintro⟨⟨hn,hw,hh,hm⟩,hs⟩;rw[QLp _ _ (by omega),qbA]at hs
  exact⟨hs.1,hn,by omega,by omega,hm,hs.2⟩
def zy:JSt:=⟨60,[(1,.ptr 8 0 0),(3,.int false .i64 k)],[(8,.cells 0 28 (GF d))]++Qz.blk 0 d.ps,96⟩
def QHy:Ex→List Nat
 | .normal=>[1,3]
 | .exit _=>[]
 | .ret=>[2]
noncomputable abbrev QLu:List (Nat×Blk):=
  [(8,.cells 0 28 [vi d.play.length,vi d.play.slack,vi d.play.loose,vi d.play.damp.lo,vi d.play.damp.hi,.int
  false .i64 d.wide,vi d.high,.bool false d.turn,.slz 0 0 d.ps.n cO]),(0,.frz [.int .i64,.int .i64,.int .i64,.int .i64,.int .i64,.int .i64,.int .i64,
  .int .i64,.int .i64,.int .i64,.int .i64,.int .i64,.int .i64,.int .i64,.int .i64,.int .i64,.int .i64,.int .i64,.int .i64,.int .i64,.int .i64,.int .i64,.int .i64,.int
  .i64,.int .i64,.int .i64,.int .i64,.int .i64] d.ps.n fun i=>QA.enc (d.ps.get i))]
theorem QWF(g:Nat→Value):exec (mkE Try.prog X9) (hnd (mkE Try.prog X9) 6) (Qa Try.f40 0) (JSt.inst (zy d k) g) (KL [] QHy) = .br (decide ((k:Int)<(d.ps.n:Int))) (.need (decide
  ((0:Int)≤(k:Int)∧(k:Int)<(d.ps.n:Int))&&decide (d.ps.n≤d.ps.n)) (.need (decide (k<d.ps.n)) (.need (true) (.br (!(d.ps.get k).up.ok) (.leaf (.tup [.nili,.ptr 60
  0 0,.bool true false]) ([])) (.need (decide ((0:Int)≤(k:Int)∧(k:Int)<(d.ps.n:Int))&&decide (d.ps.n≤d.ps.n)) (.need (decide (k<d.ps.n)) (.need (true) (.br
  (!(d.ps.get k).right.ok) (.leaf (.tup [.nili,.ptr 60 0 0,.bool true false]) ([])) (.need (decide ((0:Int)≤(k:Int)∧(k:Int)<(d.ps.n:Int))&&decide (d.ps.n≤d.ps.n))
  (.need (decide (k<d.ps.n)) (.need (true) (.br (!(d.ps.get k).down.ok) (.leaf (.tup [.nili,.ptr 60 0 0,.bool true false]) ([])) (.need (decide ((0:Int)≤(k:Int)∧(k:Int)
  < (d.ps.n:Int))&&decide (d.ps.n≤d.ps.n)) (.need (decide (k<d.ps.n)) (.need (true) (.br (!(d.ps.get k).left.ok) (.leaf (.tup [.nili,.ptr 60 0 0,.bool true false]) ([]))
  (.leaf (.tup [.nilp,.ptr 60 0 0,.ptr 8 0 0,vi (i64.wrap ((k:Int)+1))]) ((QLu d))))))))))))))))))) (.leaf (.tup [.ptr 0 0 0,.ptr 60 0 0]) ([])):=by kernel_rfl
def jW:JSt:=⟨60,[(2,.bool false false)],[],96⟩
def QEM:JSt:=⟨60,[],[],96⟩
theorem QTI :QK 8 [AV.bool true false] ([]) jW=(
  some [false=false]):=by kernel_rfl
theorem QVN :QK 8 [AV.bool true false] ([]) jW=(
  some [false=false]):=by kernel_rfl
theorem QUW :QK 8 [AV.bool true false] ([]) jW=(
  some [false=false]):=by kernel_rfl
theorem QP7 :QK 8 [AV.bool true false] ([]) jW=(
  some [false=false]):=by kernel_rfl
theorem QS4(k k':Nat):QK 8 [.ptr 8 0 0,vi (i64.wrap ((k:Int)+1))] ((QLu d)) (zy d k')=(some [0=0,0=0,i64.wrap ((k:Int)+1)=(k':Int),d.play.length =
  d.play.length,d.play.slack=d.play.slack,d.play.loose=d.play.loose,d.play.damp.lo=d.play.damp.lo,d.play.damp.hi=d.play.damp.hi,d.wide=d.wide,d.high=d.high,d.turn =
  d.turn,0=0,d.ps.n=d.ps.n,cO=cO,d.ps.n≤d.ps.n,QD 28 d.ps.n (fun i=>QA.enc (d.ps.get i)) fun i=>QA.enc (d.ps.get i)]):=by kernel_rfl
theorem QPA :QK 8 [] ([]) QEM=(
  some []):=by kernel_rfl
def QIL(e:Ex)(J:JSt):Prop:=(e = .ret∧(QP (Kp d.ps) (d.ps.n-k) k).isNone=false∧J=jW)∨(e = .exit 0∧(QP (Kp d.ps) (d.ps.n-k) k).isNone=true∧J=QEM)
theorem QV8(hl:d.ps.n≤1000):JW (zy d) (fun k=>k≤d.ps.n) (fun k=>d.ps.n-k) (QIL d) 8 QHy [] (mkE Try.prog X9) (fun _=>hnd (mkE Try.prog X9) 6) (Qa Try.f40 0):=by
 refine⟨fun k g hk=>Z9 (QWF d k g) ?_⟩;refine QI (fun h => ?_) (fun h => ?_)
 ·have h:k<d.ps.n:=by have:=qdt h;omega
  obtain⟨m,hm⟩:∃ m,d.ps.n-k=m+1:=⟨d.ps.n-k-1,by omega⟩
  have hm':d.ps.n-(k+1)=m:=by omega
  have hA:(decide ((0:Int)≤(k:Int)∧(k:Int)<(d.ps.n:Int))&&decide (d.ps.n≤d.ps.n))=true:=by simp;omega
  have hB:decide (k<d.ps.n)=true:=by simp;omega
  have bad:Kp d.ps k=true→QP (Kp d.ps) (d.ps.n-k) k=some k:=fun q=>by rw[hm,QP,q]
  have go:Kp d.ps k=false→QP (Kp d.ps) (d.ps.n-k) k=QP (Kp d.ps) (d.ps.n-(k+1)) (k+1):=fun q=>by rw[hm,hm',QP,q]
  have no:Kp d.ps k=true→(QP (Kp d.ps) (d.ps.n-k) k).isNone=false:=fun q=>by rw[bad q];rfl
  refine QF hA (QF hB (QF rfl (QI (fun h0 => ?_) (fun h0 => ?_))))
  ·have q:Kp d.ps k=true:=by simp only[Bool.not_eq_true']at h0;simp only[Kp,QG.ok,h0,Bool.false_and,Bool.not_false]
   exact⟨_,.inl ⟨rfl,no q,rfl⟩,rfl,rfl,_,QTI,⟨rfl,trivial⟩⟩
  refine QF hA (QF hB (QF rfl (QI (fun h1 => ?_) (fun h1 => ?_))))
  ·have q:Kp d.ps k=true:=by simp only[Bool.not_eq_true']at h1;simp only[Kp,QG.ok,h1,Bool.false_and,Bool.and_false,Bool.not_false]
   exact⟨_,.inl ⟨rfl,no q,rfl⟩,rfl,rfl,_,QVN,⟨rfl,trivial⟩⟩
  refine QF hA (QF hB (QF rfl (QI (fun h2 => ?_) (fun h2 => ?_))))
  ·have q:Kp d.ps k=true:=by simp only[Bool.not_eq_true']at h2;simp only[Kp,QG.ok,h2,Bool.false_and,Bool.and_false,Bool.not_false]
   exact⟨_,.inl ⟨rfl,no q,rfl⟩,rfl,rfl,_,QUW,⟨rfl,trivial⟩⟩
  refine QF hA (QF hB (QF rfl (QI (fun h3 => ?_) (fun h3 => ?_))))
  ·have q:Kp d.ps k=true:=by simp only[Bool.not_eq_true']at h3;simp only[Kp,QG.ok,h3,Bool.and_false,Bool.not_false]
   exact⟨_,.inl ⟨rfl,no q,rfl⟩,rfl,rfl,_,QP7,⟨rfl,trivial⟩⟩
  have q:Kp d.ps k=false:=by simp only[Bool.not_eq_false']at h0 h1 h2 h3;simp only[Kp,QG.ok,h0,h1,h2,h3,Bool.and_self,Bool.not_true]
  have hw:i64.wrap ((k:Int)+1)=((k+1:Nat):Int):=(w64 (by omega) (by omega)).trans (by omega)
  refine⟨k+1,h,by show d.ps.n-(k+1)<d.ps.n-k;omega,fun e J h=>by unfold QIL at h ⊢;rw[go q];exact h,rfl,rfl,_,QS4 d k (k+1),?_⟩
  repeat' first|exact trivial|with_reducible rfl|exact qlr _|exact qRr|exact hw|refine And.intro ?_ ?_
 ·have h:d.ps.n≤k:=by have:=of_decide_eq_false h;omega
  have hf:QP (Kp d.ps) (d.ps.n-k) k=none:=by rw[show d.ps.n-k=0 by omega];rfl
  exact⟨_,.inr ⟨rfl,by rw[hf];rfl,rfl⟩,rfl,rfl,_,QPA,trivial⟩
def QUM:List (Prop×Ex×JSt):=[((QP (Kp d.ps) d.ps.n 0).isNone=false,.ret,jW),((QP (Kp d.ps) d.ps.n 0).isNone=true,.exit 0,QEM)]
abbrev QAp(P:Program)(d:Puz):Hnd:={ hnd (mkE P X9) 1 with loop:=fun _=>KF 8 [] (zy d (0:Nat)) (QUM d) }
theorem QPG(hl:d.ps.n≤1000)(G:Ctx)(hrd:G.rd=none)(hG:G.n=8):KH (mkE Try.prog X9) G (QAp Try.prog d) (Qr Try.f40):=by
 refine J6 (body:=Qa Try.f40 0) (QS vg) hrd (by kernel_rfl) ?_
 refine J3 (n0:=8) (QS vg) (by omega) (fun s hs=>Q3 (QS vg) 6 G _ hrd) (fun s hs=>(by decide:8≤96)) ?_ (QV8 d hl) (s0:=0) (Nat.zero_le _) ?_
 ·rintro s e J (⟨_,_,rfl⟩|⟨_,_,rfl⟩)<;>exact(by decide:8≤96)
 ·rintro e J (⟨rfl,h,rfl⟩|⟨rfl,h,rfl⟩)
  ·exact⟨_,List.mem_cons_self,h,rfl,rfl⟩
  ·exact⟨_,List.mem_cons_of_mem _ List.mem_cons_self,h,rfl,rfl⟩
def Wl:WF (Puz×Unit):=fun|(d,_)=>(decide (d.ps.n≤1000),.bool false d.ok,[])
def QFk:FC:=wFC Wl
theorem QWT :Kd (mkE Try.prog X9) (QAp Try.prog d) Try.f40 (QU.vals 0 ((d,()):Puz×Unit)) (QU.blks 0 ((d,()):Puz×Unit)) 8 = .need (true) (.br (!d.play.ok) (.leaf (.bool
  true false) ([])) (.need (true) (.br (!QY (d.ps.n:Int) (1:Int) (9:Int)) (.leaf (.bool true false) ([])) (.need (true) (.br (!QY d.wide (1:Int) (9:Int)) (.leaf
  (.bool true false) ([])) (.need (true) (.br (!QY d.high (1:Int) (9:Int)) (.leaf (.bool true false) ([])) (.br (i64.wrap (d.wide*d.high) != (d.ps.n:Int)) (.leaf
  (.bool true false) ([])) (.ask (0=0) (.ask (0=0) (.ask ((0:Int)=0) (.ask (d.play.length=d.play.length) (.ask (d.play.slack=d.play.slack) (.ask (d.play.loose =
  d.play.loose) (.ask (d.play.damp.lo=d.play.damp.lo) (.ask (d.play.damp.hi=d.play.damp.hi) (.ask (d.wide=d.wide) (.ask (d.high=d.high) (.ask (d.turn=d.turn) (.ask (0=0)
  (.ask (d.ps.n=d.ps.n) (.ask (cO=cO) (.ask (d.ps.n≤d.ps.n) (.ask (QD 28 d.ps.n (fun i=>QA.enc (d.ps.get i)) fun i=>QA.enc (d.ps.get i)) (.both (.asm
  ((QP (Kp d.ps) d.ps.n 0).isNone=false) (.all (fun(g0:Nat→Value) => .leaf (.bool false false) ([])))) (.asm ((QP (Kp d.ps) d.ps.n 0).isNone=true) (.all (fun(g1
  : Nat→Value) => .leaf (.bool true true) ([]))))))))))))))))))))))))))))):=by kernel_rfl
theorem QRZ:JN (mkE Try.prog X9) (Qr Try.f40) 8 Wl (fun x_=>(QAp Try.prog x_.1)):=by
 refine⟨?_⟩;rintro⟨d,⟨⟩⟩ hp G h1 h2;exact QPG d (qdt hp) G h1 h2
theorem QOB:JM (mkE Try.prog X9) Try.f40 8 Wl (fun x_=>(QAp Try.prog x_.1)):=by
 refine⟨?_⟩;rintro⟨d,⟨⟩⟩ hp;refine⟨⟨rfl,by simp[Wl],rfl⟩,⟨?_⟩⟩
 rw[QWT d];simp only[Wl]at hp;have no:okR d=false→(QC.leaf (AV.bool true false) []).den (XX 8 (Wl (d,())).2.1 (Wl (d,())).2.2):=fun h=>K7 (show false=d.ok by rw[←QAT,h]) rfl
 refine QF rfl (QI (fun h1=>no ?_) (fun h1=>QF rfl (QI (fun h2=>no ?_) (fun h2=>QF rfl (QI (fun h3=>no ?_) (fun h3=>QF rfl (QI (fun h4=>no ?_) (fun h4=>QI (fun h5=>no ?_) (fun h5 => ?_)))))))))
 ·simp only[Bool.not_eq_true']at h1;simp only[okR,h1,Bool.false_and]
 ·simp only[Bool.not_eq_true']at h2;simp only[okR,h2,Bool.false_and,Bool.and_false]
 ·simp only[Bool.not_eq_true']at h3;simp only[okR,h3,Bool.false_and,Bool.and_false]
 ·simp only[Bool.not_eq_true']at h4;simp only[okR,h4,Bool.false_and,Bool.and_false]
 ·have h5:(i64.wrap (d.wide*d.high)==(d.ps.n:Int))=false:=by simpa using h5
  simp only[okR,h5,Bool.false_and,Bool.and_false]
 ·have h5:(i64.wrap (d.wide*d.high)==(d.ps.n:Int))=true:=by simpa using h5
  simp only[Bool.not_eq_false']at h1 h2 h3 h4
  repeat' first|refine Qc (show _=_ by with_reducible rfl) ?_|refine Qc (show _≤_ from qlr _) ?_|refine Qc (show QD _ _ _ _ from qRr) ?_
  refine YE (KY fun h=>KX fun g => ?_) (KY fun h=>KX fun g => ?_)
  ·exact K7 (show false=d.ok by rw[←QAT];simp only[okR,h,Bool.and_false]) rfl
  ·exact K7 (show true=d.ok by rw[←QAT];simp only[okR,h1,h2,h3,h4,h5,h,Bool.and_self]) rfl
theorem QUn:QQ Try.prog 40 QFk:=
 Jc (QS vg) Try.func40 (by kernel_rfl) (by kernel_rfl) (by decide) QRZ QOB
def QAg:Tab:=Qb X9 40 QFk
theorem QKu:QV QAg:=vg.add QUn
end Go.Proofs.Ytbpffdkemeoajaa
namespace Go.SX
open Go Go.RowKit Go.Proofs.Ytbpffdkemeoajaa
def qc:Code→Option Nat
 | .region id _ _=>some id
 | .seq a b=>(match qc a with
  | some x=>some x
  | none=>qc b)
 | .block _ a=>qc a
 | .scope a=>qc a
 | .loop a=>qc a
 | _=>none
def z7(l:List (Nat×(St→(Ex→St→QC)→QC)))(c:Code):St→(Ex→St→QC)→QC:=match qc c with
 | some r=>(match l.find? (fun p=>Nat.beq p.1 r)with
  | some p=>p.2
  | none => fun _ _ => .fail "a loop that is not told")
 | none => fun _ _ => .fail "a loop without a region"
theorem QCo{E:Env}(hE:E.Sound){d:Nat}{G:Ctx}(hG:G.rd=none){c:Code}{L:Code→St→(Ex→St→QC)→QC}(h:∀ s∈Kg c,Ji E G s (L s)):KH E G { hnd E d with loop:=L } c:=
 ⟨h,(Q3 hE d G c hG).call,(Q3 hE d G c hG).yield⟩
end Go.SX
namespace Go.Proofs.Ytbpffdkemeoajaa
open Go.SX
variable {f:Nat→Bool}{n:Nat}(x:QE)(k:Nat)
def QDa:List (Nat×Blk):=[(8,.cells 0 50 (JR 0 x))]++Ve 0 x
def zU:JSt:=⟨97,[(1,.ptr 8 0 0),(3,.int false .i64 k)],QDa x,96⟩
def zF:JSt:=⟨97,[(1,.ptr 8 0 0),(4,.int false .i64 k)],QDa x,96⟩
def QJX:Ex→List Nat
 | .normal=>[1,3]
 | .exit _=>[1]
 | .ret=>[2]
def QLe:Ex→List Nat
 | .normal=>[1,4]
 | .exit _=>[1]
 | .ret=>[2]
def qX:JSt:=⟨97,[(2,.bool false false)],[],96⟩
def qD:JSt:=⟨97,[(1,.ptr 8 0 0)],QDa x,96⟩
def QJn:Int×Int×Int×Unit→Bool×AV:=fun|(n,(a,(b,_)))=>(true,.bool false (QY n a b))
def QKY:FC:=Q5 (Q6 QJn)
theorem QPD(n:Int)(a:Int)(b:Int):Q2 (mkE Try.prog QAg) (hnd (mkE Try.prog QAg) 0) false Try.f63 (Qm.enc ((n,a,b,()):Int×Int×Int×Unit)) [] 0 =
  QC.br (decide (a≤n)) (QC.leaf (AV.bool false (decide (n≤b))) ([])) (QC.leaf (AV.bool true false) ([])):=by kernel_rfl
theorem QND:QQ Try.prog 63 QKY:=by
 refine KC QKu 0 Try.func63 (by kernel_rfl) (by kernel_rfl) ?_
 rintro⟨n,a,b,⟨⟩⟩ hp;rw[QPD n a b];simp only[QJn,QC.den,AV.same,AV.sameL,and_true,true_and]at hp ⊢
 (repeat' (first|(refine And.intro ?_ ?_)|(intro _)))<;>simp_all [QY]<;>omega
def VN:Tab:=Qb QAg 63 QKY
theorem Wz:QV VN:=QKu.add QND
noncomputable abbrev QK1:List AV:=
  [.nilp,.ptr 97 0 0,.ptr 8 0 0,vi (i64.wrap ((k:Int)+1))]
abbrev QLJ:List CK:=
  [.int .i64,.int .i64,.int .i64,.int .i64,.int .i64,.int .i64,.int .i64,.int .i64,.int .i64,.int .i64,.int .i64,.int .i64,.int .i64,.int .i64,.int .i64,.int .i64,.int
  .i64,.int .i64,.int .i64,.int .i64,.int .i64,.int .i64,.int .i64,.int .i64,.int .i64,.int .i64,.int .i64,.int .i64]
noncomputable abbrev ZO:List (Nat×Blk):=
  [(8,.cells 0 50 [vi x.d.play.length,vi x.d.play.slack,vi x.d.play.loose,vi x.d.play.damp.lo,.int false .i64
  x.d.play.damp.hi,vi x.d.wide,vi x.d.high,.bool false x.d.turn,.slz 0 0 x.d.ps.n cO,.slz 1 0 x.scans.n cO,.slz 2 0 x.hang.n (Cap.of
  0),vi x.lost,vi x.foreign]),(0,.frz QLJ x.d.ps.n fun i=>QA.enc (x.d.ps.get i)),(1,.frz QLJ x.scans.n fun i=>QA.enc (x.scans.get i)),(2,
  .frz [.int .i64,.int .i64,.int .i64,.int .i64] x.hang.n fun i=>QA.enc (x.hang.get i))]
theorem QT3(g:Nat→Value):exec (mkE Try.prog VN) (hnd (mkE Try.prog VN) 6) (Qa Try.f35 0) (JSt.inst (zU x k) g) (KL [] QJX) = .br (decide ((k:Int)<(x.scans.n:Int))) (.need (decide
  ((0:Int)≤(k:Int)∧(k:Int)<(x.scans.n:Int))&&decide (x.scans.n≤x.scans.n)) (.need (decide (k<x.scans.n)) (.need (true) (.br (!(x.scans.get k).ok) (.leaf (.tup
  [.nili,.ptr 97 0 0,.bool true false]) ([])) (.leaf (.tup (QK1 k)) ((ZO x))))))) (.leaf (.tup [.ptr 0 0 0,.ptr 97 0 0,.ptr 8 0 0]) ((ZO x))):=by kernel_rfl
theorem QRH(g:Nat→Value):exec (mkS Try.prog VN) (hnd (mkS Try.prog VN) 6) (Qa Try.f35 1) (JSt.inst (zF x k) g) (KL [] QLe) = .br (decide ((k:Int)<(x.hang.n:Int))) (.need (decide
  ((0:Int)≤(k:Int)∧(k:Int)<(x.hang.n:Int))&&decide (x.hang.n≤x.hang.n)) (.need (decide (k<x.hang.n)) (.need (true) (.need (!!!QY (x.hang.get k).a (0:Int)
  (i64.wrap ((x.scans.n:Int)-1)) || !!QY (x.hang.get k).a (0:Int) (i64.wrap ((x.scans.n:Int)-1))) (.need (!!!QY (x.hang.get k).a (0:Int)
  (i64.wrap ((x.scans.n:Int)-1)) || !!QY (x.hang.get k).a (0:Int) (i64.wrap ((x.scans.n:Int)-1))) (.need (!!!QY (x.hang.get k).a (0:Int)
  (i64.wrap ((x.scans.n:Int)-1)) || !!QY (x.hang.get k).a (0:Int) (i64.wrap ((x.scans.n:Int)-1))) (.need (!!!QY (x.hang.get k).a (0:Int)
  (i64.wrap ((x.scans.n:Int)-1)) || !!QY (x.hang.get k).a (0:Int) (i64.wrap ((x.scans.n:Int)-1))) (.need (!!!QY (x.hang.get k).a (0:Int)
  (i64.wrap ((x.scans.n:Int)-1))||true&&(!!QY (x.hang.get k).a (0:Int) (i64.wrap ((x.scans.n:Int)-1)) && !!QY (x.hang.get k).a (0:Int)
  (i64.wrap ((x.scans.n:Int)-1)))) (.need (!!!QY (x.hang.get k).a (0:Int) (i64.wrap ((x.scans.n:Int)-1)) || !!QY (x.hang.get k).a (0:Int)
  (i64.wrap ((x.scans.n:Int)-1))) (.need (!QY (x.hang.get k).a (0:Int) (i64.wrap ((x.scans.n:Int)-1)) || !!QY (x.hang.get k).a (0:Int)
  (i64.wrap ((x.scans.n:Int)-1))) (.bnd (!QY (x.hang.get k).a (0:Int) (i64.wrap ((x.scans.n:Int)-1)) || !QY (x.hang.get k).b (0:Int)
  (i64.wrap ((x.scans.n:Int)-1))) (fun(x0:Bool) => .need (!!x0 || !x0) (.need (!!x0 || !x0) (.need (!!x0 || !x0 && !x0) (.need (x0 || !x0) (.bnd (x0||(x.hang.get k).a
  == (x.hang.get k).b) (fun(x1:Bool) => .need (!!x1 || !x1) (.need (!!x1||true && !x1) (.need (!!x1 || !x1) (.need (x1 || !x1) (.bnd (x1 || !QY (x.hang.get k).i (0:Int) (3
  : Int)) (fun(x2:Bool) => .need (!!x2 || !x2) (.need (!!x2||true && !x2) (.need (!!x2 || !x2) (.need (x2 || !x2) (.bnd (x2 || !QY (x.hang.get k).j (0:Int) (3:Int)) (fun
  (x3:Bool) => .br (x3) (.leaf (.tup [.nili,.ptr 97 0 0,.bool true false]) ([])) (.leaf (.tup (QK1 k)) ((ZO x)))))))))))))))))))))))))))))) (.leaf (.tup [.ptr 2 0 0,.ptr 97 0
  0,.ptr 8 0 0]) ((ZO x))):=by kernel_rfl
theorem QSc :QK 8 [AV.bool true false] ([]) qX=(
  some [false=false]):=by kernel_rfl
abbrev QIQ(k':Nat)(x:QE):List Prop:=
  [0=0,0=0,i64.wrap ((k:Int)+1)=(k':Int),x.d.play.length=x.d.play.length,x.d.play.slack=x.d.play.slack,x.d.play.loose=x.d.play.loose,x.d.play.damp.lo =
  x.d.play.damp.lo,x.d.play.damp.hi=x.d.play.damp.hi,x.d.wide=x.d.wide,x.d.high=x.d.high,x.d.turn=x.d.turn,0=0,x.d.ps.n=x.d.ps.n,cO=cO,0=0,
  x.scans.n=x.scans.n,cO=cO,0=0,x.hang.n=x.hang.n,cO=cO,x.lost=x.lost,x.foreign=x.foreign,x.d.ps.n≤x.d.ps.n,QD 28 x.d.ps.n (fun i
  => QA.enc (x.d.ps.get i)) fun i=>QA.enc (x.d.ps.get i),x.scans.n≤x.scans.n,QD 28 x.scans.n (fun i=>QA.enc (x.scans.get i)) fun i=>QA.enc (x.scans.get i),
  x.hang.n≤x.hang.n,QD 4 x.hang.n (fun i=>QA.enc (x.hang.get i)) fun i=>QA.enc (x.hang.get i)]
theorem QOy(k k':Nat):QK 8 [.ptr 8 0 0,vi (i64.wrap ((k:Int)+1))] ((ZO x)) (zU x k')=(some (QIQ k k' x)):=by kernel_rfl
abbrev QFu:List Prop:=
  [0=0,0=0,x.d.play.length=x.d.play.length,x.d.play.slack=x.d.play.slack,x.d.play.loose=x.d.play.loose,x.d.play.damp.lo=x.d.play.damp.lo,x.d.play.damp.hi =
  x.d.play.damp.hi,x.d.wide=x.d.wide,x.d.high=x.d.high,x.d.turn=x.d.turn,0=0,x.d.ps.n=x.d.ps.n,cO=cO,0=0,x.scans.n=x.scans.n,cO=cO,
  0=0,x.hang.n=x.hang.n,cO=cO,x.lost=x.lost,x.foreign=x.foreign,x.d.ps.n≤x.d.ps.n,QD 28 x.d.ps.n (fun i=>QA.enc (x.d.ps.get i)) fun i=>QA.enc
  (x.d.ps.get i),x.scans.n≤x.scans.n,QD 28 x.scans.n (fun i=>QA.enc (x.scans.get i)) fun i=>QA.enc (x.scans.get i),x.hang.n≤x.hang.n,QD 4 x.hang.n (fun i=>
  QA.enc (x.hang.get i)) fun i=>QA.enc (x.hang.get i)]
theorem QRj :QK 8 [.ptr 8 0 0] ((ZO x)) (qD x)=(some (QFu x)):=by kernel_rfl
theorem QP4 :QK 8 [AV.bool true false] ([]) qX=(
  some [false=false]):=by kernel_rfl
theorem QPh(k k':Nat):QK 8 [.ptr 8 0 0,vi (i64.wrap ((k:Int)+1))] ((ZO x)) (zF x k')=(some (QIQ k k' x)):=by kernel_rfl
theorem QP5 :QK 8 [.ptr 8 0 0] ((ZO x)) (qD x)=(some (QFu x)):=by kernel_rfl
def YW:Bool := !(x.scans.get k).ok
def QF0(e:Ex)(J:JSt):Prop:=(e = .ret∧(QP (YW x) (x.scans.n-k) k).isNone=false∧J=qX)∨(e = .exit 0∧(QP (YW x) (x.scans.n-k) k).isNone=true∧J=qD x)
def QHs(e:Ex)(J:JSt):Prop:=(e = .ret∧(QP (K3 x) (x.hang.n-k) k).isNone=false∧J=qX)∨(e = .exit 2∧(QP (K3 x) (x.hang.n-k) k).isNone=true∧J=qD x)
theorem QFz{k:Nat}(h:k<n)(q:f k=true):(QP f (n-k) k).isNone=false:=by
 obtain⟨m,hm⟩:∃ m,n-k=m+1:=⟨n-k-1,by omega⟩
 rw[hm,QP,q];rfl
theorem QMD{k:Nat}(h:k<n)(q:f k=false):QP f (n-k) k=QP f (n-(k+1)) (k+1):=by
 obtain⟨m,hm⟩:∃ m,n-k=m+1:=⟨n-k-1,by omega⟩
 rw[hm,show n-(k+1)=m by omega,QP,q]
theorem QJk{k:Nat}(h:n≤k):(QP f (n-k) k).isNone=true:=by
 rw[show n-k=0 by omega];rfl
theorem QSB(hl:x.scans.n≤1000):JW (zU x) (fun k=>k≤x.scans.n) (fun k=>x.scans.n-k) (QF0 x) 8 QJX [] (mkE Try.prog VN) (fun _=>hnd (mkE Try.prog VN) 6) (Qa Try.f35 0):=by
 refine⟨fun k g hk=>KB (QT3 x k g) ?_⟩;refine QI (fun h => ?_) (fun h => ?_)
 ·have h:k<x.scans.n:=by have:=qdt h;omega
  refine QF (by simp;omega) (QF (by simp;omega) (QF rfl (QI (fun q => ?_) (fun q => ?_))))
  ·exact⟨_,.inl ⟨rfl,QFz h q,rfl⟩,rfl,rfl,_,QSc,⟨rfl,trivial⟩⟩
  ·refine⟨k+1,h,by show x.scans.n-(k+1)<x.scans.n-k;omega,fun e J r=>by unfold QF0 at r ⊢;rw[QMD h q];exact r,rfl,rfl,_,QOy x k (k+1),?_⟩
   repeat' first|with_reducible refine QO ?_ ?_|exact trivial|with_reducible rfl|exact qlr _|exact qRr|exact JO h hl|refine And.intro ?_ ?_
 ·have h:x.scans.n≤k:=by have:=of_decide_eq_false h;omega
  refine⟨_,.inr ⟨rfl,QJk h,rfl⟩,rfl,rfl,_,QRj x,?_⟩
  repeat' first|with_reducible refine QO ?_ ?_|exact trivial|with_reducible rfl|exact qlr _|exact qRr|refine And.intro ?_ ?_
theorem QNm(hl:x.hang.n≤1000):JW (zF x) (fun k=>k≤x.hang.n) (fun k=>x.hang.n-k) (QHs x) 8 QLe [] (mkS Try.prog VN) (fun _=>hnd (mkS Try.prog VN) 6) (Qa Try.f35 1):=by
 refine⟨fun k g hk=>KB (QRH x k g) ?_⟩;refine QI (fun h => ?_) (fun h => ?_)
 ·have h:k<x.hang.n:=by have:=qdt h;omega
  refine QF (by simp;omega) (QF (by simp;omega) ?_)
  have hb:K3 x k=(!QY (x.hang.get k).a 0 (i64.wrap ((x.scans.n:Int)-1))||(!QY (x.hang.get k).b 0 (i64.wrap ((x.scans.n:Int)-1))||(((x.hang.get k).a==(x.hang.get k).b)||(!QY (x.hang.get k).i 0 3 || !QY (x.hang.get k).j 0 3)))):=rfl
  generalize QY (x.hang.get k).a 0 (i64.wrap ((x.scans.n:Int)-1))=w1 at hb ⊢;generalize QY (x.hang.get k).b 0 (i64.wrap ((x.scans.n:Int)-1))=w2 at hb ⊢;generalize ((x.hang.get k).a==(x.hang.get k).b)=w3 at hb ⊢;generalize QY (x.hang.get k).i 0 3=w4 at hb ⊢;generalize QY (x.hang.get k).j 0 3=w5 at hb ⊢
  repeat' first|refine QF rfl ?_|refine QF (by grind) ?_|refine JK fun z hz => ?_
  refine QI (fun q => ?_) (fun q => ?_)
  ·exact⟨_,.inl ⟨rfl,QFz h (by grind),rfl⟩,rfl,rfl,_,QP4,⟨rfl,trivial⟩⟩
  ·refine⟨k+1,h,by show x.hang.n-(k+1)<x.hang.n-k;omega,fun e J r=>by unfold QHs at r ⊢;rw[QMD h (by grind)];exact r,rfl,rfl,_,QPh x k (k+1),?_⟩
   repeat' first|with_reducible refine QO ?_ ?_|exact trivial|with_reducible rfl|exact qlr _|exact qRr|exact JO h hl|refine And.intro ?_ ?_
 ·have h:x.hang.n≤k:=by have:=of_decide_eq_false h;omega
  refine⟨_,.inr ⟨rfl,QJk h,rfl⟩,rfl,rfl,_,QP5 x,?_⟩
  repeat' first|with_reducible refine QO ?_ ?_|exact trivial|with_reducible rfl|exact qlr _|exact qRr|refine And.intro ?_ ?_
def QLR:List (Prop×Ex×JSt):=[((QP (YW x) x.scans.n 0).isNone=false,.ret,qX),((QP (YW x) x.scans.n 0).isNone=true,.exit 0,qD x)]
def QFD:List (Prop×Ex×JSt):=[((QP (K3 x) x.hang.n 0).isNone=false,.ret,qX),((QP (K3 x) x.hang.n 0).isNone=true,.exit 2,qD x)]
abbrev QEe:Code→St→(Ex→St→QC)→QC:=z7 [(4,KF 8 [] (zU x (0:Nat)) (QLR x)),(9,KF 8 [] (zF x (0:Nat)) (QFD x))]
abbrev Hb(P:Program)(x:QE):Hnd:={ hnd (mkS P VN) 1 with loop:=QEe x }
theorem QWN(hs:x.scans.n≤1000)(hh:x.hang.n≤1000)(G:Ctx)(hrd:G.rd=none)(hG:G.n=8):KH (mkS Try.prog VN) G (Hb Try.prog x) (Qr Try.f35):=by
 refine QCo (Xl Wz) hrd fun c hc => ?_;have he:Kg (Qr Try.f35)=[.loop (Qa Try.f35 0),.loop (Qa Try.f35 1)]:=by kernel_rfl
 rw[he]at hc;simp only[List.mem_cons,List.not_mem_nil,or_false]at hc;rcases hc with rfl|rfl
 ·have e1:QEe x (.loop (Qa Try.f35 0))=KF 8 [] (zU x (0:Nat)) (QLR x):=by kernel_rfl
  rw[e1];refine W7 (E:=mkE Try.prog VN) rfl (J3 (n0:=8) (QS Wz) (by omega) (fun s hs=>Q3 (QS Wz) 6 G _ hrd) (fun s hs=>(by decide:8≤96)) ?_ (QSB x hs) (s0:=0) (Nat.zero_le _) ?_)
  ·rintro s e J (⟨_,_,rfl⟩|⟨_,_,rfl⟩)<;>exact(by decide:8≤96)
  ·rintro e J (⟨rfl,h,rfl⟩|⟨rfl,h,rfl⟩)
   ·exact⟨_,List.mem_cons_self,h,rfl,rfl⟩
   ·exact⟨_,List.mem_cons_of_mem _ List.mem_cons_self,h,rfl,rfl⟩
 ·have e1:QEe x (.loop (Qa Try.f35 1))=KF 8 [] (zF x (0:Nat)) (QFD x):=by kernel_rfl
  rw[e1];refine J3 (n0:=8) (Xl Wz) (by omega) (fun s hs=>Q3 (Xl Wz) 6 G _ hrd) (fun s hs=>(by decide:8≤96)) ?_ (QNm x hh) (s0:=0) (Nat.zero_le _) ?_
  ·rintro s e J (⟨_,_,rfl⟩|⟨_,_,rfl⟩)<;>exact(by decide:8≤96)
  ·rintro e J (⟨rfl,h,rfl⟩|⟨rfl,h,rfl⟩)
   ·exact⟨_,List.mem_cons_self,h,rfl,rfl⟩
   ·exact⟨_,List.mem_cons_of_mem _ List.mem_cons_self,h,rfl,rfl⟩
end Go.Proofs.Ytbpffdkemeoajaa
