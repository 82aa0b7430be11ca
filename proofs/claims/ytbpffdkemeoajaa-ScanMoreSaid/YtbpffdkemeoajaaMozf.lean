/- - -/
import Derived.Test.YtbpffdkemeoajaaMoze
import Derived.Test.YtbpffdkemeoajaaMop
import Derived.Test.YtbpffdkemeoajaaMozc
open Go.IntKind (i64)
set_option maxRecDepth 100000
namespace Go.Proofs.Ytbpffdkemeoajaa
open Go.SX
structure KJ where
 s:Sp
 d:Sp
 lo:Int
 hi:Int
 n:Int
def KJ.I(x:KJ):JSt:=⟨40,[(1,.int false .i64 x.lo),(2,.int false .i64 x.hi),(4,.ptr 0 0 0),(7,.ptr 8 0 0),(9,.int false .i64 x.n)],[(8,.cells 0 23 (Enc.enc x.d).cells),(0,.cells 0 23 (Enc.enc x.s).cells)],56⟩
def KJ.pre(x:KJ):Prop:=(-100000≤x.s.lo∧x.s.lo≤100000)∧(-100000≤x.s.hi∧x.s.hi≤100000)∧(-500≤x.lo∧x.lo≤0)∧(0≤x.hi∧x.hi≤500)∧(0≤x.d.lo∧x.d.lo≤100) ∧ -100000≤x.n∧x.n≤100001
def KJ.good(x:KJ)(n:Int):Prop:=n≤min x.s.hi x.hi∧1000*x.lo≤n*(1000+x.d.lo)∧n*(1000+x.d.lo)≤1000*x.hi
def KJ.yes(x:KJ):Prop:=∃ n,x.n≤n∧x.good n
def js(x:KJ)(e:Ex)(J:JSt):Prop:=(e = .ret∧J=⟨40,[(8,.bool true true)],[],0⟩∧x.yes)∨(e = .exit 0∧J=⟨40,[],[],0⟩∧¬ x.yes)
def Hl:Ex→List Nat
 | .normal=>[1,2,4,7,9]
 | .ret=>[8]
 | .exit _=>[]
def KJ.mu(x:KJ):Nat:=(min x.s.hi x.hi+1-x.n).toNat
def KJ.next(x:KJ):KJ:={ x with n:=x.n+1 }
def HB(x:KJ):QD := .leaf (.tup [.nilp,.ptr 40 0 0,.int false .i64 x.lo,.int false .i64 x.hi,.ptr 0 0 0,.ptr 8 0 0,.int false .i64 (i64.wrap (x.n+1))]) [(8,.cells 0 23 (Enc.enc x.d).cells),(0,.cells 0 23 (Enc.enc x.s).cells)]
theorem QUk(x:KJ)(g:Nat→Value):exec (mkE Try.prog Xz) (hnd (mkE Try.prog Xz) 0) (QV Try.f106 0) (JSt.inst x.I g) (QAV Hl) =
  .br (decide (x.n ≤ min x.s.hi x.hi))
    (.br (decide (i64.wrap (x.n * i64.wrap (1000 + x.d.lo)) ≥ i64.wrap (1000 * x.lo)))
      (.br (decide (i64.wrap (x.n * i64.wrap (1000 + x.d.lo)) ≤ i64.wrap (1000 * x.hi)))
        (.leaf (.tup [.nili,.ptr 40 0 0,.bool true true]) [(8,.cells 0 23 (Enc.enc x.d).cells),(0,.cells 0 23 (Enc.enc x.s).cells)])
        (HB x)) (HB x))
    (.leaf (.tup [.ptr 0 0 0,.ptr 40 0 0]) [(8,.cells 0 23 (Enc.enc x.d).cells),(0,.cells 0 23 (Enc.enc x.s).cells)]) := by kernel_rfl
theorem QHo{x:KJ}(h:x.pre):i64.wrap (x.n*i64.wrap (1000+x.d.lo))=x.n*(1000+x.d.lo)∧i64.wrap (1000*x.lo)=1000*x.lo∧i64.wrap (1000*x.hi)=1000*x.hi∧i64.wrap (x.n+1)=x.n+1:=by
 obtain⟨h1,h2,h3,h4,h5,h6,h7⟩:=h;have e:i64.wrap (1000+x.d.lo)=1000+x.d.lo:=w64 (by omega) (by omega)
 have m:=Int.mul_le_mul_of_nonneg_right h6 (show 0≤1000+x.d.lo by omega)
 have m':=Int.mul_le_mul_of_nonneg_right h7 (show 0≤1000+x.d.lo by omega)
 rw[e];exact⟨w64 (by omega) (by omega),w64 (by omega) (by omega),w64 (by omega) (by omega),w64 (by omega) (by omega)⟩
theorem QL7{x:KJ}(hp:x.pre)(hn:x.n≤min x.s.hi x.hi)(hb:¬ (1000*x.lo≤x.n*(1000+x.d.lo)∧x.n*(1000+x.d.lo)≤1000*x.hi)):(HB x).den (qy (QKd KJ.I KJ.pre KJ.mu js 0 Hl x) (Go.SX.Leaves js 0 Hl x)):=by
 unfold HB;rw[(QHo hp).2.2.2];refine⟨x.next,fun i=>i,?_,?_,?_,?_⟩
 ·obtain⟨h1,h2,h3,h4,h5,h6,h7⟩:=hp;refine⟨h1,h2,h3,h4,h5,?_,?_⟩<;>simp only[KJ.next]<;>omega
 ·simp only[KJ.mu,KJ.next];omega
 ·intro e J hR
  have hy:x.next.yes↔x.yes:=by
   constructor
   ·rintro⟨n,h1,h2⟩;simp only[KJ.next]at h1;exact⟨n,by omega,h2⟩
   ·rintro⟨n,h1,h2⟩;rcases(show n=x.n∨x.n+1≤n by omega)with rfl|h3
    ·exact absurd h2.2 hb
    ·exact⟨n,h3,h2⟩
  unfold js at *;rw[hy]at hR;exact hR
 ·refine Va.same rfl rfl ?_ ?_ rfl rfl
  ·exact⟨⟨rfl,rfl⟩,⟨rfl,rfl⟩,⟨rfl,rfl,rfl⟩,⟨rfl,rfl,rfl⟩,⟨rfl,rfl⟩,trivial⟩
  ·exact⟨⟨_,rfl,rfl,rfl,⟨rfl,rfl⟩,⟨rfl,rfl⟩,trivial⟩,⟨_,rfl,rfl,rfl,⟨rfl,rfl⟩,⟨rfl,rfl⟩,trivial⟩,trivial⟩
theorem QSx:QBs KJ.I KJ.pre KJ.mu js 0 Hl (mkE Try.prog Xz) (hnd (mkE Try.prog Xz) 0) (QV Try.f106 0):=by
 intro x g hp;rw[QUk];obtain⟨e1,e2,e3,_⟩:=QHo hp;simp only[QD.den,e1,e2,e3,qdE,decide_eq_false_iff_not];refine⟨fun hn=>⟨fun h1=>⟨fun h2 => ?_,fun h2 => ?_⟩,fun h1 => ?_⟩,fun hn => ?_⟩
 ·exact⟨⟨40,[(8,.bool true true)],[],0⟩,fun i=>i,.inl ⟨rfl,rfl,x.n,Int.le_refl _,hn,h1,h2⟩,Va.same rfl rfl ⟨rfl,trivial⟩ trivial rfl rfl⟩
 ·exact QL7 hp hn (fun h=>h2 h.2)
 ·exact QL7 hp hn (fun h=>h1 h.1)
 ·refine⟨⟨40,[],[],0⟩,fun i=>i,.inr ⟨rfl,rfl,?_⟩,Va.same rfl rfl trivial trivial rfl rfl⟩;rintro⟨n,h1,h2,_⟩;omega
instance (x : KJ) : Decidable x.pre := by unfold KJ.pre; infer_instance
def YJ:Code→St→(Ex→St→QD)→QD:=fun _ st K=>match st.tm.length==40&&VK st.hp,QH st.tm 1,QH st.tm 2,QH st.tm 4,QH st.tm 7,QH st.tm 9,Go.SX.look st.hp 8,Go.SX.look st.hp 0 with
 | true,.int _ .i64 lo,.int _ .i64 hi,.ptr 0 0 0,.ptr 8 0 0,.int _ .i64 n,some (.cells 0 23 [.int _ .i64 dlo,.int _ .i64 dhi]),some (.cells 0 23 [.int _ .i64 slo,.int _ .i64 shi])=>
  .need (decide (KJ.pre ⟨⟨slo,shi⟩,⟨dlo,dhi⟩,lo,hi,n⟩)) (.both (.asm (KJ.yes ⟨⟨slo,shi⟩,⟨dlo,dhi⟩,lo,hi,n⟩) (.all fun g=>K .ret (JSt.inst ⟨40,[(8,.bool true true)],[],0⟩ g)))
   (.asm (¬ KJ.yes ⟨⟨slo,shi⟩,⟨dlo,dhi⟩,lo,hi,n⟩) (.all fun g=>K (.exit 0) (JSt.inst ⟨40,[],[],0⟩ g))))
 | _, _, _, _, _, _, _, _ => .fail "some"
theorem QRt(body:Code)(st:St)(K:Ex→St→QD)(T:AV→List (Nat×Blk)→Prop)(h:(YJ body st K).den T):∃ s q ls',KJ.pre s∧Va 0 q ls' st.tm.length (ls'.map (QH st.tm)) st.hp (KJ.I s)∧∀ e J g,js s e J→(K e (J.inst g)).den T:=by
 unfold YJ at h;split at h<;>(try (exact h.elim))
 rename_i k1 lo k2 hi k9 n kd dlo ke dhi ks slo kt shi c1 e1 e2 e4 e7 e9 h8 h0;simp only[QD.den,qdE]at h;rw[qbA]at c1;refine⟨⟨⟨slo,shi⟩,⟨dlo,dhi⟩,lo,hi,n⟩,fun i=>i,[1,2,4,7,9],h.1,Va.same rfl ?_ ?_ ?_ rfl rfl ?_,?_⟩
 ·exact beq_iff_eq.1 c1.1
 ·simp only[List.map_cons,List.map_nil, *];exact⟨⟨rfl,rfl⟩,⟨rfl,rfl⟩,⟨rfl,rfl,rfl⟩,⟨rfl,rfl,rfl⟩,⟨rfl,rfl⟩,trivial⟩
 ·exact⟨⟨_,h8,rfl,rfl,⟨rfl,rfl⟩,⟨rfl,rfl⟩,trivial⟩,⟨_,h0,rfl,rfl,⟨rfl,rfl⟩,⟨rfl,rfl⟩,trivial⟩,trivial⟩
 ·exact c1.2
 ·rintro e J g (⟨rfl,rfl,hy⟩|⟨rfl,rfl,hy⟩)
  ·exact h.2.1 hy g
  ·exact h.2.2 hy g
theorem QUP(G:Ctx)(hG:G.n=0)(hrd:G.rd=none):Q9 (mkE Try.prog Xz) G { hnd (mkE Try.prog Xz) 0 with loop:=YJ } (Qr Try.f106):=
 ⟨fun b hb=>by
  have e:Kj (Qr Try.f106)=[.loop (QV Try.f106 0)]:=by kernel_rfl
  rw[e,List.mem_singleton]at hb;subst hb;exact QUT (QT jN) (by omega) (Q0 (QT jN) 0 G _ hrd) (fun _=>Nat.zero_le _) QSx (fun st K T h=>QRt (QV Try.f106 0) st K T h),(Q0 (QT jN) 0 G (Qr Try.f106) hrd).call,(Q0 (QT jN) 0 G (Qr Try.f106) hrd).yield⟩
def KX(s:Sp)(lo hi:Int)(d:Sp):Bool:=decide (s.lo≤s.hi∧(-100000≤s.lo∧s.lo≤100000)∧(-100000≤s.hi∧s.hi≤100000)∧(-500≤lo∧lo≤0)∧(0≤hi∧hi≤500)∧0≤d.lo∧d.lo≤100)
def QMP:Sp×Int×Int×Sp×Unit→Bool×AV:=fun|(s,(lo,(hi,(d,_))))=>(KX s lo hi d,.bool false (Ql s.lo s.hi lo hi d.lo))
def QIY:FC:=Q3 (Q2 QMP)
theorem QOI(s:Sp)(lo:Int)(hi:Int)(d:Sp):Qx (mkE Try.prog Xz) { hnd (mkE Try.prog Xz) 0 with loop:=YJ } false Try.f106 (Qm.enc ((s,lo,hi,d,()):Sp×Int×Int×Sp×Unit)) [] 0 =
  QD.need (decide (KJ.mk s d lo hi (max s.lo lo)).pre) (QD.both (QD.asm ((KJ.mk s d lo hi (max s.lo lo)).yes) (QD.all (fun(g0:Nat→Value)=>QD.leaf (AV.bool true
  true) ([])))) (QD.asm (¬(KJ.mk s d lo hi (max s.lo lo)).yes) (QD.all (fun(g1:Nat→Value)=>QD.leaf (AV.bool true false) ([]))))):=by kernel_rfl
theorem QOn:QQ Try.prog 106 QIY:=by
 refine QCo (QT jN) Try.func106 (by kernel_rfl) (by kernel_rfl) QUP ?_
 rintro⟨s,lo,hi,d,⟨⟩⟩ hp;rw[QOI s lo hi d];simp only[QMP,QD.den,AV.same,AV.sameL,and_true,true_and]at hp ⊢;have hq:=qdt hp;obtain⟨h0,h1,h2,h3,h4,h5⟩:=hq;unfold KJ.yes KJ.good;refine⟨decide_eq_true ⟨h1,h2,h3,h4,h5,?_,?_⟩,?_,?_⟩
 ·show -100000≤max s.lo lo;omega
 ·show max s.lo lo≤100001;omega
 ·rintro⟨n,g1,g2,g3,g4⟩ _
  dsimp only at g1 g2 g3 g4
  exact(QCg (n:=n) (by omega) (by omega) (by omega) (by omega) (by omega) g3 g4).symm
 ·intro hn _
  dsimp only at hn
  refine(QVl (by omega) (by omega) (by omega) h0 fun n g1 g2 g3=>hn ⟨n,g1,g2,g3⟩).symm
def QAd:Tab:=Qh Xz 106 QIY
theorem QFT:QW QAd:=jN.add QOn
theorem QGs{p:Qg}{t h:Edge}(h1:p.ok=true)(h2:t.ok=true)(h3:h.ok=true)(ht:t.kind=1)(hh:h.kind=2):(Qs.B ⟨p,t,h⟩∧i64.wrap (0-p.slack) = -p.slack)∧(VT (Qe p t h) (-p.slack) p.slack p.damp=true∧VT (Qf t h) 0 p.loose p.damp=true∧VT (Qc t h) 0 p.loose p.damp=true) ∧
  KX (Qe p t h) (-p.slack) p.slack p.damp=true∧KX (Qf t h) 0 p.loose p.damp=true∧KX (Qc t h) 0 p.loose p.damp=true:=by
 have hB:=QCi h1 h2 h3 ht hh;have hb:=QRA hB;have h1':=hB.1;unfold Jc at h1'
 have s2:(t.at_.lo≤t.at_.hi∧t.wide.lo≤t.wide.hi∧t.deep.lo≤t.deep.hi):=by
  unfold Edge.ok Sp.isIn at h2;simp[ht]at h2;omega
 have s3:(h.at_.lo≤h.at_.hi∧h.wide.lo≤h.wide.hi∧h.deep.lo≤h.deep.hi):=by
  unfold Edge.ok Sp.isIn at h3;simp[hh]at h3;omega
 obtain⟨o1,o2,o3,o4⟩:=hb;simp only at h1';have n1:(Qe p t h).lo≤(Qe p t h).hi:=by simp only[Qe];omega
 have n2:(Qf t h).lo≤(Qf t h).hi:=by simp only[Qf];omega
 have n3:(Qc t h).lo≤(Qc t h).hi:=by simp only[Qc];omega
 unfold VT KX;refine⟨⟨hB,?_⟩,⟨decide_eq_true ?_,decide_eq_true ?_,decide_eq_true ?_⟩,decide_eq_true ?_,decide_eq_true ?_,decide_eq_true ?_⟩
 ·rw[w64 (by omega) (by omega)];omega
 all_goals omega
def QKX:Qg×Edge×Edge×Unit→Bool×AV:=fun|(p,(a,(b,_)))=>(okP p a b,.int false .i64 (Vx p a b))
def QFQ:FC:=Q3 (Q2 QKX)
theorem QWh(p:Qg)(a:Edge)(b:Edge):Qx (mkE Try.prog QAd) (hnd (mkE Try.prog QAd) 4) false Try.f89 (Qm.enc ((p,a,b,()):Qg×Edge×Edge×Unit)) [] 0 = .br (a.kind==1) (.br (b.kind==2)
  (.need (decide (Qs.mk p a b).B) (.need (VT (Qe p a b) (i64.wrap ((0:Int)-p.slack)) p.slack p.damp) (.br (KN (Qe p a b).lo (Qe p a b).hi
  (i64.wrap ((0:Int)-p.slack)) p.slack p.damp.hi) (.need (VT (Qf a b) (0:Int) p.loose p.damp) (.br (KN (Qf a b).lo (Qf a b).hi (0:Int) p.loose
  p.damp.hi) (.need (VT (Qc a b) (0:Int) p.loose p.damp) (.br (KN (Qc a b).lo (Qc a b).hi (0:Int) p.loose p.damp.hi) (.leaf (.int true .i64 2) ([])) (.need
  (KX (Qe p a b) (i64.wrap ((0:Int)-p.slack)) p.slack p.damp) (.br (Ql (Qe p a b).lo (Qe p a b).hi (i64.wrap ((0:Int)-p.slack)) p.slack
  p.damp.lo) (.need (KX (Qf a b) (0:Int) p.loose p.damp) (.br (Ql (Qf a b).lo (Qf a b).hi (0:Int) p.loose p.damp.lo) (.need (KX (Qc a b) (0:Int)
  p.loose p.damp) (.br (Ql (Qc a b).lo (Qc a b).hi (0:Int) p.loose p.damp.lo) (.leaf (.int true .i64 1) ([])) (.leaf (.int true .i64 0) ([])))) (.leaf (.int true .i64
  0) ([])))) (.leaf (.int true .i64 0) ([])))))) (.need (KX (Qe p a b) (i64.wrap ((0:Int)-p.slack)) p.slack p.damp) (.br (Ql (Qe p a b).lo (Qe p a b).hi
  (i64.wrap ((0:Int)-p.slack)) p.slack p.damp.lo) (.need (KX (Qf a b) (0:Int) p.loose p.damp) (.br (Ql (Qf a b).lo (Qf a b).hi (0:Int) p.loose
  p.damp.lo) (.need (KX (Qc a b) (0:Int) p.loose p.damp) (.br (Ql (Qc a b).lo (Qc a b).hi (0:Int) p.loose p.damp.lo) (.leaf (.int true .i64 1) ([])) (.leaf
  (.int true .i64 0) ([])))) (.leaf (.int true .i64 0) ([])))) (.leaf (.int true .i64 0) ([])))))) (.need (KX (Qe p a b) (i64.wrap ((0:Int)-p.slack)) p.slack p.damp)
  (.br (Ql (Qe p a b).lo (Qe p a b).hi (i64.wrap ((0:Int)-p.slack)) p.slack p.damp.lo) (.need (KX (Qf a b) (0:Int) p.loose p.damp) (.br (Ql
  (Qf a b).lo (Qf a b).hi (0:Int) p.loose p.damp.lo) (.need (KX (Qc a b) (0:Int) p.loose p.damp) (.br (Ql (Qc a b).lo (Qc a b).hi (0:Int) p.loose
  p.damp.lo) (.leaf (.int true .i64 1) ([])) (.leaf (.int true .i64 0) ([])))) (.leaf (.int true .i64 0) ([])))) (.leaf (.int true .i64 0) ([]))))))) (.br (b.kind==1) (.br (a.kind
  == 2) (.need (decide (Qs.mk p b a).B) (.need (VT (Qe p b a) (i64.wrap ((0:Int)-p.slack)) p.slack p.damp) (.br (KN (Qe p b a).lo (Qe p b a).hi
  (i64.wrap ((0:Int)-p.slack)) p.slack p.damp.hi) (.need (VT (Qf b a) (0:Int) p.loose p.damp) (.br (KN (Qf b a).lo (Qf b a).hi (0:Int) p.loose
  p.damp.hi) (.need (VT (Qc b a) (0:Int) p.loose p.damp) (.br (KN (Qc b a).lo (Qc b a).hi (0:Int) p.loose p.damp.hi) (.leaf (.int true .i64 2) ([])) (.need
  (KX (Qe p b a) (i64.wrap ((0:Int)-p.slack)) p.slack p.damp) (.br (Ql (Qe p b a).lo (Qe p b a).hi (i64.wrap ((0:Int)-p.slack)) p.slack
  p.damp.lo) (.need (KX (Qf b a) (0:Int) p.loose p.damp) (.br (Ql (Qf b a).lo (Qf b a).hi (0:Int) p.loose p.damp.lo) (.need (KX (Qc b a) (0:Int)
  p.loose p.damp) (.br (Ql (Qc b a).lo (Qc b a).hi (0:Int) p.loose p.damp.lo) (.leaf (.int true .i64 1) ([])) (.leaf (.int true .i64 0) ([])))) (.leaf (.int true .i64
  0) ([])))) (.leaf (.int true .i64 0) ([])))))) (.need (KX (Qe p b a) (i64.wrap ((0:Int)-p.slack)) p.slack p.damp) (.br (Ql (Qe p b a).lo (Qe p b a).hi
  (i64.wrap ((0:Int)-p.slack)) p.slack p.damp.lo) (.need (KX (Qf b a) (0:Int) p.loose p.damp) (.br (Ql (Qf b a).lo (Qf b a).hi (0:Int) p.loose
  p.damp.lo) (.need (KX (Qc b a) (0:Int) p.loose p.damp) (.br (Ql (Qc b a).lo (Qc b a).hi (0:Int) p.loose p.damp.lo) (.leaf (.int true .i64 1) ([])) (.leaf
  (.int true .i64 0) ([])))) (.leaf (.int true .i64 0) ([])))) (.leaf (.int true .i64 0) ([])))))) (.need (KX (Qe p b a) (i64.wrap ((0:Int)-p.slack)) p.slack p.damp)
  (.br (Ql (Qe p b a).lo (Qe p b a).hi (i64.wrap ((0:Int)-p.slack)) p.slack p.damp.lo) (.need (KX (Qf b a) (0:Int) p.loose p.damp) (.br (Ql
  (Qf b a).lo (Qf b a).hi (0:Int) p.loose p.damp.lo) (.need (KX (Qc b a) (0:Int) p.loose p.damp) (.br (Ql (Qc b a).lo (Qc b a).hi (0:Int) p.loose
  p.damp.lo) (.leaf (.int true .i64 1) ([])) (.leaf (.int true .i64 0) ([])))) (.leaf (.int true .i64 0) ([])))) (.leaf (.int true .i64 0) ([]))))))) (.leaf (.int true .i64 0) ([])))
  (.leaf (.int true .i64 0) ([])))) (.br (b.kind==1) (.br (a.kind==2) (.need (decide (Qs.mk p b a).B) (.need (VT (Qe p b a) (i64.wrap ((0:Int)-p.slack))
  p.slack p.damp) (.br (KN (Qe p b a).lo (Qe p b a).hi (i64.wrap ((0:Int)-p.slack)) p.slack p.damp.hi) (.need (VT (Qf b a) (0:Int) p.loose p.damp) (.br
  (KN (Qf b a).lo (Qf b a).hi (0:Int) p.loose p.damp.hi) (.need (VT (Qc b a) (0:Int) p.loose p.damp) (.br (KN (Qc b a).lo (Qc b a).hi (0:Int)
  p.loose p.damp.hi) (.leaf (.int true .i64 2) ([])) (.need (KX (Qe p b a) (i64.wrap ((0:Int)-p.slack)) p.slack p.damp) (.br (Ql (Qe p b a).lo (Qe p b
  a).hi (i64.wrap ((0:Int)-p.slack)) p.slack p.damp.lo) (.need (KX (Qf b a) (0:Int) p.loose p.damp) (.br (Ql (Qf b a).lo (Qf b a).hi (0:Int)
  p.loose p.damp.lo) (.need (KX (Qc b a) (0:Int) p.loose p.damp) (.br (Ql (Qc b a).lo (Qc b a).hi (0:Int) p.loose p.damp.lo) (.leaf (.int true .i64 1) ([]))
  (.leaf (.int true .i64 0) ([])))) (.leaf (.int true .i64 0) ([])))) (.leaf (.int true .i64 0) ([])))))) (.need (KX (Qe p b a) (i64.wrap ((0:Int)-p.slack)) p.slack
  p.damp) (.br (Ql (Qe p b a).lo (Qe p b a).hi (i64.wrap ((0:Int)-p.slack)) p.slack p.damp.lo) (.need (KX (Qf b a) (0:Int) p.loose p.damp) (.br
  (Ql (Qf b a).lo (Qf b a).hi (0:Int) p.loose p.damp.lo) (.need (KX (Qc b a) (0:Int) p.loose p.damp) (.br (Ql (Qc b a).lo (Qc b a).hi (0:Int)
  p.loose p.damp.lo) (.leaf (.int true .i64 1) ([])) (.leaf (.int true .i64 0) ([])))) (.leaf (.int true .i64 0) ([])))) (.leaf (.int true .i64 0) ([])))))) (.need (KX (Qe p b
  a) (i64.wrap ((0:Int)-p.slack)) p.slack p.damp) (.br (Ql (Qe p b a).lo (Qe p b a).hi (i64.wrap ((0:Int)-p.slack)) p.slack p.damp.lo) (.need
  (KX (Qf b a) (0:Int) p.loose p.damp) (.br (Ql (Qf b a).lo (Qf b a).hi (0:Int) p.loose p.damp.lo) (.need (KX (Qc b a) (0:Int) p.loose p.damp) (.br
  (Ql (Qc b a).lo (Qc b a).hi (0:Int) p.loose p.damp.lo) (.leaf (.int true .i64 1) ([])) (.leaf (.int true .i64 0) ([])))) (.leaf (.int true .i64 0) ([])))) (.leaf
  (.int true .i64 0) ([]))))))) (.leaf (.int true .i64 0) ([]))) (.leaf (.int true .i64 0) ([]))):=by kernel_rfl
theorem QXA:QQ Try.prog 89 QFQ:=by
 refine KA QFT 4 Try.func89 (by kernel_rfl) (by kernel_rfl) ?_
 rintro⟨p,a,b,⟨⟩⟩ hp;rw[QWh p a b];simp only[QKX,QD.den,AV.same,AV.sameL,and_true,true_and]at hp ⊢;unfold okP at hp;simp only[qbA]at hp;obtain⟨h1,h2,h3⟩:=hp;unfold Vx
 by_cases c1:a.kind=1∧b.kind=2
 ·obtain⟨ha,hb⟩:=c1;obtain⟨⟨q1,q2⟩,⟨q3,q4,q5⟩,q6,q7,q8⟩:=QGs h1 h2 h3 ha hb;rw[if_neg (by omega),if_pos ⟨ha,hb⟩,HO]
  simp only[ha,hb,q1,q2,q3,q4,q5,q6,q7,q8,alw,may,beq_self_eq_true,decide_true];generalize KN (Qe p a b).lo (Qe p a b).hi (-p.slack) p.slack p.damp.hi=b1;generalize KN (Qf a b).lo (Qf a b).hi 0 p.loose p.damp.hi=b2;generalize KN (Qc a b).lo (Qc a b).hi 0 p.loose p.damp.hi=b3;generalize Ql (Qe p a b).lo (Qe p a b).hi (-p.slack) p.slack p.damp.lo=b4;generalize Ql (Qf a b).lo (Qf a b).hi 0 p.loose p.damp.lo=b5;generalize Ql (Qc a b).lo (Qc a b).hi 0 p.loose p.damp.lo=b6;cases b1<;>cases b2<;>cases b3<;>cases b4<;>cases b5<;>cases b6<;>simp
 by_cases c2:b.kind=1∧a.kind=2
 ·obtain⟨hb,ha⟩:=c2;obtain⟨⟨q1,q2⟩,⟨q3,q4,q5⟩,q6,q7,q8⟩:=QGs h1 h3 h2 hb ha;rw[if_pos ha,if_pos hb,HO];simp only[ha,hb,q1,q2,q3,q4,q5,q6,q7,q8,alw,may,beq_self_eq_true,decide_true];generalize KN (Qe p b a).lo (Qe p b a).hi (-p.slack) p.slack p.damp.hi=b1;generalize KN (Qf b a).lo (Qf b a).hi 0 p.loose p.damp.hi=b2;generalize KN (Qc b a).lo (Qc b a).hi 0 p.loose p.damp.hi=b3;generalize Ql (Qe p b a).lo (Qe p b a).hi (-p.slack) p.slack p.damp.lo=b4;generalize Ql (Qf b a).lo (Qf b a).hi 0 p.loose p.damp.lo=b5;generalize Ql (Qc b a).lo (Qc b a).hi 0 p.loose p.damp.lo=b6
  cases b1<;>cases b2<;>cases b3<;>cases b4<;>cases b5<;>cases b6<;>simp
 have e0:(if a.kind=2 then (if b.kind=1 then XQ p b a else 0)else if a.kind=1∧b.kind=2 then XQ p a b else 0)=0:=by
  split
  ·rename_i ha;rw[if_neg (fun h=>c2 ⟨h,ha⟩)]
  ·rfl
 rw[e0];simp only[beq_iff_eq,beq_eq_false_iff_ne];refine⟨fun ha=>⟨fun hb=>absurd ⟨ha,hb⟩ c1,fun _=>⟨fun hb=>⟨fun h=>absurd ⟨hb,h⟩ c2,fun _=>trivial⟩,fun _=>trivial⟩⟩,fun _=>⟨fun hb=>⟨fun h=>absurd ⟨hb,h⟩ c2,fun _=>trivial⟩,fun _=>trivial⟩⟩
def Gx:Tab:=Qh QAd 89 QFQ
theorem QKF:QW Gx:=QFT.add QXA
def QLA:Qg×Edge×Edge×Unit→Bool×AV:=fun|(p,(a,(b,_)))=>(true,.tup [.int false .i64 (Q8 p a b).1,.int false .i64 (Q8 p a b).2])
def QKj:FC:=Q3 (Q2 QLA)
theorem QTI(p:Qg)(a:Edge)(b:Edge):Qx (mkE Try.prog Gx) (hnd (mkE Try.prog Gx) 4) false Try.f69 (Qm.enc ((p,a,b,()):Qg×Edge×Edge×Unit)) [] 0 =
  QD.need (true) (QD.br (!p.ok) (QD.leaf (AV.tup [AV.int true i64 (0:Int),AV.int true i64 (1:Int)]) ([])) (QD.need (true) (QD.br (!a.ok) (QD.leaf
  (AV.tup [AV.int true i64 (0:Int),AV.int true i64 (1:Int)]) ([])) (QD.need (true) (QD.br (!b.ok) (QD.leaf (AV.tup [AV.int true i64 (0:Int),
  AV.int true i64 (1:Int)]) ([])) (QD.need (okP p a b) (QD.leaf (AV.tup [AV.int false i64 (Vx p a b),AV.int true i64 (0:Int)]) ([])))))))):=by kernel_rfl
theorem QUO:QQ Try.prog 69 QKj:=by
 refine KA QKF 4 Try.func69 (by kernel_rfl) (by kernel_rfl) ?_
 rintro⟨p,a,b,⟨⟩⟩ hp;rw[QTI p a b];simp only[QLA,QD.den,AV.same,AV.sameL,and_true,true_and]at hp ⊢;unfold Q8 okP;cases p.ok<;>cases a.ok<;>cases b.ok<;>simp
def z9:Tab:=Qh Gx 69 QKj
theorem QFj:QW z9:=QKF.add QUO
def QLh:Int×Int×Int×Unit→Bool×AV:=fun|(n,(a,(b,_)))=>(true,.bool false (Qa n a b))
def QGN:FC:=Q3 (Q2 QLh)
theorem QRz(n:Int)(a:Int)(b:Int):Qx (mkE Try.prog z9) (hnd (mkE Try.prog z9) 0) false Try.f68 (Qm.enc ((n,a,b,()):Int×Int×Int×Unit)) [] 0 =
  QD.br (decide (a≤n)) (QD.leaf (AV.bool false (decide (n≤b))) ([])) (QD.leaf (AV.bool true false) ([])):=by kernel_rfl
theorem QWW:QQ Try.prog 68 QGN:=by
 refine KA QFj 0 Try.func68 (by kernel_rfl) (by kernel_rfl) ?_
 rintro⟨n,a,b,⟨⟩⟩ hp;rw[QRz n a b];simp only[QLh,QD.den,AV.same,AV.sameL,and_true,true_and]at hp ⊢
 (repeat' (first|(refine And.intro ?_ ?_)|(intro _)))<;>simp_all [Qa]<;>omega
def HK:Tab:=Qh z9 68 QGN
theorem QE5:QW HK:=QFj.add QWW
def QJ2:Sp×Sp×Unit→Bool×AV:=fun|(a,(b,_))=>(true,.bool false (com a b))
def QJx:FC:=Q3 (Q2 QJ2)
theorem QNr(a:Sp)(b:Sp):Qx (mkE Try.prog HK) (hnd (mkE Try.prog HK) 0) false Try.f102 (Qm.enc ((a,b,()):Sp×Sp×Unit)) [] 0 =
  QD.br (decide (a.lo≤b.hi)) (QD.leaf (AV.bool false (decide (b.lo≤a.hi))) ([])) (QD.leaf (AV.bool true false) ([])):=by kernel_rfl
theorem QV0:QQ Try.prog 102 QJx:=by
 refine KA QE5 0 Try.func102 (by kernel_rfl) (by kernel_rfl) ?_
 rintro⟨a,b,⟨⟩⟩ hp;rw[QNr a b];simp only[QJ2,QD.den,AV.same,AV.sameL,and_true,true_and]at hp ⊢;simp only[com];refine⟨fun h => ?_,fun h => ?_⟩
 ·rw[h];simp
 ·rw[h];simp
def Hf:Tab:=Qh HK 102 QJx
theorem QMT:QW Hf:=QE5.add QV0
def QIb:Edge×Edge×Unit→Bool×AV:=fun|(a,(b,_))=>(true,.bool false (isS a b))
def QI7:FC:=Q3 (Q2 QIb)
theorem QUR(a:Edge)(b:Edge):Qx (mkE Try.prog Hf) (hnd (mkE Try.prog Hf) 0) false Try.f88 (Qm.enc ((a,b,()):Edge×Edge×Unit)) [] 0 =
  QD.br (a.kind==b.kind) (QD.br (a.kind==(0:Int)) (QD.leaf (AV.bool true true) ([])) (QD.need (true) (QD.br (com a.at_ b.at_) (QD.need (true) (QD.br (com a.wide
  b.wide) (QD.need (true) (QD.leaf (AV.bool false (com a.deep b.deep)) ([]))) (QD.leaf (AV.bool true false) ([])))) (QD.leaf (AV.bool true false) ([]))))) (QD.leaf (AV.bool
  true false) ([])):=by kernel_rfl
theorem QR2:QQ Try.prog 88 QI7:=by
 refine KA QMT 0 Try.func88 (by kernel_rfl) (by kernel_rfl) ?_
 rintro⟨a,b,⟨⟩⟩ hp;rw[QUR a b];simp only[QIb,QD.den,AV.same,AV.sameL,and_true,true_and]at hp ⊢;simp only[isS,isF];generalize com a.at_ b.at_=c1
 generalize com a.wide b.wide=c2;generalize com a.deep b.deep=c3
 by_cases h:a.kind=b.kind
 ·by_cases h0:b.kind=0
  ·simp[h,h0]
  ·cases c1<;>cases c2<;>cases c3<;>simp[h,h0]
 ·by_cases h0:a.kind=0
  ·have:¬ b.kind=0:=fun e=>h (by rw[h0,e])
   have h':¬ 0=b.kind:=fun e=>this e.symm;simp[h0,this,h']
  ·simp[h,h0]
def QAD:Tab:=Qh Hf 88 QI7
theorem QFJ:QW QAD:=QMT.add QR2
def QLZ:QK×Unit→Bool×AV:=fun|(s,_)=>(true,.bool false s.ok)
def QEz:FC:=Q3 (Q2 QLZ)
theorem QUr(s:QK):Qx (mkE Try.prog QAD) (hnd (mkE Try.prog QAD) 6) false Try.f28 (Qm.enc ((s,()):QK×Unit)) [] 0 =
  QD.need (true) (QD.br (!s.up.ok) (QD.leaf (AV.bool true false) ([])) (QD.need (true) (QD.br (!s.right.ok) (QD.leaf (AV.bool true false) ([])) (QD.need (true) (QD.br
  (!s.down.ok) (QD.leaf (AV.bool true false) ([])) (QD.need (true) (QD.br (!s.left.ok) (QD.leaf (AV.bool true false) ([])) (QD.leaf (AV.bool true true) ([]))))))))):=by kernel_rfl
theorem QVC:QQ Try.prog 28 QEz:=by
 refine KA QFJ 6 Try.func28 (by kernel_rfl) (by kernel_rfl) ?_
 rintro⟨s,⟨⟩⟩ hp;rw[QUr s];simp only[QLZ,QD.den,AV.same,AV.sameL,and_true,true_and]at hp ⊢;simp only[QK.ok];cases s.up.ok<;>cases s.right.ok<;>cases s.down.ok<;>cases s.left.ok<;>simp
def ZE:Tab:=Qh QAD 28 QEz
theorem QEH:QW ZE:=QFJ.add QVC
def zL:WF (Puz×Edge×Edge×Unit):=fun|(d,(a,(b,_)))=>(decide (d.ps.n≤1000),.int false .i64 (Q8 d.play a b).1,[])
def QEh:FC:=wFC zL
variable (d:Puz)(k:Nat)
theorem QSA(a:Edge)(b:Edge):Ka (mkE Try.prog ZE) (hnd (mkE Try.prog ZE) 0) Try.f41 (QY.vals 0 ((d,a,b,()):Puz×Edge×Edge×Unit)) (QY.blks 0 ((d,a,b,()):Puz×Edge×Edge×Unit)) 8 =
  QD.need (true) (QD.leaf (AV.int false i64 (Q8 d.play a b).1) ([])):=by kernel_rfl
theorem QSj:K6 (mkE Try.prog ZE) (Qr Try.f41) 8 zL (fun x_=>(hnd (mkE Try.prog ZE) 0)):=by
 refine⟨?_⟩;rintro⟨d,⟨a,⟨b,⟨⟩⟩⟩⟩ hp G h1 h2;exact Q0 (QT QEH) 0 G _ h1
theorem QW3:K5 (mkE Try.prog ZE) Try.f41 8 zL (fun x_=>(hnd (mkE Try.prog ZE) 0)):=by
 refine⟨?_⟩;rintro⟨d,⟨a,⟨b,⟨⟩⟩⟩⟩ hp;refine⟨⟨rfl,by simp[zL],rfl⟩,⟨?_⟩⟩
 rw[QSA d a b];simp only[zL]at hp;refine QG rfl (Kg ?_ rfl);exact⟨rfl,rfl⟩
theorem QOQ:QQ Try.prog 41 QEh:=
 JK (QT QEH) Try.func41 (by kernel_rfl) (by kernel_rfl) (by decide) QSj QW3
def Yp:Tab:=Qh ZE 41 QEh
theorem QBr:QW Yp:=QEH.add QOQ
def WV:WF (Puz×Int×Int×Unit):=fun|(d,(c,(s,_)))=>(decide ((1≤d.wide∧d.wide≤100)∧(1≤d.high∧d.high≤100)∧(0≤c∧c≤100)),.int false .i64 (QX d.wide d.high c s),[])
def QKI:FC:=wFC WV
theorem QTo(c:Int)(s:Int):Ka (mkE Try.prog Yp) (hnd (mkE Try.prog Yp) 0) Try.f31 (QY.vals 0 ((d,c,s,()):Puz×Int×Int×Unit)) (QY.blks 0 ((d,c,s,()):Puz×Int×Int ×
  Unit)) 8 = .need (!decide (d.wide=0)) (.need (!decide (d.wide=0)) (.br (s==0) (.br (decide (i64.wrap (c.tdiv d.wide)>0)) (.leaf (.int false .i64 (i64.wrap (c
  - d.wide))) ([])) (.br (s==1) (.br (decide (c.tmod d.wide<i64.wrap (d.wide-1))) (.leaf (.int false .i64 (i64.wrap (c+1))) ([])) (.br (s==2) (.br (decide
  (i64.wrap (c.tdiv d.wide)<i64.wrap (d.high-1))) (.leaf (.int false .i64 (i64.wrap (c+d.wide))) ([])) (.br (s==3) (.br (decide (c.tmod d.wide>0))
  (.leaf (.int false .i64 (i64.wrap (c-1))) ([])) (.leaf (.int true .i64 (-1)) ([]))) (.leaf (.int true .i64 (-1)) ([])))) (.br (s==3) (.br (decide (c.tmod d.wide>0))
  (.leaf (.int false .i64 (i64.wrap (c-1))) ([])) (.leaf (.int true .i64 (-1)) ([]))) (.leaf (.int true .i64 (-1)) ([]))))) (.br (s==2) (.br (decide (i64.wrap
  (c.tdiv d.wide)<i64.wrap (d.high-1))) (.leaf (.int false .i64 (i64.wrap (c+d.wide))) ([])) (.br (s==3) (.br (decide (c.tmod d.wide>0)) (.leaf (.int false
  .i64 (i64.wrap (c-1))) ([])) (.leaf (.int true .i64 (-1)) ([]))) (.leaf (.int true .i64 (-1)) ([])))) (.br (s==3) (.br (decide (c.tmod d.wide>0)) (.leaf (.int false
  .i64 (i64.wrap (c-1))) ([])) (.leaf (.int true .i64 (-1)) ([]))) (.leaf (.int true .i64 (-1)) ([])))))) (.br (s==1) (.br (decide (c.tmod d.wide<i64.wrap
  (d.wide-1))) (.leaf (.int false .i64 (i64.wrap (c+1))) ([])) (.br (s==2) (.br (decide (i64.wrap (c.tdiv d.wide)<i64.wrap (d.high-1))) (.leaf (.int
  false .i64 (i64.wrap (c+d.wide))) ([])) (.br (s==3) (.br (decide (c.tmod d.wide>0)) (.leaf (.int false .i64 (i64.wrap (c-1))) ([])) (.leaf (.int true .i64
  (-1)) ([]))) (.leaf (.int true .i64 (-1)) ([])))) (.br (s==3) (.br (decide (c.tmod d.wide>0)) (.leaf (.int false .i64 (i64.wrap (c-1))) ([])) (.leaf (.int true .i64
  (-1)) ([]))) (.leaf (.int true .i64 (-1)) ([]))))) (.br (s==2) (.br (decide (i64.wrap (c.tdiv d.wide)<i64.wrap (d.high-1))) (.leaf (.int false .i64
  (i64.wrap (c+d.wide))) ([])) (.br (s==3) (.br (decide (c.tmod d.wide>0)) (.leaf (.int false .i64 (i64.wrap (c-1))) ([])) (.leaf (.int true .i64 (-1)) ([])))
  (.leaf (.int true .i64 (-1)) ([])))) (.br (s==3) (.br (decide (c.tmod d.wide>0)) (.leaf (.int false .i64 (i64.wrap (c-1))) ([])) (.leaf (.int true .i64 (-1)) ([])))
  (.leaf (.int true .i64 (-1)) ([]))))))):=by kernel_rfl
theorem QO1:K6 (mkE Try.prog Yp) (Qr Try.f31) 8 WV (fun x_=>(hnd (mkE Try.prog Yp) 0)):=by
 refine⟨?_⟩;rintro⟨d,⟨c,⟨s,⟨⟩⟩⟩⟩ hp G h1 h2;exact Q0 (QT QBr) 0 G _ h1
theorem QQr:K5 (mkE Try.prog Yp) Try.f31 8 WV (fun x_=>(hnd (mkE Try.prog Yp) 0)):=by
 refine⟨?_⟩;rintro⟨d,⟨c,⟨s,⟨⟩⟩⟩⟩ hp;refine⟨⟨rfl,by simp[WV],rfl⟩,⟨?_⟩⟩
 rw[QTo d c s];simp only[WV]at hp;obtain⟨⟨w1,w2⟩,⟨h1,h2⟩,c1,c2⟩:=qdt hp;have q0:0≤c.tdiv d.wide:=Int.tdiv_nonneg c1 (by omega)
 have q1:c.tdiv d.wide≤c:=by rw[Int.tdiv_eq_ediv_of_nonneg c1];exact Int.ediv_le_self _ c1
 have m0:0≤c.tmod d.wide:=Int.tmod_nonneg _ c1;have m1:c.tmod d.wide<d.wide:=Int.tmod_lt_of_pos _ (by omega)
 have e1:i64.wrap (c.tdiv d.wide)=c.tdiv d.wide:=w64 (by omega) (by omega)
 have e2:i64.wrap (c-d.wide)=c-d.wide:=w64 (by omega) (by omega)
 have e3:i64.wrap (d.wide-1)=d.wide-1:=w64 (by omega) (by omega)
 have e4:i64.wrap (c+1)=c+1:=w64 (by omega) (by omega)
 have e5:i64.wrap (d.high-1)=d.high-1:=w64 (by omega) (by omega)
 have e6:i64.wrap (c+d.wide)=c+d.wide:=w64 (by omega) (by omega)
 have e7:i64.wrap (c-1)=c-1:=w64 (by omega) (by omega)
 have dz:(!decide (d.wide=0))=true:=by simp;omega
 rw[e1,e2,e3,e4,e5,e6,e7];refine QG dz (QG dz ?_);have fin:∀ v:AV,v.same (.int false .i64 (QX d.wide d.high c s))→(QD.leaf v []).den (XS 8 (WV (d,c,s,())).2.1 (WV (d,c,s,())).2.2):=fun v h=>Kg h rfl
 repeat' refine QI (fun _ => ?_) (fun _ => ?_)
 all_goals refine fin _ ?_
 all_goals simp only[AV.same,QX,true_and]
 all_goals grind
theorem QSq:QQ Try.prog 31 QKI:=
 JK (QT QBr) Try.func31 (by kernel_rfl) (by kernel_rfl) (by decide) QO1 QQr
def Xq:Tab:=Qh Yp 31 QKI
theorem vI:QW Xq:=QBr.add QSq
def Ki(l:Rw QK)(i:Nat):Bool := !(l.get i).ok
def okR:Bool:=d.play.ok&&(Qa (d.ps.n:Int) 1 9&&(Qa d.wide 1 9&&(Qa d.high 1 9&&((i64.wrap (d.wide*d.high)==(d.ps.n:Int))&&(QO (Ki d.ps) d.ps.n 0).isNone))))
theorem QLU(p:Qg)(l:Rw QK)(h:1≤l.n):J3 p l=(p.ok&&(QO (Ki l) l.n 0).isNone):=by
 unfold J3;cases hp:p.ok with
 | true=>
  have:Kn ⟨p⟩ l=Ki l:=by funext i;simp only[Kn,Ki,hp,Bool.true_and]
  rw[this,Bool.true_and]
 | false=>
  obtain⟨m,hm⟩:∃ m,l.n=m+1:=⟨l.n-1,by omega⟩
  rw[hm,QO];simp only[Kn,hp,Bool.false_and,Bool.not_false];rfl
theorem Gp:okR d=d.ok:=by
 rw[Bool.eq_iff_iff];simp only[okR,Puz.ok,Puz.okN,qbA,Qa,qdE,beq_iff_eq];constructor
 ·rintro⟨hp,hn,hw,hh,hm,ha⟩;have m1:d.wide*d.high≤9*9:=Int.mul_le_mul hw.2 hh.2 (by omega) (by omega)
  have m0:0≤d.wide*d.high:=Int.mul_nonneg (by omega) (by omega)
  have e:=hm;rw[w64 (by omega) (by omega)]at e
  have a1:=Int.mul_le_mul_of_nonneg_left (show 1≤d.high from hh.1) (show 0≤d.wide by omega)
  have a2:=Int.mul_le_mul_of_nonneg_right (show 1≤d.wide from hw.1) (show 0≤d.high by omega)
  refine⟨⟨hn,by omega,by omega,hm⟩,?_⟩
  rw[QLU _ _ (by omega),hp,ha];rfl
 ·rintro⟨⟨hn,hw,hh,hm⟩,hs⟩;rw[QLU _ _ (by omega),qbA]at hs
  exact⟨hs.1,hn,by omega,by omega,hm,hs.2⟩
def G0:JSt:=⟨60,[(1,.ptr 8 0 0),(3,.int false .i64 k)],[(8,.cells 0 28 (QJU d))]++Q4.blk 0 d.ps,96⟩
def QGt:Ex→List Nat
 | .normal=>[1,3]
 | .exit _=>[]
 | .ret=>[2]
noncomputable abbrev QKt:List (Nat×Blk):=
  [(8,.cells 0 28 [vi d.play.length,vi d.play.slack,vi d.play.loose,vi d.play.damp.lo,vi d.play.damp.hi,.int
  false .i64 d.wide,vi d.high,.bool false d.turn,.slz 0 0 d.ps.n cO]),(0,.frz [.int .i64,.int .i64,.int .i64,.int .i64,.int .i64,.int .i64,.int .i64,
  .int .i64,.int .i64,.int .i64,.int .i64,.int .i64,.int .i64,.int .i64,.int .i64,.int .i64,.int .i64,.int .i64,.int .i64,.int .i64,.int .i64,.int .i64,.int .i64,.int
  .i64,.int .i64,.int .i64,.int .i64,.int .i64] d.ps.n fun i=>QA.enc (d.ps.get i))]
theorem QUU(g:Nat→Value):exec (mkE Try.prog Xq) (hnd (mkE Try.prog Xq) 6) (QV Try.f40 0) (JSt.inst (G0 d k) g) (KH [] QGt) = .br (decide ((k:Int)<(d.ps.n:Int))) (.need (decide
  ((0:Int)≤(k:Int)∧(k:Int)<(d.ps.n:Int))&&decide (d.ps.n≤d.ps.n)) (.need (decide (k<d.ps.n)) (.need (true) (.br (!(d.ps.get k).up.ok) (.leaf (.tup [.nili,.ptr 60
  0 0,.bool true false]) ([])) (.need (decide ((0:Int)≤(k:Int)∧(k:Int)<(d.ps.n:Int))&&decide (d.ps.n≤d.ps.n)) (.need (decide (k<d.ps.n)) (.need (true) (.br
  (!(d.ps.get k).right.ok) (.leaf (.tup [.nili,.ptr 60 0 0,.bool true false]) ([])) (.need (decide ((0:Int)≤(k:Int)∧(k:Int)<(d.ps.n:Int))&&decide (d.ps.n≤d.ps.n))
  (.need (decide (k<d.ps.n)) (.need (true) (.br (!(d.ps.get k).down.ok) (.leaf (.tup [.nili,.ptr 60 0 0,.bool true false]) ([])) (.need (decide ((0:Int)≤(k:Int)∧(k:Int)
  < (d.ps.n:Int))&&decide (d.ps.n≤d.ps.n)) (.need (decide (k<d.ps.n)) (.need (true) (.br (!(d.ps.get k).left.ok) (.leaf (.tup [.nili,.ptr 60 0 0,.bool true false]) ([]))
  (.leaf (.tup [.nilp,.ptr 60 0 0,.ptr 8 0 0,vi (i64.wrap ((k:Int)+1))]) ((QKt d))))))))))))))))))) (.leaf (.tup [.ptr 0 0 0,.ptr 60 0 0]) ([])):=by kernel_rfl
def qt:JSt:=⟨60,[(2,.bool false false)],[],96⟩
def QEC:JSt:=⟨60,[],[],96⟩
theorem QRO :QM 8 [AV.bool true false] ([]) qt=(
  some [false=false]):=by kernel_rfl
theorem QTE :QM 8 [AV.bool true false] ([]) qt=(
  some [false=false]):=by kernel_rfl
theorem QSl :QM 8 [AV.bool true false] ([]) qt=(
  some [false=false]):=by kernel_rfl
theorem QN9 :QM 8 [AV.bool true false] ([]) qt=(
  some [false=false]):=by kernel_rfl
theorem QNU(k k':Nat):QM 8 [.ptr 8 0 0,vi (i64.wrap ((k:Int)+1))] ((QKt d)) (G0 d k')=(some [0=0,0=0,i64.wrap ((k:Int)+1)=(k':Int),d.play.length =
  d.play.length,d.play.slack=d.play.slack,d.play.loose=d.play.loose,d.play.damp.lo=d.play.damp.lo,d.play.damp.hi=d.play.damp.hi,d.wide=d.wide,d.high=d.high,d.turn =
  d.turn,0=0,d.ps.n=d.ps.n,cO=cO,d.ps.n≤d.ps.n,QE 28 d.ps.n (fun i=>QA.enc (d.ps.get i)) fun i=>QA.enc (d.ps.get i)]):=by kernel_rfl
theorem QR0 :QM 8 [] ([]) QEC=(
  some []):=by kernel_rfl
def QIL(e:Ex)(J:JSt):Prop:=(e = .ret∧(QO (Ki d.ps) (d.ps.n-k) k).isNone=false∧J=qt)∨(e = .exit 0∧(QO (Ki d.ps) (d.ps.n-k) k).isNone=true∧J=QEC)
theorem QWJ(hl:d.ps.n≤1000):Kz (G0 d) (fun k=>k≤d.ps.n) (fun k=>d.ps.n-k) (QIL d) 8 QGt [] (mkE Try.prog Xq) (fun _=>hnd (mkE Try.prog Xq) 6) (QV Try.f40 0):=by
 refine⟨fun k g hk=>WC (QUU d k g) ?_⟩;refine QI (fun h => ?_) (fun h => ?_)
 ·have h:k<d.ps.n:=by have:=qdt h;omega
  obtain⟨m,hm⟩:∃ m,d.ps.n-k=m+1:=⟨d.ps.n-k-1,by omega⟩
  have hm':d.ps.n-(k+1)=m:=by omega
  have hA:(decide ((0:Int)≤(k:Int)∧(k:Int)<(d.ps.n:Int))&&decide (d.ps.n≤d.ps.n))=true:=by simp;omega
  have hB:decide (k<d.ps.n)=true:=by simp;omega
  have bad:Ki d.ps k=true→QO (Ki d.ps) (d.ps.n-k) k=some k:=fun q=>by rw[hm,QO,q]
  have go:Ki d.ps k=false→QO (Ki d.ps) (d.ps.n-k) k=QO (Ki d.ps) (d.ps.n-(k+1)) (k+1):=fun q=>by rw[hm,hm',QO,q]
  have no:Ki d.ps k=true→(QO (Ki d.ps) (d.ps.n-k) k).isNone=false:=fun q=>by rw[bad q];rfl
  refine QG hA (QG hB (QG rfl (QI (fun h0 => ?_) (fun h0 => ?_))))
  ·have q:Ki d.ps k=true:=by simp only[Bool.not_eq_true']at h0;simp only[Ki,QK.ok,h0,Bool.false_and,Bool.not_false]
   exact⟨_,.inl ⟨rfl,no q,rfl⟩,rfl,rfl,_,QRO,⟨rfl,trivial⟩⟩
  refine QG hA (QG hB (QG rfl (QI (fun h1 => ?_) (fun h1 => ?_))))
  ·have q:Ki d.ps k=true:=by simp only[Bool.not_eq_true']at h1;simp only[Ki,QK.ok,h1,Bool.false_and,Bool.and_false,Bool.not_false]
   exact⟨_,.inl ⟨rfl,no q,rfl⟩,rfl,rfl,_,QTE,⟨rfl,trivial⟩⟩
  refine QG hA (QG hB (QG rfl (QI (fun h2 => ?_) (fun h2 => ?_))))
  ·have q:Ki d.ps k=true:=by simp only[Bool.not_eq_true']at h2;simp only[Ki,QK.ok,h2,Bool.false_and,Bool.and_false,Bool.not_false]
   exact⟨_,.inl ⟨rfl,no q,rfl⟩,rfl,rfl,_,QSl,⟨rfl,trivial⟩⟩
  refine QG hA (QG hB (QG rfl (QI (fun h3 => ?_) (fun h3 => ?_))))
  ·have q:Ki d.ps k=true:=by simp only[Bool.not_eq_true']at h3;simp only[Ki,QK.ok,h3,Bool.and_false,Bool.not_false]
   exact⟨_,.inl ⟨rfl,no q,rfl⟩,rfl,rfl,_,QN9,⟨rfl,trivial⟩⟩
  have q:Ki d.ps k=false:=by simp only[Bool.not_eq_false']at h0 h1 h2 h3;simp only[Ki,QK.ok,h0,h1,h2,h3,Bool.and_self,Bool.not_true]
  have hw:i64.wrap ((k:Int)+1)=((k+1:Nat):Int):=(w64 (by omega) (by omega)).trans (by omega)
  refine⟨k+1,h,by show d.ps.n-(k+1)<d.ps.n-k;omega,fun e J h=>by unfold QIL at h ⊢;rw[go q];exact h,rfl,rfl,_,QNU d k (k+1),?_⟩
  repeat' first|exact trivial|with_reducible rfl|exact qlr _|exact qRr|exact hw|refine And.intro ?_ ?_
 ·have h:d.ps.n≤k:=by have:=of_decide_eq_false h;omega
  have hf:QO (Ki d.ps) (d.ps.n-k) k=none:=by rw[show d.ps.n-k=0 by omega];rfl
  exact⟨_,.inr ⟨rfl,by rw[hf];rfl,rfl⟩,rfl,rfl,_,QR0,trivial⟩
def QNt:List (Prop×Ex×JSt):=[((QO (Ki d.ps) d.ps.n 0).isNone=false,.ret,qt),((QO (Ki d.ps) d.ps.n 0).isNone=true,.exit 0,QEC)]
abbrev Gg(P:Program)(d:Puz):Hnd:={ hnd (mkE P Xq) 1 with loop:=fun _=>KD 8 [] (G0 d (0:Nat)) (QNt d) }
theorem QNC(hl:d.ps.n≤1000)(G:Ctx)(hrd:G.rd=none)(hG:G.n=8):Q9 (mkE Try.prog Xq) G (Gg Try.prog d) (Qr Try.f40):=by
 refine JM (body:=QV Try.f40 0) (QT vI) hrd (by kernel_rfl) ?_
 refine JE (n0:=8) (QT vI) (by omega) (fun s hs=>Q0 (QT vI) 6 G _ hrd) (fun s hs=>(by decide:8≤96)) ?_ (QWJ d hl) (s0:=0) (Nat.zero_le _) ?_
 ·rintro s e J (⟨_,_,rfl⟩|⟨_,_,rfl⟩)<;>exact(by decide:8≤96)
 ·rintro e J (⟨rfl,h,rfl⟩|⟨rfl,h,rfl⟩)
  ·exact⟨_,List.mem_cons_self,h,rfl,rfl⟩
  ·exact⟨_,List.mem_cons_of_mem _ List.mem_cons_self,h,rfl,rfl⟩
def WM:WF (Puz×Unit):=fun|(d,_)=>(decide (d.ps.n≤1000),.bool false d.ok,[])
def QKD:FC:=wFC WM
theorem QUN :Ka (mkE Try.prog Xq) (Gg Try.prog d) Try.f40 (QY.vals 0 ((d,()):Puz×Unit)) (QY.blks 0 ((d,()):Puz×Unit)) 8 = .need (true) (.br (!d.play.ok) (.leaf (.bool
  true false) ([])) (.need (true) (.br (!Qa (d.ps.n:Int) (1:Int) (9:Int)) (.leaf (.bool true false) ([])) (.need (true) (.br (!Qa d.wide (1:Int) (9:Int)) (.leaf
  (.bool true false) ([])) (.need (true) (.br (!Qa d.high (1:Int) (9:Int)) (.leaf (.bool true false) ([])) (.br (i64.wrap (d.wide*d.high) != (d.ps.n:Int)) (.leaf
  (.bool true false) ([])) (.ask (0=0) (.ask (0=0) (.ask ((0:Int)=0) (.ask (d.play.length=d.play.length) (.ask (d.play.slack=d.play.slack) (.ask (d.play.loose =
  d.play.loose) (.ask (d.play.damp.lo=d.play.damp.lo) (.ask (d.play.damp.hi=d.play.damp.hi) (.ask (d.wide=d.wide) (.ask (d.high=d.high) (.ask (d.turn=d.turn) (.ask (0=0)
  (.ask (d.ps.n=d.ps.n) (.ask (cO=cO) (.ask (d.ps.n≤d.ps.n) (.ask (QE 28 d.ps.n (fun i=>QA.enc (d.ps.get i)) fun i=>QA.enc (d.ps.get i)) (.both (.asm
  ((QO (Ki d.ps) d.ps.n 0).isNone=false) (.all (fun(g0:Nat→Value) => .leaf (.bool false false) ([])))) (.asm ((QO (Ki d.ps) d.ps.n 0).isNone=true) (.all (fun(g1
  : Nat→Value) => .leaf (.bool true true) ([]))))))))))))))))))))))))))))):=by kernel_rfl
theorem QUv:K6 (mkE Try.prog Xq) (Qr Try.f40) 8 WM (fun x_=>(Gg Try.prog x_.1)):=by
 refine⟨?_⟩;rintro⟨d,⟨⟩⟩ hp G h1 h2;exact QNC d (qdt hp) G h1 h2
theorem QVd:K5 (mkE Try.prog Xq) Try.f40 8 WM (fun x_=>(Gg Try.prog x_.1)):=by
 refine⟨?_⟩;rintro⟨d,⟨⟩⟩ hp;refine⟨⟨rfl,by simp[WM],rfl⟩,⟨?_⟩⟩
 rw[QUN d];simp only[WM]at hp;have no:okR d=false→(QD.leaf (AV.bool true false) []).den (XS 8 (WM (d,())).2.1 (WM (d,())).2.2):=fun h=>Kg (show false=d.ok by rw[←Gp,h]) rfl
 refine QG rfl (QI (fun h1=>no ?_) (fun h1=>QG rfl (QI (fun h2=>no ?_) (fun h2=>QG rfl (QI (fun h3=>no ?_) (fun h3=>QG rfl (QI (fun h4=>no ?_) (fun h4=>QI (fun h5=>no ?_) (fun h5 => ?_)))))))))
 ·simp only[Bool.not_eq_true']at h1;simp only[okR,h1,Bool.false_and]
 ·simp only[Bool.not_eq_true']at h2;simp only[okR,h2,Bool.false_and,Bool.and_false]
 ·simp only[Bool.not_eq_true']at h3;simp only[okR,h3,Bool.false_and,Bool.and_false]
 ·simp only[Bool.not_eq_true']at h4;simp only[okR,h4,Bool.false_and,Bool.and_false]
 ·have h5:(i64.wrap (d.wide*d.high)==(d.ps.n:Int))=false:=by simpa using h5
  simp only[okR,h5,Bool.false_and,Bool.and_false]
 ·have h5:(i64.wrap (d.wide*d.high)==(d.ps.n:Int))=true:=by simpa using h5
  simp only[Bool.not_eq_false']at h1 h2 h3 h4
  repeat' first|refine QU (show _=_ by with_reducible rfl) ?_|refine QU (show _≤_ from qlr _) ?_|refine QU (show QE _ _ _ _ from qRr) ?_
  refine X0 (KB fun h=>KE fun g => ?_) (KB fun h=>KE fun g => ?_)
  ·exact Kg (show false=d.ok by rw[←Gp];simp only[okR,h,Bool.and_false]) rfl
  ·exact Kg (show true=d.ok by rw[←Gp];simp only[okR,h1,h2,h3,h4,h5,h,Bool.and_self]) rfl
theorem QNM:QQ Try.prog 40 QKD:=
 JK (QT vI) Try.func40 (by kernel_rfl) (by kernel_rfl) (by decide) QUv QVd
def QAs:Tab:=Qh Xq 40 QKD
theorem QEW:QW QAs:=vI.add QNM
end Go.Proofs.Ytbpffdkemeoajaa
namespace Go.SX
open Go Go.RowKit Go.Proofs.Ytbpffdkemeoajaa
def qf:Code→Option Nat
 | .region id _ _=>some id
 | .seq a b=>(match qf a with
  | some x=>some x
  | none=>qf b)
 | .block _ a=>qf a
 | .scope a=>qf a
 | .loop a=>qf a
 | _=>none
def QLN(l:List (Nat×(St→(Ex→St→QD)→QD)))(c:Code):St→(Ex→St→QD)→QD:=match qf c with
 | some r=>(match l.find? (fun p=>Nat.beq p.1 r)with
  | some p=>p.2
  | none => fun _ _ => .fail "a loop that is not told")
 | none => fun _ _ => .fail "a loop without a region"
theorem QGF{E:Env}(hE:E.Sound){d:Nat}{G:Ctx}(hG:G.rd=none){c:Code}{L:Code→St→(Ex→St→QD)→QD}(h:∀ s∈Kj c,JC E G s (L s)):Q9 E G { hnd E d with loop:=L } c:=
 ⟨h,(Q0 hE d G c hG).call,(Q0 hE d G c hG).yield⟩
end Go.SX
namespace Go.Proofs.Ytbpffdkemeoajaa
open Go.SX
variable {f:Nat→Bool}{n:Nat}(x:QB)(k:Nat)
def QCe:List (Nat×Blk):=[(8,.cells 0 50 (JQ 0 x))]++JN 0 x
def vV:JSt:=⟨97,[(1,.ptr 8 0 0),(3,.int false .i64 k)],QCe x,96⟩
def jh:JSt:=⟨97,[(1,.ptr 8 0 0),(4,.int false .i64 k)],QCe x,96⟩
def QJS:Ex→List Nat
 | .normal=>[1,3]
 | .exit _=>[1]
 | .ret=>[2]
def QFY:Ex→List Nat
 | .normal=>[1,4]
 | .exit _=>[1]
 | .ret=>[2]
def qk:JSt:=⟨97,[(2,.bool false false)],[],96⟩
def Wy:JSt:=⟨97,[(1,.ptr 8 0 0)],QCe x,96⟩
def QIJ:Int×Int×Int×Unit→Bool×AV:=fun|(n,(a,(b,_)))=>(true,.bool false (Qa n a b))
def QIj:FC:=Q3 (Q2 QIJ)
theorem QRf(n:Int)(a:Int)(b:Int):Qx (mkE Try.prog QAs) (hnd (mkE Try.prog QAs) 0) false Try.f63 (Qm.enc ((n,a,b,()):Int×Int×Int×Unit)) [] 0 =
  QD.br (decide (a≤n)) (QD.leaf (AV.bool false (decide (n≤b))) ([])) (QD.leaf (AV.bool true false) ([])):=by kernel_rfl
theorem QUB:QQ Try.prog 63 QIj:=by
 refine KA QEW 0 Try.func63 (by kernel_rfl) (by kernel_rfl) ?_
 rintro⟨n,a,b,⟨⟩⟩ hp;rw[QRf n a b];simp only[QIJ,QD.den,AV.same,AV.sameL,and_true,true_and]at hp ⊢
 (repeat' (first|(refine And.intro ?_ ?_)|(intro _)))<;>simp_all [Qa]<;>omega
def J5:Tab:=Qh QAs 63 QIj
theorem Wf:QW J5:=QEW.add QUB
noncomputable abbrev QG7:List AV:=
  [.nilp,.ptr 97 0 0,.ptr 8 0 0,vi (i64.wrap ((k:Int)+1))]
abbrev QIv:List CK:=
  [.int .i64,.int .i64,.int .i64,.int .i64,.int .i64,.int .i64,.int .i64,.int .i64,.int .i64,.int .i64,.int .i64,.int .i64,.int .i64,.int .i64,.int .i64,.int .i64,.int
  .i64,.int .i64,.int .i64,.int .i64,.int .i64,.int .i64,.int .i64,.int .i64,.int .i64,.int .i64,.int .i64,.int .i64]
noncomputable abbrev ZI:List (Nat×Blk):=
  [(8,.cells 0 50 [vi x.d.play.length,vi x.d.play.slack,vi x.d.play.loose,vi x.d.play.damp.lo,.int false .i64
  x.d.play.damp.hi,vi x.d.wide,vi x.d.high,.bool false x.d.turn,.slz 0 0 x.d.ps.n cO,.slz 1 0 x.scans.n cO,.slz 2 0 x.hang.n (Cap.of
  0),vi x.lost,vi x.foreign]),(0,.frz QIv x.d.ps.n fun i=>QA.enc (x.d.ps.get i)),(1,.frz QIv x.scans.n fun i=>QA.enc (x.scans.get i)),(2,
  .frz [.int .i64,.int .i64,.int .i64,.int .i64] x.hang.n fun i=>QA.enc (x.hang.get i))]
theorem QNX(g:Nat→Value):exec (mkE Try.prog J5) (hnd (mkE Try.prog J5) 6) (QV Try.f35 0) (JSt.inst (vV x k) g) (KH [] QJS) = .br (decide ((k:Int)<(x.scans.n:Int))) (.need (decide
  ((0:Int)≤(k:Int)∧(k:Int)<(x.scans.n:Int))&&decide (x.scans.n≤x.scans.n)) (.need (decide (k<x.scans.n)) (.need (true) (.br (!(x.scans.get k).ok) (.leaf (.tup
  [.nili,.ptr 97 0 0,.bool true false]) ([])) (.leaf (.tup (QG7 k)) ((ZI x))))))) (.leaf (.tup [.ptr 0 0 0,.ptr 97 0 0,.ptr 8 0 0]) ((ZI x))):=by kernel_rfl
theorem QXF(g:Nat→Value):exec (mkS Try.prog J5) (hnd (mkS Try.prog J5) 6) (QV Try.f35 1) (JSt.inst (jh x k) g) (KH [] QFY) = .br (decide ((k:Int)<(x.hang.n:Int))) (.need (decide
  ((0:Int)≤(k:Int)∧(k:Int)<(x.hang.n:Int))&&decide (x.hang.n≤x.hang.n)) (.need (decide (k<x.hang.n)) (.need (true) (.need (!!!Qa (x.hang.get k).a (0:Int)
  (i64.wrap ((x.scans.n:Int)-1)) || !!Qa (x.hang.get k).a (0:Int) (i64.wrap ((x.scans.n:Int)-1))) (.need (!!!Qa (x.hang.get k).a (0:Int)
  (i64.wrap ((x.scans.n:Int)-1)) || !!Qa (x.hang.get k).a (0:Int) (i64.wrap ((x.scans.n:Int)-1))) (.need (!!!Qa (x.hang.get k).a (0:Int)
  (i64.wrap ((x.scans.n:Int)-1)) || !!Qa (x.hang.get k).a (0:Int) (i64.wrap ((x.scans.n:Int)-1))) (.need (!!!Qa (x.hang.get k).a (0:Int)
  (i64.wrap ((x.scans.n:Int)-1)) || !!Qa (x.hang.get k).a (0:Int) (i64.wrap ((x.scans.n:Int)-1))) (.need (!!!Qa (x.hang.get k).a (0:Int)
  (i64.wrap ((x.scans.n:Int)-1))||true&&(!!Qa (x.hang.get k).a (0:Int) (i64.wrap ((x.scans.n:Int)-1)) && !!Qa (x.hang.get k).a (0:Int)
  (i64.wrap ((x.scans.n:Int)-1)))) (.need (!!!Qa (x.hang.get k).a (0:Int) (i64.wrap ((x.scans.n:Int)-1)) || !!Qa (x.hang.get k).a (0:Int)
  (i64.wrap ((x.scans.n:Int)-1))) (.need (!Qa (x.hang.get k).a (0:Int) (i64.wrap ((x.scans.n:Int)-1)) || !!Qa (x.hang.get k).a (0:Int)
  (i64.wrap ((x.scans.n:Int)-1))) (.bnd (!Qa (x.hang.get k).a (0:Int) (i64.wrap ((x.scans.n:Int)-1)) || !Qa (x.hang.get k).b (0:Int)
  (i64.wrap ((x.scans.n:Int)-1))) (fun(x0:Bool) => .need (!!x0 || !x0) (.need (!!x0 || !x0) (.need (!!x0 || !x0 && !x0) (.need (x0 || !x0) (.bnd (x0||(x.hang.get k).a
  == (x.hang.get k).b) (fun(x1:Bool) => .need (!!x1 || !x1) (.need (!!x1||true && !x1) (.need (!!x1 || !x1) (.need (x1 || !x1) (.bnd (x1 || !Qa (x.hang.get k).i (0:Int) (3
  : Int)) (fun(x2:Bool) => .need (!!x2 || !x2) (.need (!!x2||true && !x2) (.need (!!x2 || !x2) (.need (x2 || !x2) (.bnd (x2 || !Qa (x.hang.get k).j (0:Int) (3:Int)) (fun
  (x3:Bool) => .br (x3) (.leaf (.tup [.nili,.ptr 97 0 0,.bool true false]) ([])) (.leaf (.tup (QG7 k)) ((ZI x)))))))))))))))))))))))))))))) (.leaf (.tup [.ptr 2 0 0,.ptr 97 0
  0,.ptr 8 0 0]) ((ZI x))):=by kernel_rfl
theorem QS6 :QM 8 [AV.bool true false] ([]) qk=(
  some [false=false]):=by kernel_rfl
abbrev QJq(k':Nat)(x:QB):List Prop:=
  [0=0,0=0,i64.wrap ((k:Int)+1)=(k':Int),x.d.play.length=x.d.play.length,x.d.play.slack=x.d.play.slack,x.d.play.loose=x.d.play.loose,x.d.play.damp.lo =
  x.d.play.damp.lo,x.d.play.damp.hi=x.d.play.damp.hi,x.d.wide=x.d.wide,x.d.high=x.d.high,x.d.turn=x.d.turn,0=0,x.d.ps.n=x.d.ps.n,cO=cO,0=0,
  x.scans.n=x.scans.n,cO=cO,0=0,x.hang.n=x.hang.n,cO=cO,x.lost=x.lost,x.foreign=x.foreign,x.d.ps.n≤x.d.ps.n,QE 28 x.d.ps.n (fun i
  => QA.enc (x.d.ps.get i)) fun i=>QA.enc (x.d.ps.get i),x.scans.n≤x.scans.n,QE 28 x.scans.n (fun i=>QA.enc (x.scans.get i)) fun i=>QA.enc (x.scans.get i),
  x.hang.n≤x.hang.n,QE 4 x.hang.n (fun i=>QA.enc (x.hang.get i)) fun i=>QA.enc (x.hang.get i)]
theorem QNK(k k':Nat):QM 8 [.ptr 8 0 0,vi (i64.wrap ((k:Int)+1))] ((ZI x)) (vV x k')=(some (QJq k k' x)):=by kernel_rfl
abbrev QHD:List Prop:=
  [0=0,0=0,x.d.play.length=x.d.play.length,x.d.play.slack=x.d.play.slack,x.d.play.loose=x.d.play.loose,x.d.play.damp.lo=x.d.play.damp.lo,x.d.play.damp.hi =
  x.d.play.damp.hi,x.d.wide=x.d.wide,x.d.high=x.d.high,x.d.turn=x.d.turn,0=0,x.d.ps.n=x.d.ps.n,cO=cO,0=0,x.scans.n=x.scans.n,cO=cO,
  0=0,x.hang.n=x.hang.n,cO=cO,x.lost=x.lost,x.foreign=x.foreign,x.d.ps.n≤x.d.ps.n,QE 28 x.d.ps.n (fun i=>QA.enc (x.d.ps.get i)) fun i=>QA.enc
  (x.d.ps.get i),x.scans.n≤x.scans.n,QE 28 x.scans.n (fun i=>QA.enc (x.scans.get i)) fun i=>QA.enc (x.scans.get i),x.hang.n≤x.hang.n,QE 4 x.hang.n (fun i=>
  QA.enc (x.hang.get i)) fun i=>QA.enc (x.hang.get i)]
theorem QW1 :QM 8 [.ptr 8 0 0] ((ZI x)) (Wy x)=(some (QHD x)):=by kernel_rfl
theorem QVz :QM 8 [AV.bool true false] ([]) qk=(
  some [false=false]):=by kernel_rfl
theorem QUC(k k':Nat):QM 8 [.ptr 8 0 0,vi (i64.wrap ((k:Int)+1))] ((ZI x)) (jh x k')=(some (QJq k k' x)):=by kernel_rfl
theorem QPi :QM 8 [.ptr 8 0 0] ((ZI x)) (Wy x)=(some (QHD x)):=by kernel_rfl
def XX:Bool := !(x.scans.get k).ok
def QF9(e:Ex)(J:JSt):Prop:=(e = .ret∧(QO (XX x) (x.scans.n-k) k).isNone=false∧J=qk)∨(e = .exit 0∧(QO (XX x) (x.scans.n-k) k).isNone=true∧J=Wy x)
def QKN(e:Ex)(J:JSt):Prop:=(e = .ret∧(QO (Km x) (x.hang.n-k) k).isNone=false∧J=qk)∨(e = .exit 2∧(QO (Km x) (x.hang.n-k) k).isNone=true∧J=Wy x)
theorem QHu{k:Nat}(h:k<n)(q:f k=true):(QO f (n-k) k).isNone=false:=by
 obtain⟨m,hm⟩:∃ m,n-k=m+1:=⟨n-k-1,by omega⟩
 rw[hm,QO,q];rfl
theorem QJ4{k:Nat}(h:k<n)(q:f k=false):QO f (n-k) k=QO f (n-(k+1)) (k+1):=by
 obtain⟨m,hm⟩:∃ m,n-k=m+1:=⟨n-k-1,by omega⟩
 rw[hm,show n-(k+1)=m by omega,QO,q]
theorem QIg{k:Nat}(h:n≤k):(QO f (n-k) k).isNone=true:=by
 rw[show n-k=0 by omega];rfl
theorem QS9(hl:x.scans.n≤1000):Kz (vV x) (fun k=>k≤x.scans.n) (fun k=>x.scans.n-k) (QF9 x) 8 QJS [] (mkE Try.prog J5) (fun _=>hnd (mkE Try.prog J5) 6) (QV Try.f35 0):=by
 refine⟨fun k g hk=>Q5 (QNX x k g) ?_⟩;refine QI (fun h => ?_) (fun h => ?_)
 ·have h:k<x.scans.n:=by have:=qdt h;omega
  refine QG (by simp;omega) (QG (by simp;omega) (QG rfl (QI (fun q => ?_) (fun q => ?_))))
  ·exact⟨_,.inl ⟨rfl,QHu h q,rfl⟩,rfl,rfl,_,QS6,⟨rfl,trivial⟩⟩
  ·refine⟨k+1,h,by show x.scans.n-(k+1)<x.scans.n-k;omega,fun e J r=>by unfold QF9 at r ⊢;rw[QJ4 h q];exact r,rfl,rfl,_,QNK x k (k+1),?_⟩
   repeat' first|with_reducible refine QR ?_ ?_|exact trivial|with_reducible rfl|exact qlr _|exact qRr|exact Ks h hl|refine And.intro ?_ ?_
 ·have h:x.scans.n≤k:=by have:=of_decide_eq_false h;omega
  refine⟨_,.inr ⟨rfl,QIg h,rfl⟩,rfl,rfl,_,QW1 x,?_⟩
  repeat' first|with_reducible refine QR ?_ ?_|exact trivial|with_reducible rfl|exact qlr _|exact qRr|refine And.intro ?_ ?_
theorem QVB(hl:x.hang.n≤1000):Kz (jh x) (fun k=>k≤x.hang.n) (fun k=>x.hang.n-k) (QKN x) 8 QFY [] (mkS Try.prog J5) (fun _=>hnd (mkS Try.prog J5) 6) (QV Try.f35 1):=by
 refine⟨fun k g hk=>Q5 (QXF x k g) ?_⟩;refine QI (fun h => ?_) (fun h => ?_)
 ·have h:k<x.hang.n:=by have:=qdt h;omega
  refine QG (by simp;omega) (QG (by simp;omega) ?_)
  have hb:Km x k=(!Qa (x.hang.get k).a 0 (i64.wrap ((x.scans.n:Int)-1))||(!Qa (x.hang.get k).b 0 (i64.wrap ((x.scans.n:Int)-1))||(((x.hang.get k).a==(x.hang.get k).b)||(!Qa (x.hang.get k).i 0 3 || !Qa (x.hang.get k).j 0 3)))):=rfl
  generalize Qa (x.hang.get k).a 0 (i64.wrap ((x.scans.n:Int)-1))=w1 at hb ⊢;generalize Qa (x.hang.get k).b 0 (i64.wrap ((x.scans.n:Int)-1))=w2 at hb ⊢;generalize ((x.hang.get k).a==(x.hang.get k).b)=w3 at hb ⊢;generalize Qa (x.hang.get k).i 0 3=w4 at hb ⊢;generalize Qa (x.hang.get k).j 0 3=w5 at hb ⊢
  repeat' first|refine QG rfl ?_|refine QG (by grind) ?_|refine KY fun z hz => ?_
  refine QI (fun q => ?_) (fun q => ?_)
  ·exact⟨_,.inl ⟨rfl,QHu h (by grind),rfl⟩,rfl,rfl,_,QVz,⟨rfl,trivial⟩⟩
  ·refine⟨k+1,h,by show x.hang.n-(k+1)<x.hang.n-k;omega,fun e J r=>by unfold QKN at r ⊢;rw[QJ4 h (by grind)];exact r,rfl,rfl,_,QUC x k (k+1),?_⟩
   repeat' first|with_reducible refine QR ?_ ?_|exact trivial|with_reducible rfl|exact qlr _|exact qRr|exact Ks h hl|refine And.intro ?_ ?_
 ·have h:x.hang.n≤k:=by have:=of_decide_eq_false h;omega
  refine⟨_,.inr ⟨rfl,QIg h,rfl⟩,rfl,rfl,_,QPi x,?_⟩
  repeat' first|with_reducible refine QR ?_ ?_|exact trivial|with_reducible rfl|exact qlr _|exact qRr|refine And.intro ?_ ?_
def QEU:List (Prop×Ex×JSt):=[((QO (XX x) x.scans.n 0).isNone=false,.ret,qk),((QO (XX x) x.scans.n 0).isNone=true,.exit 0,Wy x)]
def QMf:List (Prop×Ex×JSt):=[((QO (Km x) x.hang.n 0).isNone=false,.ret,qk),((QO (Km x) x.hang.n 0).isNone=true,.exit 2,Wy x)]
abbrev QEB:Code→St→(Ex→St→QD)→QD:=QLN [(4,KD 8 [] (vV x (0:Nat)) (QEU x)),(9,KD 8 [] (jh x (0:Nat)) (QMf x))]
abbrev Gu(P:Program)(x:QB):Hnd:={ hnd (mkS P J5) 1 with loop:=QEB x }
theorem QRn(hs:x.scans.n≤1000)(hh:x.hang.n≤1000)(G:Ctx)(hrd:G.rd=none)(hG:G.n=8):Q9 (mkS Try.prog J5) G (Gu Try.prog x) (Qr Try.f35):=by
 refine QGF (V5 Wf) hrd fun c hc => ?_;have he:Kj (Qr Try.f35)=[.loop (QV Try.f35 0),.loop (QV Try.f35 1)]:=by kernel_rfl
 rw[he]at hc;simp only[List.mem_cons,List.not_mem_nil,or_false]at hc;rcases hc with rfl|rfl
 ·have e1:QEB x (.loop (QV Try.f35 0))=KD 8 [] (vV x (0:Nat)) (QEU x):=by kernel_rfl
  rw[e1];refine ZM (E:=mkE Try.prog J5) rfl (JE (n0:=8) (QT Wf) (by omega) (fun s hs=>Q0 (QT Wf) 6 G _ hrd) (fun s hs=>(by decide:8≤96)) ?_ (QS9 x hs) (s0:=0) (Nat.zero_le _) ?_)
  ·rintro s e J (⟨_,_,rfl⟩|⟨_,_,rfl⟩)<;>exact(by decide:8≤96)
  ·rintro e J (⟨rfl,h,rfl⟩|⟨rfl,h,rfl⟩)
   ·exact⟨_,List.mem_cons_self,h,rfl,rfl⟩
   ·exact⟨_,List.mem_cons_of_mem _ List.mem_cons_self,h,rfl,rfl⟩
 ·have e1:QEB x (.loop (QV Try.f35 1))=KD 8 [] (jh x (0:Nat)) (QMf x):=by kernel_rfl
  rw[e1];refine JE (n0:=8) (V5 Wf) (by omega) (fun s hs=>Q0 (V5 Wf) 6 G _ hrd) (fun s hs=>(by decide:8≤96)) ?_ (QVB x hh) (s0:=0) (Nat.zero_le _) ?_
  ·rintro s e J (⟨_,_,rfl⟩|⟨_,_,rfl⟩)<;>exact(by decide:8≤96)
  ·rintro e J (⟨rfl,h,rfl⟩|⟨rfl,h,rfl⟩)
   ·exact⟨_,List.mem_cons_self,h,rfl,rfl⟩
   ·exact⟨_,List.mem_cons_of_mem _ List.mem_cons_self,h,rfl,rfl⟩
end Go.Proofs.Ytbpffdkemeoajaa
