/- - -/
import Derived.Test.YtbpffdkemeoajaaMozf
import Derived.Test.YtbpffdkemeoajaaMozg
import Derived.Test.YtbpffdkemeoajaaMoze
import Derived.Test.YtbpffdkemeoajaaMor
import Derived.Test.YtbpffdkemeoajaaMop
import Derived.Test.YtbpffdkemeoajaaMot
set_option maxRecDepth 100000
namespace Go.Proofs.Ytbpffdkemeoajaa
open Go.SX
theorem QJb{d:Puz}(h:d.ok=true):d.play.ok=true:=by
 rw[←Gp]at h;simp only[okR,qbA]at h;exact h.1
variable {x:QB}
theorem QEn(h:x.d.ok=true):J3 x.d.play x.scans=(QO (XX x) x.scans.n 0).isNone:=by
 unfold J3
 have:Kn ⟨x.d.play⟩ x.scans=XX x:=by
  funext k;simp only[Kn,XX,QJb h,Bool.true_and]
 rw[this]
def okQ(x:QB):Bool := !(((((!x.d.ok||decide ((x.scans.n:Int)>12))||decide ((x.hang.n:Int)>12)) || !Qa x.lost 0 9) || !Qa x.foreign 0 3))&&((QO (XX x) x.scans.n 0).isNone&&(QO (Km x) x.hang.n 0).isNone)
theorem QWf(x:QB):okQ x=x.ok:=by
 unfold okQ QB.ok QB.sz jxO;cases h:x.d.ok with
 | false=>simp
 | true=>
  rw[QEn h,QA1]
  by_cases h1:(x.scans.n:Int)>12<;>by_cases h2:(x.hang.n:Int)>12<;>cases Qa x.lost 0 9<;>cases Qa x.foreign 0 3<;>simp_all<;>omega
def Zs:WF (QB×Unit):=fun|(x,_)=>(decide (x.d.ps.n≤1000∧x.scans.n≤1000∧x.hang.n≤1000),.bool false x.ok,[])
def QJC:FC:=wFC Zs
theorem QNk(x:QB):Ka (mkS Try.prog J5) (Gu Try.prog x) Try.f35 (QY.vals 0 ((x,()):QB×Unit)) (QY.blks 0 ((x,()):QB×Unit)) 8 = .need (decide (x.d.ps.n≤x.d.ps.n)&&true
  && decide (x.d.ps.n≤1000)) (.need (!!!x.d.ok || !!x.d.ok) (.need (!!!x.d.ok || !!x.d.ok) (.need (!!!x.d.ok || !!x.d.ok) (.need (!x.d.ok || !!x.d.ok) (.bnd (!x.d.ok||decide
  ((x.scans.n:Int)>12)) (fun(x0:Bool) => .need (!!x0 || !x0) (.need (!!x0 || !x0) (.need (!!x0 || !x0) (.need (x0 || !x0) (.bnd (x0||decide ((x.hang.n:Int)>12)) (fun(x1
  : Bool) => .need (!!x1 || !x1) (.need (!!x1||true && !x1) (.need (!!x1 || !x1) (.need (x1 || !x1) (.bnd (x1 || !Qa x.lost (0:Int) (9:Int)) (fun(x2:Bool) => .need (!!x2
  || !x2) (.need (!!x2||true && !x2) (.need (!!x2 || !x2) (.need (x2 || !x2) (.bnd (x2 || !Qa x.foreign (0:Int) (3:Int)) (fun(x3:Bool) => .br (x3) (.leaf (.bool true
  false) ([])) (.ask (0=0) (.ask (0=0) (.ask ((0:Int)=0) (.ask (x.d.play.length=x.d.play.length) (.ask (x.d.play.slack=x.d.play.slack) (.ask (x.d.play.loose =
  x.d.play.loose) (.ask (x.d.play.damp.lo=x.d.play.damp.lo) (.ask (x.d.play.damp.hi=x.d.play.damp.hi) (.ask (x.d.wide=x.d.wide) (.ask (x.d.high=x.d.high) (.ask (x.d.turn =
  x.d.turn) (.ask (0=0) (.ask (x.d.ps.n=x.d.ps.n) (.ask (cO=cO) (.ask (0=0) (.ask (x.scans.n=x.scans.n) (.ask (cO=cO) (.ask (0=0) (.ask (x.hang.n
  = x.hang.n) (.ask (cO=cO) (.ask (x.lost=x.lost) (.ask (x.foreign=x.foreign) (.ask (x.d.ps.n≤x.d.ps.n) (.ask (QE 28 x.d.ps.n (fun i=>QA.enc (x.d.ps.get
  i)) fun i=>QA.enc (x.d.ps.get i)) (.ask (x.scans.n≤x.scans.n) (.ask (QE 28 x.scans.n (fun i=>QA.enc (x.scans.get i)) fun i=>QA.enc (x.scans.get i)) (.ask (x.hang.n
  ≤ x.hang.n) (.ask (QE 4 x.hang.n (fun i=>QA.enc (x.hang.get i)) fun i=>QA.enc (x.hang.get i)) (.both (.asm ((QO (XX x) x.scans.n 0).isNone=false) (.all (fun(g4
  : Nat→Value) => .leaf (.bool false false) ([])))) (.asm ((QO (XX x) x.scans.n 0).isNone=true) (.all (fun(g5:Nat→Value) => .ask (0=0) (.ask (0=0) (.ask ((0:Int)
  = 0) (.ask (x.d.play.length=x.d.play.length) (.ask (x.d.play.slack=x.d.play.slack) (.ask (x.d.play.loose=x.d.play.loose) (.ask (x.d.play.damp.lo=x.d.play.damp.lo) (.ask
  (x.d.play.damp.hi=x.d.play.damp.hi) (.ask (x.d.wide=x.d.wide) (.ask (x.d.high=x.d.high) (.ask (x.d.turn=x.d.turn) (.ask (0=0) (.ask (x.d.ps.n=x.d.ps.n) (.ask (cO =
  cO) (.ask (0=0) (.ask (x.scans.n=x.scans.n) (.ask (cO=cO) (.ask (0=0) (.ask (x.hang.n=x.hang.n) (.ask (cO=cO) (.ask (x.lost=x.lost) (.ask
  (x.foreign=x.foreign) (.ask (x.d.ps.n≤x.d.ps.n) (.ask (QE 28 x.d.ps.n (fun i=>QA.enc (x.d.ps.get i)) fun i=>QA.enc (x.d.ps.get i)) (.ask (x.scans.n≤x.scans.n)
  (.ask (QE 28 x.scans.n (fun i=>QA.enc (x.scans.get i)) fun i=>QA.enc (x.scans.get i)) (.ask (x.hang.n≤x.hang.n) (.ask (QE 4 x.hang.n (fun i=>QA.enc (x.hang.get
  i)) fun i=>QA.enc (x.hang.get i)) (.both (.asm ((QO (Km x) x.hang.n 0).isNone=false) (.all (fun(g6:Nat→Value) => .leaf (.bool false false) ([])))) (.asm ((QO
  (Km x) x.hang.n 0).isNone=true) (.all (fun(g7:Nat→Value) => .leaf (.bool true true) ([]))))))))))))))))))))))))))))))))))))))))))))))))))))))))))))))))))))))))))))))))))))):=by kernel_rfl
theorem QTt:K6 (mkS Try.prog J5) (Qr Try.f35) 8 Zs (fun x_=>(Gu Try.prog x_.1)):=by
 refine⟨?_⟩;rintro⟨x,⟨⟩⟩ hp G h1 h2;exact QRn x (qdt hp).2.1 (qdt hp).2.2 G h1 h2
theorem QNz:K5 (mkS Try.prog J5) Try.f35 8 Zs (fun x_=>(Gu Try.prog x_.1)):=by
 refine⟨?_⟩;rintro⟨x,⟨⟩⟩ hp;refine⟨⟨rfl,by simp[Zs],rfl⟩,⟨?_⟩⟩
 rw[QNk x];simp only[Zs]at hp;obtain⟨hn,_,_⟩:=qdt hp;have end_:∀{z:Bool} {b:Bool},okQ x=b→(QD.leaf (AV.bool z b) []).den (XS 8 (Zs (x,())).2.1 (Zs (x,())).2.2):=fun{z b} h=>Kg (show b=x.ok by rw[←QWf];exact h.symm) rfl
 refine QG (by simp;omega) ?_
 unfold okQ at end_;generalize x.d.ok=b0 at end_ ⊢;generalize decide ((x.scans.n:Int)>12)=b1 at end_ ⊢;generalize decide ((x.hang.n:Int)>12)=b2 at end_ ⊢;generalize Qa x.lost 0 9=b3 at end_ ⊢;generalize Qa x.foreign 0 3=b4 at end_ ⊢
 repeat' first|refine QG rfl ?_|refine QG (by grind) ?_|refine KY fun z hz => ?_
 refine QI (fun q=>end_ (by grind)) (fun q => ?_)
 repeat' first|refine QU (show _=_ by with_reducible rfl) ?_|refine QU (show _≤_ from qlr _) ?_|refine QU (show QE _ _ _ _ from qRr) ?_
 refine X0 (KB fun h=>KE fun g=>end_ (by grind)) (KB fun h=>KE fun g => ?_)
 repeat' first|refine QU (show _=_ by with_reducible rfl) ?_|refine QU (show _≤_ from qlr _) ?_|refine QU (show QE _ _ _ _ from qRr) ?_
 refine X0 (KB fun h2=>KE fun g=>end_ (by grind)) (KB fun h2=>KE fun g=>end_ (by grind))
theorem QOg:QQ Try.prog 35 QJC:=
 JK (V5 Wf) Try.func35 (by kernel_rfl) (by kernel_rfl) (by decide) QTt QNz
def ZB:Tab:=Qh J5 35 QJC
theorem QA2:QW ZB:=Wf.add QOg
def Vw(x:QB)(c s:Int):Bool:=decide ((x.d.ps.n:Int)>14)||(decide ((x.scans.n:Int)>18)||(decide ((x.hang.n:Int)>18)||(x.ok&&(decide ((x.d.ps.n:Int)>c)||decide ((x.scans.n:Int)>s)))))
def WI:WF (QB×Int×Int×Unit):=fun|(x,(c,(s,_)))=>(true,.bool false (Vw x c s),[])
def QEi:FC:=wFC WI
theorem QS4(x:QB)(c:Int)(s:Int):Ka (mkS Try.prog ZB) (hnd (mkS Try.prog ZB) 1) Try.f34 (QY.vals 0 ((x,c,s,()):QB×Int×Int×Unit)) (QY.blks 0 ((x,c,s,()):QB×Int×Int×Unit))
  8 = .need (!!decide ((x.d.ps.n:Int)>14) || !decide ((x.d.ps.n:Int)>14)) (.need (!!decide ((x.d.ps.n:Int)>14) || !decide ((x.d.ps.n:Int)>14)) (.need (!!decide
  ((x.d.ps.n:Int)>14) || !decide ((x.d.ps.n:Int)>14)) (.need (decide ((x.d.ps.n:Int)>14) || !decide ((x.d.ps.n:Int)>14)) (.bnd (decide ((x.d.ps.n:Int)>14) ||
  decide ((x.scans.n:Int)>18)) (fun(x0:Bool) => .need (!!x0 || !x0) (.need (!!x0 || !x0) (.need (!!x0 || !x0) (.need (x0 || !x0) (.bnd (x0||decide ((x.hang.n:Int)>18))
  (fun(x1:Bool) => .need (!!x1||decide (x.d.ps.n≤x.d.ps.n)&&(decide (x.scans.n≤x.scans.n)&&(decide (x.hang.n≤x.hang.n)&&true))&&decide (x.d.ps.n≤1000∧x.scans.n
  ≤ 1000∧x.hang.n≤1000) && !x1) (.need (!!x1 || !x1) (.need (!(!x1&&x.ok) || !x1&&x.ok) (.need (!(!x1&&x.ok) || !x1&&x.ok) (.need (!(!x1&&x.ok) || !x1&&x.ok) (.need
  (!(!x1&&x.ok) || !x1&&x.ok&&(!x1&&x.ok)) (.need (!(!x1&&x.ok) || !x1&&x.ok) (.need (!(!x1&&x.ok && !decide ((x.d.ps.n:Int)>c)) || !x1&&x.ok && !decide ((x.d.ps.n
  : Int)>c)) (.need (!(!x1&&x.ok && !decide ((x.d.ps.n:Int)>c)) || !x1&&x.ok && !decide ((x.d.ps.n:Int)>c)) (.need (!(!x1&&x.ok && !decide ((x.d.ps.n:Int)>c)) ||
  !x1&&x.ok && !decide ((x.d.ps.n:Int)>c)&&(!x1&&x.ok && !decide ((x.d.ps.n:Int)>c))) (.need (!(!x1&&x.ok) || !x1&&x.ok&&(decide ((x.d.ps.n:Int)>c) || !x1 &&
  x.ok && !decide ((x.d.ps.n:Int)>c))) (.bnd (decide ((x.d.ps.n:Int)>c)||decide ((x.scans.n:Int)>s)) (fun(x2:Bool) => .need (!!x1 || !x1&&(!x.ok || !x1&&x.ok))
  (.bnd (x.ok&&x2) (fun(x3:Bool) => .need (x1 || !x1) (.bnd (x1||x3) (fun(x4:Bool) => .leaf (.bool false x4) ([]))))))))))))))))))))))))))):=by kernel_rfl
theorem QVb:K6 (mkS Try.prog ZB) (Qr Try.f34) 8 WI (fun x_=>(hnd (mkS Try.prog ZB) 1)):=by
 refine⟨?_⟩;rintro⟨x,⟨c,⟨s,⟨⟩⟩⟩⟩ hp G h1 h2;exact Q0 (V5 QA2) 1 G _ h1
theorem QWj:K5 (mkS Try.prog ZB) Try.f34 8 WI (fun x_=>(hnd (mkS Try.prog ZB) 1)):=by
 refine⟨?_⟩;rintro⟨x,⟨c,⟨s,⟨⟩⟩⟩⟩ hp;refine⟨⟨rfl,by simp[WI],rfl⟩,⟨?_⟩⟩
 rw[QS4 x c s];simp only[WI]at hp;have end_:∀{z:Bool} {b:Bool},Vw x c s=b→(QD.leaf (AV.bool z b) []).den (XS 8 (WI (x,c,s,())).2.1 (WI (x,c,s,())).2.2):=fun h=>Kg h.symm rfl
 have sm:decide ((x.d.ps.n:Int)>14)=false→decide ((x.scans.n:Int)>18)=false→decide ((x.hang.n:Int)>18)=false→(decide (x.d.ps.n≤x.d.ps.n)&&(decide (x.scans.n≤x.scans.n)&&(decide (x.hang.n≤x.hang.n)&&true))&&decide (x.d.ps.n≤(1000:Nat)∧x.scans.n≤(1000:Nat)∧x.hang.n≤(1000:Nat)))=true:=by
  intro h1 h2 h3;simp only[decide_eq_false_iff_not]at h1 h2 h3;simp;omega
 unfold Vw at end_;generalize (decide (x.d.ps.n≤x.d.ps.n)&&(decide (x.scans.n≤x.scans.n)&&(decide (x.hang.n≤x.hang.n)&&true))&&decide (x.d.ps.n≤(1000:Nat)∧x.scans.n≤(1000:Nat)∧x.hang.n≤(1000:Nat)))=w at sm ⊢;generalize decide ((x.d.ps.n:Int)>14)=b0 at sm end_ ⊢;generalize decide ((x.scans.n:Int)>18)=b1 at sm end_ ⊢;generalize decide ((x.hang.n:Int)>18)=b2 at sm end_ ⊢;generalize decide ((x.d.ps.n:Int)>c)=b3 at end_ ⊢;generalize decide ((x.scans.n:Int)>s)=b4 at end_ ⊢;generalize x.ok=b5 at end_ ⊢
 repeat' first|refine QG rfl ?_|refine QG (by clear end_;grind) ?_|refine KY fun z hz => ?_
 refine end_ ?_;clear end_ sm;subst_vars;cases b0<;>cases b1<;>cases b2<;>cases b3<;>cases b4<;>cases b5<;>rfl
theorem QQR:QQ Try.prog 34 QEi:=
 JK (V5 QA2) Try.func34 (by kernel_rfl) (by kernel_rfl) (by decide) QVb QWj
def QKk:Tab:=Qh ZB 34 QEi
theorem QOd:QW QKk:=QA2.add QQR
end Go.Proofs.Ytbpffdkemeoajaa
namespace Go.Proofs.Ytbpffdkemeoajaa
open Go Go.SX
variable {sl sh lo hi dl:Int}{t h a b:Edge}{p:Qg}{x:QB}
theorem QNx:Ql sl sh lo hi dl=true↔1000*lo≤min (max 0 sl) sh*(1000+dl)∧min (max 0 sl) sh*(1000+dl)≤1000*hi:=by
 unfold Ql;rw[qbA,qdE,qdE]
theorem QWw{dh:Int}:KN sl sh lo hi dh=true↔1000*lo≤sl*(1000+dh)∧sh*(1000+dh)≤1000*hi:=by
 unfold KN;rw[qbA,qdE,qdE]
theorem QD4{sl' sh':Int}(h:Ql sl' sh' lo hi dl=true)(h0:lo≤0)(h1:0≤hi)(hd:0≤dl)(hs:sl'≤sh')(hl:sl≤sl')(hh:sh'≤sh):Ql sl sh lo hi dl=true:=by
 rw[QNx]at h;refine QCg (n:=min (max 0 sl') sh') (by omega) (by omega) hd (by omega) (by omega) (by omega) (by omega)
theorem QBU{dh:Int}(h:KN sl sh lo hi dh=true)(hs:sl≤sh)(h0:lo≤0)(h1:0≤hi)(d0:0≤dl)(d1:dl≤dh):Ql sl sh lo hi dl=true:=by
 rw[QWw]at h;have m1:=vR (m:=1000+dl) hs (by omega)
 have g1:1000*lo≤sl*(1000+dl):=by
  rcases(show 0≤sl∨sl<0 by omega)with q|q
  ·have:=Int.mul_nonneg q (show 0≤1000+dl by omega);omega
  ·have:(-sl)*(1000+dl)≤(-sl)*(1000+dh):=Int.mul_le_mul_of_nonneg_left (by omega) (by omega)
   rw[Int.neg_mul,Int.neg_mul]at this;omega
 have g2:sh*(1000+dl)≤1000*hi:=by
  rcases(show sh≤0∨0<sh by omega)with q|q
  ·have:=Int.mul_nonneg (show 0 ≤ -sh by omega) (show 0≤1000+dl by omega)
   rw[Int.neg_mul]at this;omega
  ·have:sh*(1000+dl)≤sh*(1000+dh):=Int.mul_le_mul_of_nonneg_left (by omega) (by omega)
   omega
 exact QCg (n:=sl) h0 h1 d0 (Int.le_refl _) hs g1 (by omega)
def Wb(t' t:Edge):Prop:=t'.kind=t.kind∧(t.at_.lo≤t'.at_.lo∧t'.at_.lo≤t'.at_.hi∧t'.at_.hi≤t.at_.hi)∧(t.wide.lo≤t'.wide.lo∧t'.wide.lo≤t'.wide.hi∧t'.wide.hi≤t.wide.hi)∧t.deep.lo≤t'.deep.lo∧t'.deep.lo≤t'.deep.hi∧t'.deep.hi≤t.deep.hi
theorem H8{t':Edge}(h:t.ok=true)(hk:t.kind≠0)(ht:Wb t' t):t'.ok=true:=by
 rw[Edge.ok_iff]at h ⊢;obtain⟨a0,a1,a2,a3⟩:=ht;omega
theorem QE7(ht:t.ok=true)(hh:h.ok=true)(kt:t.kind=1)(kh:h.kind=2):(Qe p t h).lo≤(Qe p t h).hi∧(Qf t h).lo≤(Qf t h).hi∧(Qc t h).lo≤(Qc t h).hi:=by
 rw[Edge.ok_iff]at ht hh;simp only[Qe,Qf,Qc];omega
theorem QRo{t' h':Edge}(hp:p.ok=true)(ht:t.ok=true)(hh:h.ok=true)(kt:t.kind=1)(kh:h.kind=2)(tt:Wb t' t)(th:Wb h' h)(i:Nat)(hv:may p t' h' i=true):may p t h i=true:=by
 rw[Qg.ok_iff]at hp;have t1:=H8 ht (by omega) tt
 have h1:=H8 hh (by omega) th
 have s0:=QE7 (p:=p) t1 h1 (by rw[tt.1];exact kt) (by rw[th.1];exact kh)
 obtain⟨_,a1,a2,a3⟩:=tt;obtain⟨_,b1,b2,b3⟩:=th;unfold may at hv ⊢;split at hv
 ·refine QD4 hv (by omega) (by omega) (by omega) s0.1 ?_ ?_<;>simp only[Qe]<;>omega
 ·refine QD4 hv (by omega) (by omega) (by omega) s0.2.1 ?_ ?_<;>simp only[Qf]<;>omega
 ·refine QD4 hv (by omega) (by omega) (by omega) s0.2.2 ?_ ?_<;>simp only[Qc]<;>omega
theorem QTv(hp:p.ok=true)(ht:t.ok=true)(hh:h.ok=true)(kt:t.kind=1)(kh:h.kind=2)(i:Nat)(hv:alw p t h i=true):may p t h i=true:=by
 rw[Qg.ok_iff]at hp;have s0:=QE7 (p:=p) ht hh kt kh;unfold alw at hv;unfold may;split at hv
 ·exact QBU hv s0.1 (by omega) (by omega) (by omega) (by omega)
 ·exact QBU hv s0.2.1 (by omega) (by omega) (by omega) (by omega)
 ·exact QBU hv s0.2.2 (by omega) (by omega) (by omega) (by omega)
theorem QKG(hp:p.ok=true)(ht:t.ok=true)(hh:h.ok=true)(kt:t.kind=1)(kh:h.kind=2):XQ p t h=0↔¬ (may p t h 0=true∧may p t h 1=true∧may p t h 2=true):=by
 rw[HO];have m:=QTv hp ht hh kt kh
 by_cases h2:(alw p t h 0&&(alw p t h 1&&alw p t h 2))=true
 ·rw[if_pos h2];simp only[qbA]at h2;simp[m 0 h2.1,m 1 h2.2.1,m 2 h2.2.2]
 ·rw[if_neg h2]
  by_cases h1:(may p t h 0&&(may p t h 1&&may p t h 2))=true
  ·rw[if_pos h1];simp only[qbA]at h1;simp[h1.1,h1.2.1,h1.2.2]
  ·rw[if_neg h1];simp only[qbA]at h1;simp[h1]
def ZP(t' t:Edge):Prop:=t'.kind=t.kind∧(t.kind≠0→Wb t' t)
theorem QVm{a' b':Edge}(hp:p.ok=true)(ha:a.ok=true)(hb:b.ok=true)(ta:ZP a' a)(tb:ZP b' b)(h:Vx p a b=0):Vx p a' b'=0:=by
 have core:∀ t h t' h':Edge,t.ok=true→h.ok=true→t.kind=1→h.kind=2→Wb t' t→Wb h' h→XQ p t h=0→XQ p t' h'=0:=by
  intro t h t' h' ht hh kt kh tt th h0;rw[QKG hp (H8 ht (by omega) tt) (H8 hh (by omega) th) (by rw[tt.1];exact kt) (by rw[th.1];exact kh)]
  rw[QKG hp ht hh kt kh]at h0;have m:=QRo hp ht hh kt kh tt th;exact fun h=>h0 ⟨m 0 h.1,m 1 h.2.1,m 2 h.2.2⟩
 unfold Vx at h ⊢;rw[ta.1,tb.1]
 by_cases a2:a.kind=2
 ·rw[if_pos a2]at h ⊢
  by_cases b1:b.kind=1
  ·rw[if_pos b1]at h ⊢;exact core b a b' a' hb ha b1 a2 (tb.2 (by omega)) (ta.2 (by omega)) h
  ·rw[if_neg b1]
 ·rw[if_neg a2]at h ⊢
  by_cases k:a.kind=1∧b.kind=2
  ·rw[if_pos k]at h ⊢;exact core a b a' b' ha hb k.1 k.2 (ta.2 (by omega)) (tb.2 (by omega)) h
  ·rw[if_neg k]
theorem QKy:(Q8 p a b).1=0↔((p.ok=true∧a.ok=true∧b.ok=true)→Vx p a b=0):=by
 unfold Q8
 by_cases h:p.ok=true∧a.ok=true∧b.ok=true
 ·rw[if_pos h];simp[h]
 ·rw[if_neg h];simp[h]
theorem zo{a':Edge}(h:ZP a' a)(e:isS a' b=true):isS a b=true:=by
 unfold isS at e ⊢;rw[h.1]at e;cases hk:a.kind==0 with
 | true=>rw[hk]at e;exact e
 | false=>
  rw[hk]at e;have ht:=h.2 (by simpa using hk)
  obtain⟨k,a1,a2,a3⟩:=ht;simp only[cond_false]at e ⊢;unfold isF com at e ⊢;simp only[qbA,qdE,beq_iff_eq]at e ⊢;rw[k]at e;refine⟨?_,?_,?_,?_⟩<;>first|exact e.1|omega
theorem QMw(hx:x.ok=true):x.d.play.ok=true∧∀ k,k<x.scans.n→(x.scans.get k).ok=true:=by
 simp only[QB.ok,qbA]at hx;obtain⟨_,hd,hs,_⟩:=hx;refine⟨QJb hd,fun k hk => ?_⟩;rw[QEn hd]at hs;have:=Ws (Option.isNone_iff_eq_none.1 hs) k (Nat.zero_le _) (by omega)
 simpa[XX]using this
theorem Hh{s:QK}(h:s.ok=true)(i:Int):(YT s i).ok=true:=by
 simp only[QK.ok,qbA]at h;unfold YT;split
 ·exact h.1
 ·split
  ·exact h.2.1
  ·split
   ·exact h.2.2.1
   ·exact h.2.2.2
theorem QJP{s' s:QK}(h:∀ i,i<4→ZP (JB s' i) (JB s i))(i:Int):ZP (YT s' i) (YT s i):=by
 unfold YT;cases decide (i=0)with
 | true=>exact h 0 (by omega)
 | false=>
  cases decide (i=1)with
  | true=>exact h 1 (by omega)
  | false=>
   cases decide (i=2)with
   | true=>exact h 2 (by omega)
   | false=>exact h 3 (by omega)
theorem QTB{sc:Nat→QK}(h:∀ k,k<x.scans.n→∀ i,i<4→ZP (JB (sc k) i) (JB (x.scans.get k) i)):Jg { x with scans:=⟨x.scans.n,sc⟩ } x:=by
 refine⟨rfl,rfl,rfl,Int.le_refl _,Int.le_refl _,fun k hk c t _ hq => ?_,fun hx hr => ?_⟩
 ·unfold J2 at hq ⊢;simp only[qbA]at hq ⊢;have m:∀ i,(i+4-t) % 4<4:=fun i=>Nat.mod_lt _ (by omega)
  exact⟨zo (h k hk _ (m 0)) hq.1,zo (h k hk _ (m 1)) hq.2.1,zo (h k hk _ (m 2)) hq.2.2.1,zo (h k hk _ (m 3)) hq.2.2.2⟩
 ·obtain⟨hp,hs⟩:=QMw hx;have hg:=VI hx;unfold K4 at hr ⊢;cases e:(QO (Vb { x with scans:=⟨x.scans.n,sc⟩ }) x.hang.n 0)with
  | some i=>rfl
  | none=>
   have hn:QO (Vb x) x.hang.n 0=none:=QA0 fun k _ hk=>by
    cases q:Vb x k with
    | false=>rfl
    | true=>
     have:=Ws e k (Nat.zero_le _) (by omega)
     have ha:=hg.j k (by omega)
     unfold Vb at this q;rw[beq_iff_eq,QKy]at q;rw[beq_eq_false_iff_ne]at this;refine absurd (QKy.2 fun _ => ?_) this;have a1:(x.hang.get k).a.toNat<x.scans.n:=by omega
     have b1:(x.hang.get k).b.toNat<x.scans.n:=by omega
     exact QVm hp (Hh (hs _ a1) _) (Hh (hs _ b1) _) (QJP (h _ a1) _) (QJP (h _ b1) _) (q ⟨hp,Hh (hs _ a1) _,Hh (hs _ b1) _⟩)
   rw[hn]at hr;cases hr
end Go.Proofs.Ytbpffdkemeoajaa
namespace Go.SX
open Go Go.RowKit Go.Proofs.Ytbpffdkemeoajaa
def QLp(rw_:Bool)(E:Env)(H:Hnd)(fn:Func):FC:=fun args nid _=>vA rw_ E H fn args nid (Vu (AV.idsFromL 0 args) [])
variable {f:FuncId}
theorem QPd{E:Env}(hE:E.Sound){H:Hnd}{rw_:Bool}{fn:Func}{c:Code}(hf:E.P.funcs[f]? = some fn)(hb:fn.body=some c)(hgo:JH E.P f=true)(hl:∀ G,G.rd=none→Q9 E G H c):QQ E.P f (QLp rw_ E H fn):=by
 have h:=QBo (rw_:=rw_) hE hf hb hgo hl;exact⟨h.1,fun args nid all r w lk blks eff hH ha hv he hp=>h.2 args nid (Vu (AV.idsFromL 0 args) []) r w lk blks eff hH ha hv he hp⟩
def QDm(fc:FC):FC:=fun args nid _=>((fc args nid (Vu (AV.idsFromL 0 args) [])).1,fun blks=>match (fc args nid (Vu (AV.idsFromL 0 args) [])).2 blks with
 | some e=>some ⟨true,e.pre,e.val.setK true,e.upd⟩
 | none=>none)
theorem QSf{P:Program}{fc:FC}(h:QQ P f fc):QQ P f (QDm fc):=by
 refine⟨h.1,fun args nid all r w lk blks eff hH ha hv he hp => ?_⟩;simp only[QDm]at hv he;split at he<;>(try (cases he;done))
 rename_i e h0;simp only[qsI]at he;subst he;refine(h.2 args nid (Vu (AV.idsFromL 0 args) []) r w lk blks e hH ha hv h0 hp).mono ?_;rintro e' w' ⟨r',rfl,hpost⟩;exact⟨r',by simp only;rw[Z7],hpost⟩
end Go.SX
namespace Go.Proofs.Ytbpffdkemeoajaa
open Go.SX
abbrev mkG(P:Program)(C:Tab):Env:=⟨P,C,Z6 P,false,fun _=>false,false,true,false⟩
theorem QBi{C:Tab}(hC:QW C):(mkG Try.prog C).Sound:={ c:=hC,m:=vw Try.prog,mixed:=je }
def QFh:List (Nat×Nat)→Nat→Nat
 | [],_=>0
 | (g,k)::l,f=>match Nat.beq g f with
  | true=>k
  | false=>QFh l f
def YD(P:Program)(B:Tab)(l:List (Nat×Nat)):Nat→Tab
 | 0=>fun _=>none
 | d+1=>fun f=>match B f with
  | some fc=>some (QDm fc)
  | none=>match QFh l f with
   | 0=>none
   | k=>match P.funcs[f]? with
    | none=>none
    | some fn=>match fn.body.isSome&&JH P f with
     | false=>none
     | true=>match k with
      | 1=>some (QLp false (mkG P (YD P B l d)) (hnd (mkG P (YD P B l d)) 60) fn)
      | 2=>some (vA false (mkG P (YD P B l d)) (hnd (mkG P (YD P B l d)) 60) fn)
      | _=>some (vA true (mkG P (YD P B l d)) (hnd (mkG P (YD P B l d)) 60) fn)
theorem QKb{B:Tab}(hB:QW B)(l:List (Nat×Nat)):∀ d,QW (YD Try.prog B l d)
 | 0=>fun f fc h=>by cases h
 | d+1=>fun f fc h=>by
  have ih:=QBi (QKb hB l d);simp only[YD]at h;split at h
  ·rename_i fc0 h0;simp only[qsI]at h;subst h;exact QSf (hB _ _ h0)
  split at h
  ·cases h
  ·split at h
   ·cases h
   ·rename_i fn hf;split at h
    ·cases h
    ·rename_i hb;simp only[qbA,Option.isSome_iff_exists]at hb;obtain⟨⟨c,hc⟩,hgo⟩:=hb;split at h<;>simp only[qsI]at h<;>subst h
     ·exact QPd ih hf hc hgo fun G hG=>Q0 ih 60 G _ hG
     ·exact QBo ih hf hc hgo fun G hG=>Q0 ih 60 G _ hG
     ·exact QBo ih hf hc hgo fun G hG=>Q0 ih 60 G _ hG
def QRk:Unit→Bool×AV:=fun _=>(true,.bool false true)
def QA8:FC:=Q3 (Q2 QRk)
variable {f:FuncId}
theorem QOj{C:Tab}(hC:QW C)(d:Nat){fn:Func}(hf:Try.prog.funcs[f]? = some fn)(hb:fn.body=some (Qr fn))(hgo:JH Try.prog f=true)(h:Qx (mkG Try.prog C) (hnd (mkG Try.prog C) d) false fn [] [] 0 = .leaf (.bool true true) []):QQ Try.prog f QA8:=by
 refine QCo (QBi hC) hf hb hgo (fun G _ hG=>Q0 (QBi hC) d G _ hG) ?_;rintro⟨⟩ _;rw[show(Qm.enc ((()):Unit):List AV)=[]from rfl,h];rfl
def QDX:List (Nat×Nat):=[(95,1)]
theorem QQF:Qx (mkG Try.prog (YD Try.prog VX QDX 12)) (hnd (mkG Try.prog (YD Try.prog VX QDX 12)) 100) false Try.f12 [] [] 0 = .leaf (.bool true true) []:=by kernel_rfl
theorem QT9:QQ Try.prog 12 QA8:=QOj (QKb Y8 QDX 12) 100 Try.func12 (by kernel_rfl) (by kernel_rfl) QQF
structure U8n where
 n:Int
instance : Enc U8n where
  enc x := .int false .u8 x.n
  dec v := match v with
    | .int _ .u8 n => some ⟨n⟩
    | _ => none
  ok v x h := by
    split at h <;> (try (cases h; done))
    simp only[qsI]at h; subst h; exact⟨fun _ => rfl,rfl⟩
def KT:Tab:=Qh (Qh (Qh QKk 12 QA8) 20 (z5 QLg)) 33 (z5 QG2)
theorem Xi:QW KT:=((QOd.add QT9).add (QD2 QUM)).add (QD2 QOr)
end Go.Proofs.Ytbpffdkemeoajaa
