/- - -/
import Derived.Test.YtbpffdkemeoajaaMwv
import Derived.Test.YtbpffdkemeoajaaMww
open Go.IntKind (i64)
set_option maxRecDepth 100000
namespace Go.Proofs.Ytbpffdkemeoajaa
open Go.SX
variable (pb:List Prop→Bool)(x:QE)(C:List (List QB))(l:List QB)(k:Nat)
def QE.sz:Bool:=decide ((x.scans.n:Int)≤12)&&(decide ((x.hang.n:Int)≤12)&&(Qf x.lost 0 9&&Qf x.foreign 0 3))
def QE.ok(x:QE):Bool:=x.sz&&(x.d.ok&&(VR x.d.play x.scans && !decide (KY (jxO x)≥0)))
def jxR(e:Ex)(J:JSt):Prop:=(e = .ret∧(QQ (K8 x) (x.hang.n-k) k).isSome=true∧J=⟨19,[(4,.int false .i64 (KY (QQ (K8 x) (x.hang.n-k) k)))],[],8⟩)∨(e = .exit 0∧QQ (K8 x) (x.hang.n-k) k=none∧J=⟨19,[],[],8⟩)
theorem QRs(hl:x.hang.n≤1000):K0 (jxJ x) (fun k=>k≤x.hang.n) (fun k=>x.hang.n-k) (jxR x) 8 jl [] (mkE Try.prog Ke) (fun _=>hnd (mkE Try.prog Ke) 4) (QW Try.f107 0):=by
 refine⟨fun k g hk=>Qt (QPe x k g) ?_⟩;refine QI (fun h => ?_) (fun h => ?_)
 ·have h:k<x.hang.n:=by have:=qdt h;omega
  obtain⟨n,hm⟩:∃ n,x.hang.n-k=n+1:=⟨x.hang.n-k-1,by omega⟩
  have hm':x.hang.n-(k+1)=n:=by omega
  have bad:K8 x k=true→jxR x k .ret ⟨19,[(4,.int false .i64 k)],[],8⟩:=fun q=>by
   have hf:QQ (K8 x) (x.hang.n-k) k=some k:=by rw[hm,QQ,q]
   exact .inl ⟨rfl,by rw[hf];rfl,by rw[hf];rfl⟩
  refine QF (by simp;omega) (QF (by simp;omega) (QF rfl (QI (fun h1 => ?_) (fun h1=>QF rfl (QI (fun h2 => ?_) (fun h2=>QI (fun h3 => ?_) (fun h3=>QF rfl (QI (fun h4 => ?_) (fun h4=>QF rfl (QI (fun h5 => ?_) (fun h5 => ?_)))))))))))
  ·exact⟨_,bad (by simp only[K8,Zx,h1,Bool.true_or]),rfl,rfl,_,Wl _ _,⟨rfl,trivial⟩⟩
  ·exact⟨_,bad (by simp only[K8,Zx,h2,Bool.true_or,Bool.or_true]),rfl,rfl,_,Wl _ _,⟨rfl,trivial⟩⟩
  ·exact⟨_,bad (by simp only[K8,Zx,h3,Bool.true_or,Bool.or_true]),rfl,rfl,_,Wl _ _,⟨rfl,trivial⟩⟩
  ·exact⟨_,bad (by simp only[K8,Zx,h4,Bool.true_or,Bool.or_true]),rfl,rfl,_,Wl _ _,⟨rfl,trivial⟩⟩
  ·exact⟨_,bad (by simp only[K8,Zx,h5,Bool.or_true]),rfl,rfl,_,Wl _ _,⟨rfl,trivial⟩⟩
  ·have q:K8 x k=false:=by simp only[K8,Zx,h1,h2,h3,h4,h5,Bool.or_self]
   have hf:QQ (K8 x) (x.hang.n-k) k=QQ (K8 x) (x.hang.n-(k+1)) (k+1):=by rw[hm,hm',QQ,q]
   refine⟨k+1,by omega,by show x.hang.n-(k+1)<x.hang.n-k;omega,fun e J h=>by unfold jxR at h ⊢;rw[hf];exact h,rfl,rfl,_,QQp x k (k+1),?_⟩
   have hw:i64.wrap ((k:Int)+1)=((k+1:Nat):Int):=(w64 (by omega) (by omega)).trans (by omega)
   repeat' first|exact trivial|with_reducible rfl|exact qlr _|exact qRr|exact hw|refine And.intro ?_ ?_
 ·have h:x.hang.n≤k:=by have:=of_decide_eq_false h;omega
  have hf:QQ (K8 x) (x.hang.n-k) k=none:=by rw[show x.hang.n-k=0 by omega];rfl
  exact⟨_,.inr ⟨rfl,hf,rfl⟩,rfl,rfl,_,QFA,trivial⟩
def jxX:List (Prop×Ex×JSt):=[((jxO x).isSome=true,.ret,⟨19,[(4,.int false .i64 (KY (jxO x)))],[],8⟩),(jxO x=none,.exit 0,⟨19,[],[],8⟩)]
abbrev jxH(P:Program)(x:QE):Hnd:={ hnd (mkE P Ke) 1 with loop:=fun _=>Q7 8 [] (jxJ x (0:Nat)) (jxX x) }
theorem QY3(hl:x.hang.n≤1000)(G:Ctx)(hrd:G.rd=none)(hG:G.n=8):Q1 (mkE Try.prog Ke) G (jxH Try.prog x) (Qo Try.f107):=by
 refine JF (body:=QW Try.f107 0) (QP VH) hrd (by kernel_rfl) ?_
 refine JG (n0:=8) (QP VH) (by omega) (fun s hs=>Qq (QP VH) 4 G _ hrd) (fun s hs=>qlr _) ?_ (QRs x hl) (s0:=0) (Nat.zero_le _) ?_
 ·rintro s e J (⟨_,_,rfl⟩|⟨_,_,rfl⟩)<;>exact qlr _
 ·rintro e J (⟨rfl,h,rfl⟩|⟨rfl,h,rfl⟩)
  ·exact⟨_,List.mem_cons_self,h,rfl,rfl⟩
  ·exact⟨_,List.mem_cons_of_mem _ List.mem_cons_self,h,rfl,rfl⟩
theorem QTs :Jy (mkE Try.prog Ke) (jxH Try.prog x) Try.f107 (jxU x) = .ask (0=0) (.ask (x.hang.n=x.hang.n) (.ask (cO=cO) (.ask (Fn.func (93:FuncId)=Fn.func (93 :
  FuncId)) (.ask (0=0) (.ask (0=0) (.ask ((x.hang.n:Int)=(x.hang.n:Int)) (.ask ((0:Int)=0) (.ask (Fn.func (92:FuncId)=Fn.func (92:FuncId)) (.ask (0=0) (.ask (0 =
  0) (.ask (x.d.play.length=x.d.play.length) (.ask (x.d.play.slack=x.d.play.slack) (.ask (x.d.play.loose=x.d.play.loose) (.ask (x.d.play.damp.lo=x.d.play.damp.lo) (.ask
  (x.d.play.damp.hi=x.d.play.damp.hi) (.ask (x.d.wide=x.d.wide) (.ask (x.d.high=x.d.high) (.ask (x.d.turn=x.d.turn) (.ask (0=0) (.ask (x.d.ps.n=x.d.ps.n) (.ask (cO =
  cO) (.ask (0=0) (.ask (x.scans.n=x.scans.n) (.ask (cO=cO) (.ask (0=0) (.ask (x.hang.n=x.hang.n) (.ask (cO=cO) (.ask (x.lost=x.lost) (.ask
  (x.foreign=x.foreign) (.ask (x.d.ps.n≤x.d.ps.n) (.ask (QC 28 x.d.ps.n (fun i=>QA.enc (x.d.ps.get i)) fun i=>QA.enc (x.d.ps.get i)) (.ask (x.scans.n≤x.scans.n)
  (.ask (QC 28 x.scans.n (fun i=>QA.enc (x.scans.get i)) fun i=>QA.enc (x.scans.get i)) (.ask (x.hang.n≤x.hang.n) (.ask (QC 4 x.hang.n (fun i=>QA.enc (x.hang.get
  i)) fun i=>QA.enc (x.hang.get i)) (.both (.asm ((jxO x).isSome=true) (.all (fun(g0:Nat→Value) => .leaf (.int false .i64 (KY (jxO x))) ([])))) (.asm (jxO x=none)
  (.all (fun(g1:Nat→Value) => .leaf (.int true .i64 (-1)) ([])))))))))))))))))))))))))))))))))))))))):=by kernel_rfl
theorem QTV:QL 8 [(AV.int false i64 (KY (jxO x)))] ([]) (Kd (jxU x))=(
  some [KY (jxO x)=KY (jxO x)]):=by kernel_rfl
theorem QaF:QL 8 [(AV.int true i64 (-1:Int))] ([]) (Kd (jxU x))=(
  some [(-1:Int)=KY (jxO x)]):=by kernel_rfl
theorem QZO(hl:x.hang.n≤1000):QO Try.prog 107 (uFC (jxU x)):=by
 refine JW (E:=mkE Try.prog Ke) (QP VH) Try.func107 (by kernel_rfl) (by kernel_rfl) (z9 (Nat.zero_le _) rfl rfl fun _=>rfl) (QY3 x hl) ⟨?_⟩
 refine Qt (QTs x) ?_
 repeat' first|refine QR (show _=_ by with_reducible rfl) ?_|refine QR (show _≤_ from qlr _) ?_|refine QR (show QC _ _ _ _ from qRr) ?_
 refine Xf (KA fun h=>Q6 fun g => ?_) (KA fun h=>Q6 fun g => ?_)
 ·exact⟨rfl,rfl,_,QTV x,⟨rfl,trivial⟩⟩
 ·refine⟨rfl,rfl,_,QaF x,⟨?_,trivial⟩⟩;rw[h];rfl
def QAa:Tab:=Qd Ke 107 (Jd pb (jxU x))
theorem QZe:Jy (mkE Try.prog (QAa pb x)) (hnd (mkE Try.prog (QAa pb x)) 1) Try.f94 (cxU x) =
  QD.need (pb ([(0:Nat)=(0:Nat),x.hang.n=x.hang.n,Cap.of (0:Nat)=Cap.of (0:Nat),Fn.func (93:Nat)=Fn.func (93:Nat),(0:Nat)=(0:Nat),(0:Nat)=(0 :
  Nat),Fn.func (92:Nat)=Fn.func (92:Nat),(0:Nat)=(0:Nat),(0:Nat)=(0:Nat),x.d.play.length=x.d.play.length,x.d.play.slack=x.d.play.slack,x.d.play.loose =
  x.d.play.loose,x.d.play.damp.lo=x.d.play.damp.lo,x.d.play.damp.hi=x.d.play.damp.hi,x.d.wide=x.d.wide,x.d.high=x.d.high,x.d.turn=x.d.turn,(0:Nat)=(0:Nat),
  x.d.ps.n=x.d.ps.n,Cap.of (0:Nat)=Cap.of (0:Nat),(0:Nat)=(0:Nat),x.scans.n=x.scans.n,Cap.of (0:Nat)=Cap.of (0:Nat),(0:Nat)=(0:Nat),x.hang.n =
  x.hang.n,Cap.of (0:Nat)=Cap.of (0:Nat),x.lost=x.lost,x.foreign=x.foreign,x.d.ps.n≤x.d.ps.n,QC (28:Nat) x.d.ps.n (fun i=>QA.enc (x.d.ps.get i)) fun i=>
  QA.enc (x.d.ps.get i),x.scans.n≤x.scans.n,QC (28:Nat) x.scans.n (fun i=>QA.enc (x.scans.get i)) fun i=>QA.enc (x.scans.get i),x.hang.n≤x.hang.n,QC (4 :
  Nat) x.hang.n (fun i=>QA.enc (x.hang.get i)) fun i=>QA.enc (x.hang.get i)])) (QD.leaf (AV.bool false (decide (KY (jxO x)≥(0:Int)))) ([])):=by kernel_rfl
theorem QYD:QL 8 [(AV.bool false (decide (KY (jxO x)≥(0:Int))))] ([]) (Kd (cxU x))=(
  some [decide (KY (jxO x)≥(0:Int))=decide (KY (jxO x)≥(0:Int))]):=by kernel_rfl
def Gn:Tab:=Qd Ke 94 (Jd pb (cxU x))
theorem QQS :KR (mkE Try.prog (Gn pb x)) (hnd (mkE Try.prog (Gn pb x)) 1) Try.f74 (QX.vals 0 ((x,()):QE×Unit)) (QX.blks 0 ((x,()):QE×Unit)) 8 = .br (decide
  ((x.scans.n:Int)≤12)) (.br (decide ((x.hang.n:Int)≤12)) (.need (true) (.br (Qf x.lost (0:Int) (9:Int)) (.need (true) (.br (Qf x.foreign (0:Int) (3:Int))
  (.need (decide (x.d.ps.n≤x.d.ps.n)&&true&&decide (x.d.ps.n≤1000)) (.br (x.d.ok) (.need (true&&(decide (x.scans.n≤x.scans.n)&&true)&&decide (x.scans.n≤1000)) (.br
  (VR x.d.play x.scans) (.need (pb ([0=0,x.hang.n=x.hang.n,cO=cO,Fn.func 93=Fn.func 93,0=0,0=0,Fn.func 92=Fn.func 92,0=0,0=0,x.d.play.length =
  x.d.play.length,x.d.play.slack=x.d.play.slack,x.d.play.loose=x.d.play.loose,x.d.play.damp.lo=x.d.play.damp.lo,x.d.play.damp.hi=x.d.play.damp.hi,x.d.wide=x.d.wide,
  x.d.high=x.d.high,x.d.turn=x.d.turn,0=0,x.d.ps.n=x.d.ps.n,cO=cO,0=0,x.scans.n=x.scans.n,cO=cO,0=0,x.hang.n=x.hang.n,cO =
  cO,x.lost=x.lost,x.foreign=x.foreign,x.d.ps.n≤x.d.ps.n,QC 28 x.d.ps.n (fun i=>QA.enc (x.d.ps.get i)) fun i=>QA.enc (x.d.ps.get i),x.scans.n≤x.scans.n,
  QC 28 x.scans.n (fun i=>QA.enc (x.scans.get i)) fun i=>QA.enc (x.scans.get i),x.hang.n≤x.hang.n,QC 4 x.hang.n (fun i=>QA.enc (x.hang.get i)) fun i=>
  QA.enc (x.hang.get i)])) (.leaf (.bool false !decide (KY (jxO x)≥0)) ([]))) (.leaf (.bool true false) ([])))) (.leaf (.bool true false) ([])))) (.leaf (.bool true false)
  ([])))) (.leaf (.bool true false) ([])))) (.leaf (.bool true false) ([]))) (.leaf (.bool true false) ([])):=by kernel_rfl
theorem QTq(hl:x.hang.n≤1000):QZ (QAa QY x):=VH.add (QZO x hl)
theorem QUf(hl:x.hang.n≤1000):QO Try.prog 94 (uFC (cxU x)):=by
 have hE:=QP (QTq x hl);refine JW (E:=mkE Try.prog (QAa QY x)) hE (c:=Qo Try.f94) Try.func94 (by kernel_rfl) (by kernel_rfl) (z9 (Nat.zero_le _) rfl rfl fun _=>rfl) (fun G h1 _=>Qq hE 1 G _ h1) ⟨?_⟩
 refine Qt (QZe QY x) ?_;refine QF (KL.2 ?_) ⟨rfl,rfl,_,QYD x,⟨rfl,trivial⟩⟩
 repeat' first|exact trivial|with_reducible rfl|exact qlr _|exact qRr|refine And.intro ?_ ?_
theorem QYk(hl:x.hang.n≤1000):QZ (Gn QY x):=VH.add (QUf x hl)
def j7:WF (QE×Unit):=fun|(x,_)=>(decide (x.d.ps.n≤1000∧x.scans.n≤1000∧x.hang.n≤1000),.bool false x.ok,[])
def QMF:FC:=wFC j7
theorem QZF(hx:(j7 (x,())).1=true):QO Try.prog 74 (wFC (Je j7 (x,()))):=by
 obtain⟨h1,h2,h3⟩:=qdt hx;have hE:=QP (QYk x h3);refine Xt (c:=Qo Try.f74) (E:=mkE Try.prog (Gn QY x)) (H:=hnd (mkE Try.prog (Gn QY x)) 1) hE Try.func74 (by kernel_rfl) (by kernel_rfl) (N:=8) (by decide) (x,()) (fun G h1 _=>Qq hE 1 G _ h1) ⟨rfl,by simp[j7],rfl⟩ ?_
 refine Qt (QQS QY x) ?_;have no:x.ok=false→(QD.leaf (AV.bool true false) []).den (Xj 8 (j7 (x,())).2.1 (j7 (x,())).2.2):=fun h=>Kk (show false=x.ok by rw[h]) rfl
 refine QI (fun a1=>QI (fun a2=>QF rfl (QI (fun a3=>QF rfl (QI (fun a4=>QF (by simp;omega) (QI (fun a5=>QF (by simp;omega) (QI (fun a6=>QF (KL.2 ?_) (Kk ?_ rfl)) (fun a6=>no ?_))) (fun a5=>no ?_))) (fun a4=>no ?_))) (fun a3=>no ?_))) (fun a2=>no ?_)) (fun a1=>no ?_)
 ·repeat' first|exact trivial|with_reducible rfl|exact qlr _|exact qRr|refine And.intro ?_ ?_
 ·show(!decide (KY (jxO x)≥0))=x.ok;simp only[QE.ok,QE.sz,a1,a2,a3,a4,a5,a6,Bool.true_and]
 ·simp only[QE.ok,a6,Bool.false_and,Bool.and_false]
 ·simp only[QE.ok,a5,Bool.false_and,Bool.and_false]
 ·simp only[QE.ok,QE.sz,a4,Bool.false_and,Bool.and_false]
 ·simp only[QE.ok,QE.sz,a3,Bool.false_and,Bool.and_false]
 ·simp only[QE.ok,QE.sz,a2,Bool.false_and,Bool.and_false]
 ·simp only[QE.ok,QE.sz,a1,Bool.false_and]
theorem QVN:QO Try.prog 74 QMF:=zr (by kernel_rfl) fun|(x,()),h=>QZF x h
def Qj:Tab:=Qd Ke 74 QMF
theorem Qv:QZ Qj:=VH.add QVN
def QH(i:Nat):List QB:=C.getD i []
def Ye(own:Bool)(id:Nat)(C:List (List QB)):Nat×Blk:=(id,.frz2 own 38 [.int .i64,.int .i64] C.length (fun i=>(QH C i).length) fun i j=>QA.enc ((QH C i).getD j ⟨0,0⟩))
def srC:List AV:=JJ 0 x++[.slz 4 0 C.length (.of 0)]
def srB:List (Nat×Blk):=[(3,.cellsR 0 125 (srC x C)),Ye false 4 C]++JY 0 x
def QAI(j:Jn)(a:QB):Int:=(j.i+a.turn).tmod 4
def YE(j:Jn)(a b:QB):Bool:=cond ((a.cell == -2)||(b.cell == -2)) ((a.cell==b.cell)&&((a.turn==b.turn)&&true)) ((Qb x.d.wide x.d.high a.cell (QAI j a)==b.cell)&&((j.j+b.turn).tmod 4==QCV (QAI j a)))
def hgU(j:Jn)(a b:QB):UC:=⟨0,⟨4,[(0,.ptr 3 0 0),(1,Enc.enc j),(2,Enc.enc a),(3,Enc.enc b)],srB x C,8⟩,fun _ => .bool false (YE x j a b),fun _=>[]⟩
theorem QXo(j:Jn)(a b:QB):Jy (mkE Try.prog Qj) (hnd (mkE Try.prog Qj) 1) Try.f95 (hgU x C j a b) =
  QD.br (a.cell==(-2:Int)) (QD.leaf (AV.bool false (a.cell==b.cell&&(a.turn==b.turn&&true))) ([])) (QD.br (b.cell==(-2:Int)) (QD.leaf (AV.bool false (a.cell ==
  b.cell&&(a.turn==b.turn&&true))) ([])) (QD.need (decide (x.d.ps.n≤x.d.ps.n)&&(true&&(true&&true))&&decide (((1:Int)≤x.d.wide∧x.d.wide≤(100:Int))∧((1 :
  Int)≤x.d.high∧x.d.high≤(100:Int))∧(0:Int)≤a.cell∧a.cell≤(100:Int))) (QD.br (Qb x.d.wide x.d.high a.cell ((i64.wrap (j.i+a.turn)).tmod (4:Int)) ==
  b.cell) (QD.need (decide ((0:Int)≤(i64.wrap (j.i+a.turn)).tmod (4:Int)∧(i64.wrap (j.i+a.turn)).tmod (4:Int)≤(3:Int))) (QD.leaf (AV.bool false
  ((i64.wrap (j.j+b.turn)).tmod (4:Int)==QCV ((i64.wrap (j.i+a.turn)).tmod (4:Int)))) ([]))) (QD.leaf (AV.bool true false) ([]))))):=by kernel_rfl
theorem QPS(j:Jn)(a b:QB)(c v:Bool):QL 8 [.bool c v] [] (Kd (hgU x C j a b))=(
  some [v=YE x j a b]):=by kernel_rfl
structure Km (s:QB):Prop where
 cell:s.cell = -2∨0≤s.cell∧s.cell≤100
 turn:0≤s.turn∧s.turn≤3
structure JnB (j:Jn):Prop where
 i:0≤j.i∧j.i≤3
 j:0≤j.j∧j.j≤3
theorem QS0{n:Int}(h:0≤n):0≤n.tmod 4∧n.tmod 4≤3:=by
 have h1:=Int.tmod_nonneg 4 h;have h2:=Int.tmod_lt_of_pos n (show(0:Int)<4 by decide)
 omega
theorem QRU(j:Jn)(a b:QB)(hd:Wx x.d)(hj:JnB j)(ha:Km a)(hb:Km b):QO Try.prog 95 (uFC (hgU x C j a b)):=by
 refine JW (E:=mkE Try.prog Qj) (QP Qv) (c:=Qo Try.f95) Try.func95 (by kernel_rfl) (by kernel_rfl) (z9 (Nat.zero_le _) rfl rfl fun _=>rfl) (fun G h1 _=>Qq (QP Qv) 1 G _ h1) ⟨?_⟩
 refine Qt (QXo x C j a b) ?_;have hw:=hd.w1;have hwn:=hd.wn;have hh:=hd.h1;have hhn:=hd.hn;have h9:=hd.n9;have ha2:=ha.turn;have hb2:=hb.turn;have hi:=hj.i;have hjj:=hj.j;have fin:∀(c v:Bool),v=YE x j a b→(QD.leaf (.bool c v) []).den (Ws (hgU x C j a b)):=fun c v h=>⟨rfl,rfl,_,QPS x C j a b c v,⟨h,trivial⟩⟩;have w1:i64.wrap (j.i+a.turn)=j.i+a.turn:=w64 (by omega) (by omega)
 have w2:i64.wrap (j.j+b.turn)=j.j+b.turn:=w64 (by omega) (by omega)
 have m:=QS0 (n:=j.i+a.turn) (by omega)
 rw[w1,w2];refine QI (fun h=>fin _ _ ?_) (fun h=>QI (fun h2=>fin _ _ ?_) (fun h2=>QF ?_ (QI (fun h3=>QF ?_ (fin _ _ ?_)) (fun h3=>fin _ _ ?_))))
 ·simp only[YE,h,Bool.true_or,cond_true]
 ·simp only[YE,h2,Bool.or_true,cond_true]
 ·have:¬ a.cell = -2:=by simpa using h
  have:=ha.cell;simp only[qlr,decide_true,Bool.true_and,qdE];omega
 ·simp only[qdE];exact m
 ·simp only[YE,h,h2,Bool.or_self,cond_false,QAI,h3,Bool.true_and]
 ·simp only[YE,h,h2,Bool.or_self,cond_false,QAI,h3,Bool.false_and]
def frS(id:Nat)(l:List QB):Nat×Blk:=(id,.frz [.int .i64,.int .i64] l.length fun i=>QA.enc (l.getD i ⟨0,0⟩))
def ftB:List (Nat×Blk):=frS 5 l::srB x C
def ftJ:JSt:=⟨45,[(0,.ptr 3 0 0),(1,.slz 5 0 l.length (.of 0)),(5,.int false .i64 ((l.length:Int)-1)),(15,.slz 2 0 x.hang.n (.of 0)),(16,.int false .i64 x.hang.n),(17,.int false .i64 k)],ftB x C l,32⟩
def QJv:Ex→List Nat
 | .normal=>[0,1,5,15,16,17]
 | .exit _=>[]
 | .ret=>[4]
def QCd:JSt:=⟨45,[(4,.bool false false)],[],32⟩
def QCc:JSt:=⟨45,[],[],32⟩
def QFo:UC:=hgU x C (x.hang.get k) (l.getD (x.hang.get k).a.toNat ⟨0,0⟩) (l.getD (x.hang.get k).b.toNat ⟨0,0⟩)
def QFf(U:UC):Tab:=Qd Qj 95 (Jd pb U)
noncomputable abbrev QIS(l:List QB)(x:QE):List AV:=
  [.nilp,.ptr 45 0 0,.ptr 3 0 0,.slz 5 0 l.length cO,vi ((l.length:Int)-1),.slz 2 0 x.hang.n cO,vi (x.hang.n:Int),.int false
  .i64 (i64.wrap ((k:Int)+1))]
abbrev QK6:List CK:=
  [.int .i64,.int .i64,.int .i64,.int .i64,.int .i64,.int .i64,.int .i64,.int .i64,.int .i64,.int .i64,.int .i64,.int .i64,.int .i64,.int .i64,.int .i64,.int .i64,.int
  .i64,.int .i64,.int .i64,.int .i64,.int .i64,.int .i64,.int .i64,.int .i64,.int .i64,.int .i64,.int .i64,.int .i64]
noncomputable abbrev HH(x:QE):List (Nat×Blk):=
  [(3,.cellsR 0 125 [vi x.d.play.length,vi x.d.play.slack,vi x.d.play.loose,vi x.d.play.damp.lo,.int false .i64
  x.d.play.damp.hi,vi x.d.wide,vi x.d.high,.bool false x.d.turn,.slz 0 0 x.d.ps.n cO,.slz 1 0 x.scans.n cO,.slz 2 0 x.hang.n (Cap.of
  0),vi x.lost,vi x.foreign,.slz 4 0 C.length cO]),(5,.frz [.int .i64,.int .i64] l.length fun i=>QA.enc (l.getD i ⟨0,0⟩)),(2,.frz [.int
  .i64,.int .i64,.int .i64,.int .i64] x.hang.n fun i=>QA.enc (x.hang.get i)),(0,.frz QK6 x.d.ps.n fun i=>QA.enc (x.d.ps.get i)),(1,.frz QK6 x.scans.n fun i=>
  QA.enc (x.scans.get i)),(4,.frz2 false 38 [.int .i64,.int .i64] C.length (fun i=>(QH C i).length) fun i j=>QA.enc ((QH C i).getD j ⟨0,0⟩))]
theorem QS7(g:Nat→Value):exec (mkE Try.prog (QFf pb (QFo x C l k))) (hnd (mkE Try.prog (QFf pb (QFo x C l k))) 0) (QW Try.f78 0) (JSt.inst (ftJ x C l k) g) (KF [] QJv) = .br (decide ((k :
  Int)<(x.hang.n:Int))) (.need (decide ((0:Int)≤(k:Int)∧(k:Int)<(x.hang.n:Int))&&decide (x.hang.n≤x.hang.n)) (.need (decide (k<x.hang.n)) (.br (max (x.hang.get
  k).a (x.hang.get k).b==(l.length:Int)-1) (.need (decide ((0:Int)≤(x.hang.get k).a∧(x.hang.get k).a<(l.length:Int))&&decide (l.length≤l.length)) (.need (decide
  ((x.hang.get k).a.toNat<l.length)) (.need (decide ((0:Int)≤(x.hang.get k).b∧(x.hang.get k).b<(l.length:Int))&&decide (l.length≤l.length)) (.need (decide ((x.hang.get
  k).b.toNat<l.length)) (.need (pb ([0=0,0=0,(x.hang.get k).a=(x.hang.get k).a,(x.hang.get k).i=(x.hang.get k).i,(x.hang.get k).b=(x.hang.get k).b,(x.hang.get k).j =
  (x.hang.get k).j,(l.getD (x.hang.get k).a.toNat ⟨0,0⟩).cell=(l.getD (x.hang.get k).a.toNat ⟨0,0⟩).cell,(l.getD (x.hang.get k).a.toNat ⟨0,0⟩).turn=(l.getD (x.hang.get
  k).a.toNat ⟨0,0⟩).turn,(l.getD (x.hang.get k).b.toNat ⟨0,0⟩).cell=(l.getD (x.hang.get k).b.toNat ⟨0,0⟩).cell,(l.getD (x.hang.get k).b.toNat ⟨0,0⟩).turn=(l.getD (x.hang.get
  k).b.toNat ⟨0,0⟩).turn,x.d.play.length=x.d.play.length,x.d.play.slack=x.d.play.slack,x.d.play.loose=x.d.play.loose,x.d.play.damp.lo=x.d.play.damp.lo,x.d.play.damp.hi =
  x.d.play.damp.hi,x.d.wide=x.d.wide,x.d.high=x.d.high,x.d.turn=x.d.turn,0=0,x.d.ps.n=x.d.ps.n,cO=cO,0=0,x.scans.n=x.scans.n,cO=cO,
  0=0,x.hang.n=x.hang.n,cO=cO,x.lost=x.lost,x.foreign=x.foreign,0=0,C.length=C.length,cO=cO,C.length=C.length,KM 2 C.length
  (fun i=>(QH C i).length) (fun i=>(QH C i).length) (fun i j=>QA.enc ((QH C i).getD j ⟨0,0⟩)) fun i j=>QA.enc ((QH C i).getD j ⟨0,0⟩),x.d.ps.n≤x.d.ps.n,
  QC 28 x.d.ps.n (fun i=>QA.enc (x.d.ps.get i)) fun i=>QA.enc (x.d.ps.get i),x.scans.n≤x.scans.n,QC 28 x.scans.n (fun i=>QA.enc (x.scans.get i)) fun i=>
  QA.enc (x.scans.get i),x.hang.n≤x.hang.n,QC 4 x.hang.n (fun i=>QA.enc (x.hang.get i)) fun i=>QA.enc (x.hang.get i)])) (.br (!YE x (x.hang.get k) (l.getD
  (x.hang.get k).a.toNat ⟨0,0⟩) (l.getD (x.hang.get k).b.toNat ⟨0,0⟩)) (.leaf (.tup [.nili,.ptr 45 0 0,.bool true false]) ([])) (.leaf (.tup (QIS k l x)) ((HH C l x)))))))))
  (.leaf (.tup (QIS k l x)) ((HH C l x)))))) (.leaf (.tup [.ptr 0 0 0,.ptr 45 0 0]) ([])):=by kernel_rfl
theorem QaA :QL 8 [AV.bool true false] ([]) QCd=(
  some [false=false]):=by kernel_rfl
noncomputable abbrev QKU(l:List QB)(x:QE):List AV:=
  [.ptr 3 0 0,.slz 5 0 l.length cO,vi ((l.length:Int)-1),.slz 2 0 x.hang.n cO,vi (x.hang.n:Int),vi (i64.wrap
  ((k:Int)+1))]
abbrev QIn(k':Nat)(l:List QB)(x:QE):List Prop:=
  [0=0,0=0,0=0,l.length=l.length,cO=cO,(l.length:Int)-1=(l.length:Int)-1,0=0,x.hang.n=x.hang.n,cO=cO,(x.hang.n:Int) =
  (x.hang.n:Int),i64.wrap ((k:Int)+1)=(k':Int),l.length≤l.length,QC 2 l.length (fun i=>QA.enc (l.getD i ⟨0,0⟩)) fun i=>QA.enc (l.getD i ⟨0,0⟩),
  x.d.play.length=x.d.play.length,x.d.play.slack=x.d.play.slack,x.d.play.loose=x.d.play.loose,x.d.play.damp.lo=x.d.play.damp.lo,x.d.play.damp.hi=x.d.play.damp.hi,
  x.d.wide=x.d.wide,x.d.high=x.d.high,x.d.turn=x.d.turn,0=0,x.d.ps.n=x.d.ps.n,cO=cO,0=0,x.scans.n=x.scans.n,cO=cO,0=0,x.hang.n =
  x.hang.n,cO=cO,x.lost=x.lost,x.foreign=x.foreign,0=0,C.length=C.length,cO=cO,C.length=C.length,KM 2 C.length (fun i=>(QH C
  i).length) (fun i=>(QH C i).length) (fun i j=>QA.enc ((QH C i).getD j ⟨0,0⟩)) fun i j=>QA.enc ((QH C i).getD j ⟨0,0⟩),x.d.ps.n≤x.d.ps.n,QC 28 x.d.ps.n (fun
  i=>QA.enc (x.d.ps.get i)) fun i=>QA.enc (x.d.ps.get i),x.scans.n≤x.scans.n,QC 28 x.scans.n (fun i=>QA.enc (x.scans.get i)) fun i=>QA.enc (x.scans.get i),
  x.hang.n≤x.hang.n,QC 4 x.hang.n (fun i=>QA.enc (x.hang.get i)) fun i=>QA.enc (x.hang.get i)]
theorem QPU(k k':Nat):QL 8 (QKU k l x) ((HH C l x)) (ftJ x C l k')=(some (QIn C k k' l x)):=by kernel_rfl
theorem QZ8(k k':Nat):QL 8 (QKU k l x) ((HH C l x)) (ftJ x C l k')=(some (QIn C k k' l x)):=by kernel_rfl
theorem QQr :QL 8 [] ([]) QCc=(
  some []):=by kernel_rfl
theorem QU(m:Nat)(n:Nat)(ln:Nat→Nat)(g:Nat→Nat→Nat→Int):KM m n ln ln g g:=fun _ _=>⟨rfl,qRr⟩
def Y5:Bool:=max (x.hang.get k).a (x.hang.get k).b==(l.length:Int)-1
def VL:Bool:=Y5 x l k && !YE x (x.hang.get k) (l.getD (x.hang.get k).a.toNat ⟨0,0⟩) (l.getD (x.hang.get k).b.toNat ⟨0,0⟩)
def KS:Bool:=(QQ (VL x l) x.hang.n 0).isNone
structure Ko (x:QE):Prop where
 d:Wx x.d
 n:x.hang.n≤12
 s:x.scans.n≤12
 j:∀ k,k<x.hang.n→JnB (x.hang.get k)∧(0≤(x.hang.get k).a∧(x.hang.get k).a<x.scans.n)∧0≤(x.hang.get k).b∧(x.hang.get k).b<x.scans.n
structure jJ (l:List QB):Prop where
 pos:0<l.length
 le:l.length≤1000
 s:∀ i,i<l.length→Km (l.getD i ⟨0,0⟩)
noncomputable def Gp:List Prop→Bool:=match decide (k<x.hang.n)&&Y5 x l k with
 | true=>QY
 | false=>fun _=>false
noncomputable def W6(P:Program)(x:QE)(C:List (List QB))(l:List QB)(k:Nat):Env:=mkE P (QFf (Gp x l k) (QFo x C l k))
theorem QOm{x:QE}{l:List QB}(hx:Ko x)(hl:jJ l){k:Nat}(hk:k<x.hang.n)(hm:Y5 x l k=true):(0≤(x.hang.get k).a∧(x.hang.get k).a<l.length)∧0≤(x.hang.get k).b∧(x.hang.get k).b<l.length:=by
 obtain⟨_,h1,h2⟩:=hx.j k hk;have:=hl.pos;simp only[Y5,beq_iff_eq]at hm;omega
theorem QIU{x:QE}{C:List (List QB)}{l:List QB}(hx:Ko x)(hl:jJ l)(k:Nat):(W6 Try.prog x C l k).Sound:=by
 unfold W6 Gp;split
 ·rename_i hc;simp only[qbA,qdE]at hc;obtain⟨h1,h2⟩:=QOm hx hl hc.1 hc.2;exact QP (Qv.add (QRU x C _ _ _ hx.d (hx.j k hc.1).1 (hl.s _ (by omega)) (hl.s _ (by omega))))
 ·exact QP (Qv.add (ZA (by kernel_rfl) _))
def ftR(e:Ex)(J:JSt):Prop:=(e = .ret∧(QQ (VL x l) (x.hang.n-k) k).isNone=false∧J=QCd)∨(e = .exit 0∧(QQ (VL x l) (x.hang.n-k) k).isNone=true∧J=QCc)
theorem QQ5(hx:Ko x)(hl:jJ l):qD (ftJ x C l) (fun k=>k≤x.hang.n) (fun k=>x.hang.n-k) (ftR x l) 8 QJv [] (W6 Try.prog x C l) (fun k=>hnd (W6 Try.prog x C l k) 0) (QW Try.f78 0):=by
 refine⟨fun k g hk => ?_⟩;unfold W6;refine Qt (QS7 (Gp x l k) x C l k g) ?_;have h12:=hx.n;refine QI (fun h => ?_) (fun h => ?_)
 ·have h:k<x.hang.n:=by have:=qdt h;omega
  obtain⟨m,hm⟩:∃ m,x.hang.n-k=m+1:=⟨x.hang.n-k-1,by omega⟩
  have hm':x.hang.n-(k+1)=m:=by omega
  have hw:i64.wrap ((k:Int)+1)=((k+1:Nat):Int):=(w64 (by omega) (by omega)).trans (by omega)
  have go:VL x l k=false→∀ e J,ftR x l (k+1) e J→ftR x l k e J:=fun q e J h=>by
   have hf:QQ (VL x l) (x.hang.n-k) k=QQ (VL x l) (x.hang.n-(k+1)) (k+1):=by rw[hm,hm',QQ,q]
   unfold ftR at h ⊢;rw[hf];exact h
  refine QF (by simp;omega) (QF (by simp;omega) (QI (fun hb => ?_) (fun hb => ?_)))
  ·have hb:Y5 x l k=true:=hb;obtain⟨i1,i2⟩:=QOm hx hl h hb;have hpb:Gp x l k=QY:=by simp only[Gp,hb,decide_eq_true h,Bool.and_self]
   rw[hpb];refine QF (by simp;omega) (QF (by simp;omega) (QF (by simp;omega) (QF (by simp;omega) (QF (KL.2 ?_) (QI (fun hq => ?_) (fun hq => ?_))))))
   ·repeat' first|exact trivial|with_reducible rfl|exact qlr _|exact qRr|exact QU _ _ _ _|refine And.intro ?_ ?_
   ·have q:VL x l k=true:=by simp only[VL,hb,Bool.true_and];exact hq
    have hf:QQ (VL x l) (x.hang.n-k) k=some k:=by rw[hm,QQ,q]
    exact⟨_,.inl ⟨rfl,by rw[hf];rfl,rfl⟩,rfl,rfl,_,QaA,⟨rfl,trivial⟩⟩
   ·have q:VL x l k=false:=by simp only[VL,hb,Bool.true_and];exact hq
    refine⟨k+1,by show k+1≤x.hang.n;omega,by show x.hang.n-(k+1)<x.hang.n-k;omega,go q,rfl,rfl,_,QPU x C l k (k+1),?_⟩
    repeat' first|exact trivial|with_reducible rfl|exact qlr _|exact qRr|exact QU _ _ _ _|exact hw|refine And.intro ?_ ?_
  ·have hb:Y5 x l k=false:=hb;have q:VL x l k=false:=by simp only[VL,hb,Bool.false_and]
   refine⟨k+1,by show k+1≤x.hang.n;omega,by show x.hang.n-(k+1)<x.hang.n-k;omega,go q,rfl,rfl,_,QZ8 x C l k (k+1),?_⟩
   repeat' first|exact trivial|with_reducible rfl|exact qlr _|exact qRr|exact QU _ _ _ _|exact hw|refine And.intro ?_ ?_
 ·have h:x.hang.n≤k:=by have:=of_decide_eq_false h;omega
  have hf:QQ (VL x l) (x.hang.n-k) k=none:=by rw[show x.hang.n-k=0 by omega];rfl
  exact⟨_,.inr ⟨rfl,by rw[hf];rfl,rfl⟩,rfl,rfl,_,QQr,trivial⟩
def ftX:List (Prop×Ex×JSt):=[(KS x l=false,.ret,QCd),(KS x l=true,.exit 0,QCc)]
abbrev ftH(P:Program)(x:QE)(C:List (List QB))(l:List QB):Hnd:={ hnd (mkE P Qj) 1 with loop:=fun _=>Q7 8 [] (ftJ x C l (0:Nat)) (ftX x l) }
theorem QW6(hx:Ko x)(hl:jJ l)(G:Ctx)(hrd:G.rd=none)(hG:G.n=8):Q1 (mkE Try.prog Qj) G (ftH Try.prog x C l) (Qo Try.f78):=by
 refine JF (body:=QW Try.f78 0) (QP Qv) hrd (by kernel_rfl) ?_
 refine vz (E0:=mkE Try.prog Qj) (E:=W6 Try.prog x C l) (H:=fun k=>hnd (W6 Try.prog x C l k) 0) (n0:=8) (s0:=0) (fun _=>rfl) (QIU hx hl) (by omega) (fun k _=>Qq (QIU hx hl k) 0 G _ hrd) (fun k _=>(by decide:8≤32)) ?_ (QQ5 x C l hx hl) (Nat.zero_le _) ?_
 ·rintro s e J (⟨_,_,rfl⟩|⟨_,_,rfl⟩)<;>exact(by decide:8≤32)
 ·rintro e J (⟨rfl,h,rfl⟩|⟨rfl,h,rfl⟩)
  ·exact⟨_,List.mem_cons_self,h,rfl,rfl⟩
  ·exact⟨_,List.mem_cons_of_mem _ List.mem_cons_self,h,rfl,rfl⟩
def ftU:UC:=⟨0,⟨2,[(0,.ptr 3 0 0),(1,.slz 5 0 l.length (.of 0))],ftB x C l,8⟩,fun _ => .bool false (KS x l),fun _=>[]⟩
theorem QSH :Jy (mkE Try.prog Qj) (ftH Try.prog x C l) Try.f78 (ftU x C l) = .ask (0=0) (.ask (0=0) (.ask (0=0) (.ask (l.length=l.length) (.ask (cO=cO) (.ask
  (i64.wrap ((l.length:Int)-1)=(l.length:Int)-1) (.ask (0=0) (.ask (x.hang.n=x.hang.n) (.ask (cO=cO) (.ask ((x.hang.n:Int)=(x.hang.n:Int))
  (.ask ((0:Int)=0) (.ask (l.length≤l.length) (.ask (QC 2 l.length (fun i=>QA.enc (l.getD i ⟨0,0⟩)) fun i=>QA.enc (l.getD i ⟨0,0⟩)) (.ask (x.d.play.length =
  x.d.play.length) (.ask (x.d.play.slack=x.d.play.slack) (.ask (x.d.play.loose=x.d.play.loose) (.ask (x.d.play.damp.lo=x.d.play.damp.lo) (.ask (x.d.play.damp.hi =
  x.d.play.damp.hi) (.ask (x.d.wide=x.d.wide) (.ask (x.d.high=x.d.high) (.ask (x.d.turn=x.d.turn) (.ask (0=0) (.ask (x.d.ps.n=x.d.ps.n) (.ask (cO=cO) (.ask (0
  = 0) (.ask (x.scans.n=x.scans.n) (.ask (cO=cO) (.ask (0=0) (.ask (x.hang.n=x.hang.n) (.ask (cO=cO) (.ask (x.lost=x.lost) (.ask (x.foreign =
  x.foreign) (.ask (0=0) (.ask (C.length=C.length) (.ask (cO=cO) (.ask (C.length=C.length) (.ask (KM 2 C.length (fun i=>(QH C i).length) (fun i=>(QH C
  i).length) (fun i j=>QA.enc ((QH C i).getD j ⟨0,0⟩)) fun i j=>QA.enc ((QH C i).getD j ⟨0,0⟩)) (.ask (x.d.ps.n≤x.d.ps.n) (.ask (QC 28 x.d.ps.n (fun i=>QA.enc
  (x.d.ps.get i)) fun i=>QA.enc (x.d.ps.get i)) (.ask (x.scans.n≤x.scans.n) (.ask (QC 28 x.scans.n (fun i=>QA.enc (x.scans.get i)) fun i=>QA.enc (x.scans.get i))
  (.ask (x.hang.n≤x.hang.n) (.ask (QC 4 x.hang.n (fun i=>QA.enc (x.hang.get i)) fun i=>QA.enc (x.hang.get i)) (.both (.asm (KS x l=false) (.all (fun(g0:Nat →
  Value) => .leaf (.bool false false) ([])))) (.asm (KS x l=true) (.all (fun(g1:Nat→Value) => .leaf (.bool true true) ([]))))))))))))))))))))))))))))))))))))))))))))))):=by kernel_rfl
theorem QJ1(c v:Bool):QL 8 [.bool c v] [] (Kd (ftU x C l))=(
  some [v=KS x l]):=by kernel_rfl
theorem Hc(hx:Ko x)(hl:jJ l):QO Try.prog 78 (uFC (ftU x C l)):=by
 refine JW (E:=mkE Try.prog Qj) (QP Qv) Try.func78 (by kernel_rfl) (by kernel_rfl) (z9 (Nat.zero_le _) rfl rfl fun _=>rfl) (QW6 x C l hx hl) ⟨?_⟩
 refine Qt (QSH x C l) ?_;have hp:=hl.pos;have hle:=hl.le;have hw:i64.wrap ((l.length:Int)-1)=(l.length:Int)-1:=w64 (by omega) (by omega)
 repeat' first|refine QF rfl ?_|refine QR (show _=_ by with_reducible rfl) ?_|refine QR (show _≤_ from qlr _) ?_|refine QR (show QC _ _ _ _ from qRr) ?_|refine QR (show KM _ _ _ _ _ _ from QU _ _ _ _) ?_|refine QR (p:=i64.wrap ((l.length:Int)-1)=(l.length:Int)-1) hw ?_
 refine Xf (KA fun h=>Q6 fun g => ?_) (KA fun h=>Q6 fun g => ?_)
 ·exact⟨rfl,rfl,_,QJ1 x C l _ _,⟨h.symm,trivial⟩⟩
 ·exact⟨rfl,rfl,_,QJ1 x C l _ _,⟨h.symm,trivial⟩⟩
end Go.Proofs.Ytbpffdkemeoajaa
namespace Go.SX
open Go Go.RowKit Go.Proofs.Ytbpffdkemeoajaa
def Yt(fc:FC):FC:=fun args nid _=>fc args nid (XW (AV.idsFromL 0 args) [])
theorem Zd{P:Program}{f:FuncId}{fc:FC}(h:QO P f fc):QO P f (Yt fc):=
 ⟨h.1,fun args nid _ r w lk blks eff hH ha hv he hp=>h.2 args nid (XW (AV.idsFromL 0 args) []) r w lk blks eff hH ha hv he hp⟩
end Go.SX
namespace Go.Proofs.Ytbpffdkemeoajaa
open Go.SX
def V2:Tab:=Qd Qj 43 (Yt QFq)
theorem vG:QZ V2:=Qv.add (Zd QJe)
def jt:QB:=⟨-2,0⟩
variable (x:QE)(C:List (List QB))(l:List QB)(k:Nat)
def WH:List QB:=jt::KP x.d (x.scans.get k) x.d.ps.n
def Qk(x:QE):Nat→List (List QB)
 | 0=>[]
 | k+1=>Qk x k++[WH x k]
def srO(id c:Nat)(x:QE)(C:List (List QB)):List (Nat×Blk):=[(id,.cells 0 125 (JJ 0 x++[.slz c 0 C.length (.of 0)])),Ye true c C]
def nsJ:JSt:=⟨34,[(1,.ptr 8 0 0),(3,.ptr 16 0 0),(10,.slz 1 0 x.scans.n (.of 0)),(11,.int false .i64 x.scans.n),(12,.int false .i64 k)],[(8,.cells 0 50 (JJ 0 x))]++srO 16 24 x C++JY 0 x,40⟩
def QMb:Ex→List Nat
 | .normal=>[1,3,10,11,12]
 | .exit _=>[3]
 | .ret=>[]
def nsE:JSt:=⟨34,[(3,.ptr 16 0 0)],srO 16 24 x C++JY 0 x,40⟩
abbrev H5:List CK:=
  [.int .i64,.int .i64,.int .i64,.int .i64,.int .i64,.int .i64,.int .i64,.int .i64,.int .i64,.int .i64,.int .i64,.int .i64,.int .i64,.int .i64,.int .i64,.int .i64,.int
  .i64,.int .i64,.int .i64,.int .i64,.int .i64,.int .i64,.int .i64,.int .i64,.int .i64,.int .i64,.int .i64,.int .i64]
noncomputable abbrev QH2(x:QE):List (Nat×Blk):=
  [(8,.cells 0 50 [vi x.d.play.length,vi x.d.play.slack,vi x.d.play.loose,vi x.d.play.damp.lo,.int false .i64
  x.d.play.damp.hi,vi x.d.wide,vi x.d.high,.bool false x.d.turn,.slz 0 0 x.d.ps.n cO,.slz 1 0 x.scans.n cO,.slz 2 0 x.hang.n (Cap.of
  0),vi x.lost,vi x.foreign]),(16,.cells 0 125 [vi x.d.play.length,vi x.d.play.slack,vi x.d.play.loose,.int
  false .i64 x.d.play.damp.lo,vi x.d.play.damp.hi,vi x.d.wide,vi x.d.high,.bool false x.d.turn,.slz 0 0 x.d.ps.n cO,.slz 1 0
  x.scans.n cO,.slz 2 0 x.hang.n cO,vi x.lost,vi x.foreign,.slz 184 0 (C.length+1) cO]),(1,.frz H5 x.scans.n fun i=>
  QA.enc (x.scans.get i)),(0,.frz H5 x.d.ps.n fun i=>QA.enc (x.d.ps.get i)),(2,.frz [.int .i64,.int .i64,.int .i64,.int .i64] x.hang.n fun i=>QA.enc (x.hang.get
  i)),(184,.frz2 true 38 [.int .i64,.int .i64] (C.length+1) (X1 C.length (fun i=>(QH C i).length) (1+(KP x.d (x.scans.get k) x.d.ps.n).length)) (Yi C.length (fun i
  j=>QA.enc ((QH C i).getD j ⟨0,0⟩)) (Qa 1 (QS [[vj (-2),vj 0]] 0) fun i=>QA.enc ((KP x.d (x.scans.get k) x.d.ps.n).getD i ⟨0,0⟩))))]
noncomputable abbrev QM6(x:QE):List (Nat×Blk):=
  [(16,.cells 0 125 [vi x.d.play.length,vi x.d.play.slack,vi x.d.play.loose,vi x.d.play.damp.lo,.int false .i64
  x.d.play.damp.hi,vi x.d.wide,vi x.d.high,.bool false x.d.turn,.slz 0 0 x.d.ps.n cO,.slz 1 0 x.scans.n cO,.slz 2 0 x.hang.n (Cap.of
  0),vi x.lost,vi x.foreign,.slz 24 0 C.length cO]),(0,.frz H5 x.d.ps.n fun i=>QA.enc (x.d.ps.get i)),(1,.frz H5 x.scans.n fun i=>
  QA.enc (x.scans.get i)),(2,.frz [.int .i64,.int .i64,.int .i64,.int .i64] x.hang.n fun i=>QA.enc (x.hang.get i)),(24,.frz2 true 38 [.int .i64,.int .i64] C.length (fun
  i=>(QH C i).length) fun i j=>QA.enc ((QH C i).getD j ⟨0,0⟩))]
theorem QY9(g:Nat→Value):exec (mkE Try.prog V2) (hnd (mkE Try.prog V2) 0) (QW Try.f75 0) (JSt.inst (nsJ x C k) g) (KF [] QMb) = .br (decide ((k:Int)<(x.scans.n:Int))) (.need (decide ((0
  : Int)≤(k:Int)∧(k:Int)<(x.scans.n:Int))&&decide (x.scans.n≤x.scans.n)) (.need (decide (k<x.scans.n)) (.need (decide (x.d.ps.n≤x.d.ps.n)&&(true&&true) &&
  decide (x.d.ps.n≤900)) (.need (true&&(decide ((KP x.d (x.scans.get k) x.d.ps.n).length≤(KP x.d (x.scans.get k) x.d.ps.n).length)&&decide ((1+(KP x.d (x.scans.get
  k) x.d.ps.n).length+(1+(KP x.d (x.scans.get k) x.d.ps.n).length) / 4+192)*16≤281474976710656∧1+(KP x.d (x.scans.get k) x.d.ps.n).length≤9223372036854775807)))
  (.need (decide (C.length=C.length)&&(decide (1+(KP x.d (x.scans.get k) x.d.ps.n).length≤1+(KP x.d (x.scans.get k) x.d.ps.n).length)&&decide ((C.length+1 +
  (C.length+1) / 4+192)*24≤281474976710656∧C.length+1≤9223372036854775807))) (.leaf (.tup [.nilp,.ptr 34 0 0,.ptr 8 0 0,.ptr 16 0 0,.slz 1 0 x.scans.n cO,
  .int false .i64 (x.scans.n:Int),vi (i64.wrap ((k:Int)+1))]) ((QH2 C k x)))))))) (.leaf (.tup [.ptr 0 0 0,.ptr 34 0 0,.ptr 16 0 0]) ((QM6 C x))):=by kernel_rfl
abbrev QDB:List Prop:=
  [x.d.play.slack=x.d.play.slack,x.d.play.loose=x.d.play.loose,x.d.play.damp.lo=x.d.play.damp.lo,x.d.play.damp.hi=x.d.play.damp.hi,x.d.wide=x.d.wide,x.d.high =
  x.d.high,x.d.turn=x.d.turn,0=0,x.d.ps.n=x.d.ps.n,cO=cO,0=0,x.scans.n=x.scans.n,cO=cO,0=0,x.hang.n=x.hang.n,cO=cO]
abbrev QJM:List Prop:=
  [x.d.ps.n≤x.d.ps.n,QC 28 x.d.ps.n (fun i=>QA.enc (x.d.ps.get i)) fun i=>QA.enc (x.d.ps.get i),x.scans.n≤x.scans.n,QC 28 x.scans.n (fun i=>QA.enc
  (x.scans.get i)) fun i=>QA.enc (x.scans.get i),x.hang.n≤x.hang.n,QC 4 x.hang.n (fun i=>QA.enc (x.hang.get i)) fun i=>QA.enc (x.hang.get i)]
theorem QYC(C C':List (List QB))(k k':Nat):QL 8 [.ptr 8 0 0,.ptr 16 0 0,.slz 1 0 x.scans.n cO,vi (x.scans.n:Int),vi (i64.wrap ((k:Int)+1))] ((QH2 C k x)) (nsJ x C' k') =
  (some ([0=0,0=0,0=0,0=0,0=0,x.scans.n=x.scans.n,cO=cO,(x.scans.n:Int)=(x.scans.n:Int),i64.wrap ((k:Int)+1)=(k':Int),
  x.d.play.length=x.d.play.length]++(QDB x)++[x.lost=x.lost,x.foreign=x.foreign,x.d.play.length=x.d.play.length]++(QDB x)++[x.lost=x.lost,x.foreign=x.foreign,
  0=0,C.length+1=C'.length,cO=cO,C.length+1=C'.length,KM 2 C'.length (X1 C.length (fun i=>(QH C i).length) (1+(KP x.d (x.scans.get k)
  x.d.ps.n).length)) (fun i=>(QH C' i).length) (Yi C.length (fun i j=>QA.enc ((QH C i).getD j ⟨0,0⟩)) (Qa 1 (QS [[vj (-2),vj 0]] 0) fun i
  => QA.enc ((KP x.d (x.scans.get k) x.d.ps.n).getD i ⟨0,0⟩))) fun i j=>QA.enc ((QH C' i).getD j ⟨0,0⟩)]++(QJM x))):=by kernel_rfl
theorem QVZ(C C':List (List QB)):QL 8 [.ptr 16 0 0] ((QM6 C x)) (nsE x C')=(some ([0=0,0=0,x.d.play.length=x.d.play.length]++(QDB x)++[x.lost=x.lost,x.foreign=x.foreign,0=0,C.length =
  C'.length,cO=cO,C.length=C'.length,KM 2 C'.length (fun i=>(QH C i).length) (fun i=>(QH C' i).length) (fun i j=>QA.enc ((QH C i).getD j ⟨0,0⟩))
  fun i j=>QA.enc ((QH C' i).getD j ⟨0,0⟩)]++(QJM x))):=by kernel_rfl
theorem QC2(w:List QB)(i:Nat):QH (C++[w]) i=if i<C.length then QH C i else if i=C.length then w else []:=by
 unfold QH;rw[List.getD_eq_getElem?_getD,List.getD_eq_getElem?_getD]
 by_cases h:i<C.length
 ·rw[if_pos h,List.getElem?_append_left h]
 ·rw[if_neg h,List.getElem?_append_right (by omega)]
  by_cases h2:i=C.length
  ·subst h2;simp
  ·rw[if_neg h2,List.getElem?_eq_none (by simp;omega)];rfl
theorem QPa:QC 2 (1+l.length) (Qa 1 (QS [[AV.int true .i64 (-2),AV.int true .i64 0]] 0) fun i=>QA.enc (l.getD i ⟨0,0⟩)) fun i=>QA.enc ((jt::l).getD i ⟨0,0⟩):=by
 intro i hi;cases i with
 | zero=>exact⟨rfl,rfl,trivial⟩
 | succ i=>
  refine⟨?_,?_,trivial⟩ <;>
   (show Qa 1 _ _ (i+1) _=_
    rw[X6,if_neg (by omega)]
    simp)
theorem QYp:KM 2 (C++[jt::l]).length (X1 C.length (fun i=>(QH C i).length) (1+l.length)) (fun i=>(QH (C++[jt::l]) i).length)
  (Yi C.length (fun i j=>QA.enc ((QH C i).getD j ⟨0,0⟩)) (Qa 1 (QS [[AV.int true .i64 (-2),AV.int true .i64 0]] 0) fun i=>QA.enc (l.getD i ⟨0,0⟩))) (fun i j=>QA.enc ((QH (C++[jt::l]) i).getD j ⟨0,0⟩)):=by
 intro i hi;rw[List.length_append,List.length_singleton]at hi
 by_cases h:i<C.length
 ·simp only[X1,Yi,vV h,QC2,if_pos h];exact⟨trivial,qRr⟩
 ·have e:i=C.length:=by omega
  simp only[X1,Yi,jz h,QC2,if_neg h,if_pos e];refine⟨by simp;omega,?_⟩
  have:=QPa l;rw[show(jt::l).length=1+l.length by simp;omega]
  exact this
theorem ZJ(x:QE):∀ k,(Qk x k).length=k
 | 0=>rfl
 | k+1=>by simp[Qk,ZJ x k]
theorem QXV(hn:x.d.ps.n≤900)(hs:x.scans.n≤1000):K0 (fun k=>nsJ x (Qk x k) k) (fun k=>k≤x.scans.n) (fun k=>x.scans.n-k) (fun _ e J=>e = .exit 0∧J=nsE x (Qk x x.scans.n)) 8 QMb [] (mkE Try.prog V2) (fun _=>hnd (mkE Try.prog V2) 0) (QW Try.f75 0):=by
 refine⟨fun k g hk=>Qt (QY9 x _ k g) ?_⟩;have hlen:=ZJ x k;refine QI (fun h => ?_) (fun h => ?_)
 ·have h:k<x.scans.n:=by have:=qdt h;omega
  have hw:i64.wrap ((k:Int)+1)=((k+1:Nat):Int):=(w64 (by omega) (by omega)).trans (by omega)
  have hl:=G6 x.d (x.scans.get k) x.d.ps.n;refine QF (by simp;omega) (QF (by simp;omega) (QF (by simp;omega) (QF (by simp;omega) (QF (by simp;omega) ?_))))
  refine⟨k+1,h,by show x.scans.n-(k+1)<x.scans.n-k;omega,fun _ _ h=>h,rfl,rfl,_,QYC x (Qk x k) (Qk x (k+1)) k (k+1),?_⟩
  have e2:(Qk x k).length+1=(Qk x (k+1)).length:=by rw[ZJ,ZJ]
  repeat' first|exact trivial|with_reducible rfl|exact qlr _|exact qRr|exact hw|exact e2|exact QYp _ _|refine And.intro ?_ ?_
 ·have:k=x.scans.n:=by have:=of_decide_eq_false h;omega
  subst this;refine⟨_,⟨rfl,rfl⟩,rfl,rfl,_,QVZ x _ _,?_⟩
  repeat' first|exact trivial|with_reducible rfl|exact qlr _|exact qRr|exact QU _ _ _ _|refine And.intro ?_ ?_
abbrev nsH(P:Program)(x:QE)(C:List (List QB)):Hnd:={ hnd (mkE P V2) 1 with loop:=fun _=>Q7 8 [] (nsJ x [] (0:Nat)) [(True,.exit 0,nsE x C)] }
theorem QUc(hn:x.d.ps.n≤900)(hs:x.scans.n≤1000)(G:Ctx)(hrd:G.rd=none)(hG:G.n=8):Q1 (mkE Try.prog V2) G (nsH Try.prog x (Qk x x.scans.n)) (Qo Try.f75):=by
 refine JF (body:=QW Try.f75 0) (QP vG) hrd (by kernel_rfl) ?_
 refine JG (n0:=8) (QP vG) (by omega) (fun s hs=>Qq (QP vG) 0 G _ hrd) (fun s hs=>(by decide:8≤40)) ?_ (QXV x hn hs) (s0:=0) (Nat.zero_le _) ?_
 ·rintro s e J ⟨_,rfl⟩;exact(by decide:8≤40)
 ·rintro e J ⟨rfl,rfl⟩;exact⟨_,List.mem_cons_self,trivial,rfl,rfl⟩
def nsU:UC:=⟨8,⟨1,[(0,.agg (JJ 0 x))],JY 0 x,8⟩,fun m => .ptr m 0 0,fun m=>srO m (m+1) x C⟩
abbrev QG2:List CK:=
  [.int .i64,.int .i64,.int .i64,.int .i64,.int .i64,.int .i64,.int .i64,.int .i64,.int .i64,.int .i64,.int .i64,.int .i64,.int .i64,.int .i64,.int .i64,.int .i64,.int
  .i64,.int .i64,.int .i64,.int .i64,.int .i64,.int .i64,.int .i64,.int .i64,.int .i64,.int .i64,.int .i64,.int .i64]
noncomputable abbrev QLi(x:QE):List (Nat×Blk):=
  [(16,.cells 0 125 [vi x.d.play.length,vi x.d.play.slack,vi x.d.play.loose,vi x.d.play.damp.lo,.int false .i64
  x.d.play.damp.hi,vi x.d.wide,vi x.d.high,.bool false x.d.turn,.slz 0 0 x.d.ps.n cO,.slz 1 0 x.scans.n cO,.slz 2 0 x.hang.n (Cap.of
  0),vi x.lost,vi x.foreign,.slz 24 0 C.length cO]),(0,.frz QG2 x.d.ps.n fun i=>QA.enc (x.d.ps.get i)),(1,.frz QG2 x.scans.n fun i=>
  QA.enc (x.scans.get i)),(2,.frz [.int .i64,.int .i64,.int .i64,.int .i64] x.hang.n fun i=>QA.enc (x.hang.get i)),(24,.frz2 true 38 [.int .i64,.int .i64] C.length (fun
  i=>(QH C i).length) fun i j=>QA.enc ((QH C i).getD j ⟨0,0⟩))]
theorem QXr :Jy (mkE Try.prog V2) (nsH Try.prog x C) Try.f75 (nsU x C) = .ask (0=0) (.ask (0=0) (.ask (0=0) (.ask (0=0) (.ask (0=0) (.ask (x.scans.n=x.scans.n) (.ask (cO
  = cO) (.ask ((x.scans.n:Int)=(x.scans.n:Int)) (.ask ((0:Int)=0) (.ask (x.d.play.length=x.d.play.length) (.ask (x.d.play.slack=x.d.play.slack) (.ask
  (x.d.play.loose=x.d.play.loose) (.ask (x.d.play.damp.lo=x.d.play.damp.lo) (.ask (x.d.play.damp.hi=x.d.play.damp.hi) (.ask (x.d.wide=x.d.wide) (.ask (x.d.high=x.d.high)
  (.ask (x.d.turn=x.d.turn) (.ask (0=0) (.ask (x.d.ps.n=x.d.ps.n) (.ask (cO=cO) (.ask (0=0) (.ask (x.scans.n=x.scans.n) (.ask (cO=cO) (.ask (0 =
  0) (.ask (x.hang.n=x.hang.n) (.ask (cO=cO) (.ask (x.lost=x.lost) (.ask (x.foreign=x.foreign) (.ask (x.d.play.length=x.d.play.length) (.ask (x.d.play.slack =
  x.d.play.slack) (.ask (x.d.play.loose=x.d.play.loose) (.ask (x.d.play.damp.lo=x.d.play.damp.lo) (.ask (x.d.play.damp.hi=x.d.play.damp.hi) (.ask (x.d.wide=x.d.wide) (.ask
  (x.d.high=x.d.high) (.ask (x.d.turn=x.d.turn) (.ask (0=0) (.ask (x.d.ps.n=x.d.ps.n) (.ask (cO=cO) (.ask (0=0) (.ask (x.scans.n=x.scans.n) (.ask (cO =
  cO) (.ask (0=0) (.ask (x.hang.n=x.hang.n) (.ask (cO=cO) (.ask (x.lost=x.lost) (.ask (x.foreign=x.foreign) (.ask (0=0) (.ask (0=0) (.ask (x.d.ps.n ≤
  x.d.ps.n) (.ask (QC 28 x.d.ps.n (fun i=>QA.enc (x.d.ps.get i)) fun i=>QA.enc (x.d.ps.get i)) (.ask (x.scans.n≤x.scans.n) (.ask (QC 28 x.scans.n (fun i=>QA.enc
  (x.scans.get i)) fun i=>QA.enc (x.scans.get i)) (.ask (x.hang.n≤x.hang.n) (.ask (QC 4 x.hang.n (fun i=>QA.enc (x.hang.get i)) fun i=>QA.enc (x.hang.get i)) (.asm
  (True) (.all (fun(g0:Nat→Value) => .leaf (.ptr 16 0 0) ((QLi C x))))))))))))))))))))))))))))))))))))))))))))))))))))))))))):=by kernel_rfl
theorem QWN :QL 8 [(.ptr 16 0 0)] ((QLi C x)) (Kd (nsU x C))=(some [0=0,0=0,x.d.play.length=x.d.play.length,x.d.play.slack=x.d.play.slack,x.d.play.loose=x.d.play.loose,
  x.d.play.damp.lo=x.d.play.damp.lo,x.d.play.damp.hi=x.d.play.damp.hi,x.d.wide=x.d.wide,x.d.high=x.d.high,x.d.turn=x.d.turn,0=0,x.d.ps.n=x.d.ps.n,cO =
  cO,0=0,x.scans.n=x.scans.n,cO=cO,0=0,x.hang.n=x.hang.n,cO=cO,x.lost=x.lost,x.foreign=x.foreign,0=0,C.length=C.length,
  cO=cO,C.length=C.length,KM 2 C.length (fun i=>(QH C i).length) (fun i=>(QH C i).length) (fun i j=>QA.enc ((QH C i).getD j ⟨0,0⟩)) fun i j=>
  QA.enc ((QH C i).getD j ⟨0,0⟩)]):=by kernel_rfl
theorem jK(nid:Nat):JO 8 8 nid (8+k)=nid+k:=by
 have:Nat.blt (8+k) 8=false:=jz (by omega)
 simp only[JO,this];omega
theorem jh{i:Nat}(h:i<8)(nid:Nat):JO 8 8 nid i=i:=by
 simp only[JO,vV h]
theorem QVj:(nsU x C).Ok:=by
 refine⟨(by decide:8≤8),rfl,rfl,?_,rfl,fun nid h => ?_,fun nid h => ?_⟩
 ·intro q hq;simp only[UC.po,nsU,srO,Ye,List.mem_cons,List.not_mem_nil,or_false]at hq;rcases hq with rfl|rfl
  ·exact⟨rfl,rfl,rfl,fun h=>absurd (show 8<8 from h) (by decide)⟩
  ·exact⟨rfl,rfl,rfl,fun h=>absurd (show 9<8 from h) (by decide)⟩
 ·have e0:=jK 0 nid;simp only[UC.va,nsU,AV.mapId,Nat.add_zero]at e0 ⊢;rw[e0]
 ·have e0:=jK 0 nid;have e1:=jK 1 nid;have l0:=jh (i:=0) (by decide) nid
  have l1:=jh (i:=1) (by decide) nid
  have l2:=jh (i:=2) (by decide) nid
  simp only[UC.po,nsU,srO,Ye,JJ,Qw.val,List.cons_append,List.nil_append,List.map_cons,List.map_nil,Blk.mapId,AV.mapId,AV.mapIdL,Nat.add_zero,Nat.zero_add]at e0 e1 l0 l1 l2 ⊢;rw[e0,e1,l0,l1,l2]
theorem QWm(hn:x.d.ps.n≤900)(hs:x.scans.n≤1000):QO Try.prog 75 (uFC (nsU x (Qk x x.scans.n))):=by
 refine JW (E:=mkE Try.prog V2) (QP vG) Try.func75 (by kernel_rfl) (by kernel_rfl) (QVj ..) (QUc x hn hs) ⟨?_⟩
 generalize Qk x x.scans.n=C;refine Qt (QXr x C) ?_
 repeat' first|refine QF rfl ?_|refine QR (p:=_=_) rfl ?_|refine QR (p:=_≤_) (qlr _) ?_|refine QR (p:=QC _ _ _ _) (qRr) ?_|refine QR (p:=KM _ _ _ _ _ _) (QU _ _ _ _) ?_
 refine KA fun _=>Q6 fun g=>⟨rfl,rfl,_,QWN x C,?_⟩
 repeat' first|exact trivial|with_reducible rfl|exact qlr _|exact qRr|exact QU _ _ _ _|refine And.intro ?_ ?_
end Go.Proofs.Ytbpffdkemeoajaa
