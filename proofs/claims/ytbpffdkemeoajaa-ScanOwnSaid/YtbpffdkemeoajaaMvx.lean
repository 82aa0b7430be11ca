/- - -/
import Derived.Test.YtbpffdkemeoajaaMvv
import Derived.Test.YtbpffdkemeoajaaMvw
open Go.IntKind (i64)
set_option maxRecDepth 100000
namespace Go.Proofs.Ytbpffdkemeoajaa
open Go.SX
variable (pb:List Prop→Bool)(x:QE)(C:List (List QB))(l:List QB)(k:Nat)
def QE.sz:Bool:=decide ((x.scans.n:Int)≤12)&&(decide ((x.hang.n:Int)≤12)&&(QY x.lost 0 9&&QY x.foreign 0 3))
def QE.ok(x:QE):Bool:=x.sz&&(x.d.ok&&(Jm x.d.play x.scans && !decide (KP (jxO x)≥0)))
def jxR(e:Ex)(J:JSt):Prop:=(e = .ret∧(QP (K3 x) (x.hang.n-k) k).isSome=true∧J=⟨19,[(4,.int false .i64 (KP (QP (K3 x) (x.hang.n-k) k)))],[],8⟩)∨(e = .exit 0∧QP (K3 x) (x.hang.n-k) k=none∧J=⟨19,[],[],8⟩)
theorem QN3(hl:x.hang.n≤1000):JW (jxJ x) (fun k=>k≤x.hang.n) (fun k=>x.hang.n-k) (jxR x) 8 W6 [] (mkE Try.prog Vx) (fun _=>hnd (mkE Try.prog Vx) 4) (Qa Try.f107 0):=by
 refine⟨fun k g hk=>KB (QNH x k g) ?_⟩;refine QI (fun h => ?_) (fun h => ?_)
 ·have h:k<x.hang.n:=by have:=qdt h;omega
  obtain⟨n,hm⟩:∃ n,x.hang.n-k=n+1:=⟨x.hang.n-k-1,by omega⟩
  have hm':x.hang.n-(k+1)=n:=by omega
  have bad:K3 x k=true→jxR x k .ret ⟨19,[(4,.int false .i64 k)],[],8⟩:=fun q=>by
   have hf:QP (K3 x) (x.hang.n-k) k=some k:=by rw[hm,QP,q]
   exact .inl ⟨rfl,by rw[hf];rfl,by rw[hf];rfl⟩
  refine QF (by simp;omega) (QF (by simp;omega) (QF rfl (QI (fun h1 => ?_) (fun h1=>QF rfl (QI (fun h2 => ?_) (fun h2=>QI (fun h3 => ?_) (fun h3=>QF rfl (QI (fun h4 => ?_) (fun h4=>QF rfl (QI (fun h5 => ?_) (fun h5 => ?_)))))))))))
  ·exact⟨_,bad (by simp only[K3,ZP,h1,Bool.true_or]),rfl,rfl,_,Wy _ _,⟨rfl,trivial⟩⟩
  ·exact⟨_,bad (by simp only[K3,ZP,h2,Bool.true_or,Bool.or_true]),rfl,rfl,_,Wy _ _,⟨rfl,trivial⟩⟩
  ·exact⟨_,bad (by simp only[K3,ZP,h3,Bool.true_or,Bool.or_true]),rfl,rfl,_,Wy _ _,⟨rfl,trivial⟩⟩
  ·exact⟨_,bad (by simp only[K3,ZP,h4,Bool.true_or,Bool.or_true]),rfl,rfl,_,Wy _ _,⟨rfl,trivial⟩⟩
  ·exact⟨_,bad (by simp only[K3,ZP,h5,Bool.or_true]),rfl,rfl,_,Wy _ _,⟨rfl,trivial⟩⟩
  ·have q:K3 x k=false:=by simp only[K3,ZP,h1,h2,h3,h4,h5,Bool.or_self]
   have hf:QP (K3 x) (x.hang.n-k) k=QP (K3 x) (x.hang.n-(k+1)) (k+1):=by rw[hm,hm',QP,q]
   refine⟨k+1,by omega,by show x.hang.n-(k+1)<x.hang.n-k;omega,fun e J h=>by unfold jxR at h ⊢;rw[hf];exact h,rfl,rfl,_,QVn x k (k+1),?_⟩
   have hw:i64.wrap ((k:Int)+1)=((k+1:Nat):Int):=(w64 (by omega) (by omega)).trans (by omega)
   repeat' first|exact trivial|with_reducible rfl|exact qlr _|exact qRr|exact hw|refine And.intro ?_ ?_
 ·have h:x.hang.n≤k:=by have:=of_decide_eq_false h;omega
  have hf:QP (K3 x) (x.hang.n-k) k=none:=by rw[show x.hang.n-k=0 by omega];rfl
  exact⟨_,.inr ⟨rfl,hf,rfl⟩,rfl,rfl,_,QCt,trivial⟩
def jxX:List (Prop×Ex×JSt):=[((jxO x).isSome=true,.ret,⟨19,[(4,.int false .i64 (KP (jxO x)))],[],8⟩),(jxO x=none,.exit 0,⟨19,[],[],8⟩)]
abbrev jxH(P:Program)(x:QE):Hnd:={ hnd (mkE P Vx) 1 with loop:=fun _=>KF 8 [] (jxJ x (0:Nat)) (jxX x) }
theorem QTt(hl:x.hang.n≤1000)(G:Ctx)(hrd:G.rd=none)(hG:G.n=8):KH (mkE Try.prog Vx) G (jxH Try.prog x) (Qr Try.f107):=by
 refine J6 (body:=Qa Try.f107 0) (QS Zh) hrd (by kernel_rfl) ?_
 refine J3 (n0:=8) (QS Zh) (by omega) (fun s hs=>Q3 (QS Zh) 4 G _ hrd) (fun s hs=>qlr _) ?_ (QN3 x hl) (s0:=0) (Nat.zero_le _) ?_
 ·rintro s e J (⟨_,_,rfl⟩|⟨_,_,rfl⟩)<;>exact qlr _
 ·rintro e J (⟨rfl,h,rfl⟩|⟨rfl,h,rfl⟩)
  ·exact⟨_,List.mem_cons_self,h,rfl,rfl⟩
  ·exact⟨_,List.mem_cons_of_mem _ List.mem_cons_self,h,rfl,rfl⟩
theorem QSo :Vu (mkE Try.prog Vx) (jxH Try.prog x) Try.f107 (jxU x) = .ask (0=0) (.ask (x.hang.n=x.hang.n) (.ask (cO=cO) (.ask (Fn.func (93:FuncId)=Fn.func (93 :
  FuncId)) (.ask (0=0) (.ask (0=0) (.ask ((x.hang.n:Int)=(x.hang.n:Int)) (.ask ((0:Int)=0) (.ask (Fn.func (92:FuncId)=Fn.func (92:FuncId)) (.ask (0=0) (.ask (0 =
  0) (.ask (x.d.play.length=x.d.play.length) (.ask (x.d.play.slack=x.d.play.slack) (.ask (x.d.play.loose=x.d.play.loose) (.ask (x.d.play.damp.lo=x.d.play.damp.lo) (.ask
  (x.d.play.damp.hi=x.d.play.damp.hi) (.ask (x.d.wide=x.d.wide) (.ask (x.d.high=x.d.high) (.ask (x.d.turn=x.d.turn) (.ask (0=0) (.ask (x.d.ps.n=x.d.ps.n) (.ask (cO =
  cO) (.ask (0=0) (.ask (x.scans.n=x.scans.n) (.ask (cO=cO) (.ask (0=0) (.ask (x.hang.n=x.hang.n) (.ask (cO=cO) (.ask (x.lost=x.lost) (.ask
  (x.foreign=x.foreign) (.ask (x.d.ps.n≤x.d.ps.n) (.ask (QD 28 x.d.ps.n (fun i=>QA.enc (x.d.ps.get i)) fun i=>QA.enc (x.d.ps.get i)) (.ask (x.scans.n≤x.scans.n)
  (.ask (QD 28 x.scans.n (fun i=>QA.enc (x.scans.get i)) fun i=>QA.enc (x.scans.get i)) (.ask (x.hang.n≤x.hang.n) (.ask (QD 4 x.hang.n (fun i=>QA.enc (x.hang.get
  i)) fun i=>QA.enc (x.hang.get i)) (.both (.asm ((jxO x).isSome=true) (.all (fun(g0:Nat→Value) => .leaf (.int false .i64 (KP (jxO x))) ([])))) (.asm (jxO x=none)
  (.all (fun(g1:Nat→Value) => .leaf (.int true .i64 (-1)) ([])))))))))))))))))))))))))))))))))))))))):=by kernel_rfl
theorem QPC:QK 8 [(AV.int false i64 (KP (jxO x)))] ([]) (JC (jxU x))=(
  some [KP (jxO x)=KP (jxO x)]):=by kernel_rfl
theorem QTj:QK 8 [(AV.int true i64 (-1:Int))] ([]) (JC (jxU x))=(
  some [(-1:Int)=KP (jxO x)]):=by kernel_rfl
theorem QPe(hl:x.hang.n≤1000):QQ Try.prog 107 (uFC (jxU x)):=by
 refine VX (E:=mkE Try.prog Vx) (QS Zh) Try.func107 (by kernel_rfl) (by kernel_rfl) (jo (Nat.zero_le _) rfl rfl fun _=>rfl) (QTt x hl) ⟨?_⟩
 refine KB (QSo x) ?_
 repeat' first|refine Qc (show _=_ by with_reducible rfl) ?_|refine Qc (show _≤_ from qlr _) ?_|refine Qc (show QD _ _ _ _ from qRr) ?_
 refine YE (KY fun h=>KX fun g => ?_) (KY fun h=>KX fun g => ?_)
 ·exact⟨rfl,rfl,_,QPC x,⟨rfl,trivial⟩⟩
 ·refine⟨rfl,rfl,_,QTj x,⟨?_,trivial⟩⟩;rw[h];rfl
def QAe:Tab:=Qb Vx 107 (Vf pb (jxU x))
theorem QQ7:Vu (mkE Try.prog (QAe pb x)) (hnd (mkE Try.prog (QAe pb x)) 1) Try.f94 (cxU x) =
  QC.need (pb ([(0:Nat)=(0:Nat),x.hang.n=x.hang.n,Cap.of (0:Nat)=Cap.of (0:Nat),Fn.func (93:Nat)=Fn.func (93:Nat),(0:Nat)=(0:Nat),(0:Nat)=(0 :
  Nat),Fn.func (92:Nat)=Fn.func (92:Nat),(0:Nat)=(0:Nat),(0:Nat)=(0:Nat),x.d.play.length=x.d.play.length,x.d.play.slack=x.d.play.slack,x.d.play.loose =
  x.d.play.loose,x.d.play.damp.lo=x.d.play.damp.lo,x.d.play.damp.hi=x.d.play.damp.hi,x.d.wide=x.d.wide,x.d.high=x.d.high,x.d.turn=x.d.turn,(0:Nat)=(0:Nat),
  x.d.ps.n=x.d.ps.n,Cap.of (0:Nat)=Cap.of (0:Nat),(0:Nat)=(0:Nat),x.scans.n=x.scans.n,Cap.of (0:Nat)=Cap.of (0:Nat),(0:Nat)=(0:Nat),x.hang.n =
  x.hang.n,Cap.of (0:Nat)=Cap.of (0:Nat),x.lost=x.lost,x.foreign=x.foreign,x.d.ps.n≤x.d.ps.n,QD (28:Nat) x.d.ps.n (fun i=>QA.enc (x.d.ps.get i)) fun i=>
  QA.enc (x.d.ps.get i),x.scans.n≤x.scans.n,QD (28:Nat) x.scans.n (fun i=>QA.enc (x.scans.get i)) fun i=>QA.enc (x.scans.get i),x.hang.n≤x.hang.n,QD (4 :
  Nat) x.hang.n (fun i=>QA.enc (x.hang.get i)) fun i=>QA.enc (x.hang.get i)])) (QC.leaf (AV.bool false (decide (KP (jxO x)≥(0:Int)))) ([])):=by kernel_rfl
theorem QPE:QK 8 [(AV.bool false (decide (KP (jxO x)≥(0:Int))))] ([]) (JC (cxU x))=(
  some [decide (KP (jxO x)≥(0:Int))=decide (KP (jxO x)≥(0:Int))]):=by kernel_rfl
def jy:Tab:=Qb Vx 94 (Vf pb (cxU x))
theorem QOh :Kd (mkE Try.prog (jy pb x)) (hnd (mkE Try.prog (jy pb x)) 1) Try.f74 (QU.vals 0 ((x,()):QE×Unit)) (QU.blks 0 ((x,()):QE×Unit)) 8 = .br (decide
  ((x.scans.n:Int)≤12)) (.br (decide ((x.hang.n:Int)≤12)) (.need (true) (.br (QY x.lost (0:Int) (9:Int)) (.need (true) (.br (QY x.foreign (0:Int) (3:Int))
  (.need (decide (x.d.ps.n≤x.d.ps.n)&&true&&decide (x.d.ps.n≤1000)) (.br (x.d.ok) (.need (true&&(decide (x.scans.n≤x.scans.n)&&true)&&decide (x.scans.n≤1000)) (.br
  (Jm x.d.play x.scans) (.need (pb ([0=0,x.hang.n=x.hang.n,cO=cO,Fn.func 93=Fn.func 93,0=0,0=0,Fn.func 92=Fn.func 92,0=0,0=0,x.d.play.length =
  x.d.play.length,x.d.play.slack=x.d.play.slack,x.d.play.loose=x.d.play.loose,x.d.play.damp.lo=x.d.play.damp.lo,x.d.play.damp.hi=x.d.play.damp.hi,x.d.wide=x.d.wide,
  x.d.high=x.d.high,x.d.turn=x.d.turn,0=0,x.d.ps.n=x.d.ps.n,cO=cO,0=0,x.scans.n=x.scans.n,cO=cO,0=0,x.hang.n=x.hang.n,cO =
  cO,x.lost=x.lost,x.foreign=x.foreign,x.d.ps.n≤x.d.ps.n,QD 28 x.d.ps.n (fun i=>QA.enc (x.d.ps.get i)) fun i=>QA.enc (x.d.ps.get i),x.scans.n≤x.scans.n,
  QD 28 x.scans.n (fun i=>QA.enc (x.scans.get i)) fun i=>QA.enc (x.scans.get i),x.hang.n≤x.hang.n,QD 4 x.hang.n (fun i=>QA.enc (x.hang.get i)) fun i=>
  QA.enc (x.hang.get i)])) (.leaf (.bool false !decide (KP (jxO x)≥0)) ([]))) (.leaf (.bool true false) ([])))) (.leaf (.bool true false) ([])))) (.leaf (.bool true false)
  ([])))) (.leaf (.bool true false) ([])))) (.leaf (.bool true false) ([]))) (.leaf (.bool true false) ([])):=by kernel_rfl
theorem QVU(hl:x.hang.n≤1000):QV (QAe Qn x):=Zh.add (QPe x hl)
theorem QVF(hl:x.hang.n≤1000):QQ Try.prog 94 (uFC (cxU x)):=by
 have hE:=QS (QVU x hl);refine VX (E:=mkE Try.prog (QAe Qn x)) hE (c:=Qr Try.f94) Try.func94 (by kernel_rfl) (by kernel_rfl) (jo (Nat.zero_le _) rfl rfl fun _=>rfl) (fun G h1 _=>Q3 hE 1 G _ h1) ⟨?_⟩
 refine KB (QQ7 Qn x) ?_;refine QF (JB.2 ?_) ⟨rfl,rfl,_,QPE x,⟨rfl,trivial⟩⟩
 repeat' first|exact trivial|with_reducible rfl|exact qlr _|exact qRr|refine And.intro ?_ ?_
theorem QTr(hl:x.hang.n≤1000):QV (jy Qn x):=Zh.add (QVF x hl)
def qk:WF (QE×Unit):=fun|(x,_)=>(decide (x.d.ps.n≤1000∧x.scans.n≤1000∧x.hang.n≤1000),.bool false x.ok,[])
def QFA:FC:=wFC qk
theorem QPm(hx:(qk (x,())).1=true):QQ Try.prog 74 (wFC (XO qk (x,()))):=by
 obtain⟨h1,h2,h3⟩:=qdt hx;have hE:=QS (QTr x h3);refine Wb (c:=Qr Try.f74) (E:=mkE Try.prog (jy Qn x)) (H:=hnd (mkE Try.prog (jy Qn x)) 1) hE Try.func74 (by kernel_rfl) (by kernel_rfl) (N:=8) (by decide) (x,()) (fun G h1 _=>Q3 hE 1 G _ h1) ⟨rfl,by simp[qk],rfl⟩ ?_
 refine KB (QOh Qn x) ?_;have no:x.ok=false→(QC.leaf (AV.bool true false) []).den (XX 8 (qk (x,())).2.1 (qk (x,())).2.2):=fun h=>K7 (show false=x.ok by rw[h]) rfl
 refine QI (fun a1=>QI (fun a2=>QF rfl (QI (fun a3=>QF rfl (QI (fun a4=>QF (by simp;omega) (QI (fun a5=>QF (by simp;omega) (QI (fun a6=>QF (JB.2 ?_) (K7 ?_ rfl)) (fun a6=>no ?_))) (fun a5=>no ?_))) (fun a4=>no ?_))) (fun a3=>no ?_))) (fun a2=>no ?_)) (fun a1=>no ?_)
 ·repeat' first|exact trivial|with_reducible rfl|exact qlr _|exact qRr|refine And.intro ?_ ?_
 ·show(!decide (KP (jxO x)≥0))=x.ok;simp only[QE.ok,QE.sz,a1,a2,a3,a4,a5,a6,Bool.true_and]
 ·simp only[QE.ok,a6,Bool.false_and,Bool.and_false]
 ·simp only[QE.ok,a5,Bool.false_and,Bool.and_false]
 ·simp only[QE.ok,QE.sz,a4,Bool.false_and,Bool.and_false]
 ·simp only[QE.ok,QE.sz,a3,Bool.false_and,Bool.and_false]
 ·simp only[QE.ok,QE.sz,a2,Bool.false_and,Bool.and_false]
 ·simp only[QE.ok,QE.sz,a1,Bool.false_and]
theorem QRi:QQ Try.prog 74 QFA:=QDC (by kernel_rfl) fun|(x,()),h=>QPm x h
def Q8:Tab:=Qb Vx 74 QFA
theorem KR:QV Q8:=Zh.add QRi
def QM(i:Nat):List QB:=C.getD i []
def Zt(own:Bool)(id:Nat)(C:List (List QB)):Nat×Blk:=(id,.frz2 own 38 [.int .i64,.int .i64] C.length (fun i=>(QM C i).length) fun i j=>QA.enc ((QM C i).getD j ⟨0,0⟩))
def srC:List AV:=JR 0 x++[.slz 4 0 C.length (.of 0)]
def srB:List (Nat×Blk):=[(3,.cellsR 0 125 (srC x C)),Zt false 4 C]++Ve 0 x
def GL(j:Jn)(a:QB):Int:=(j.i+a.turn).tmod 4
def Xz(j:Jn)(a b:QB):Bool:=cond ((a.cell == -2)||(b.cell == -2)) ((a.cell==b.cell)&&((a.turn==b.turn)&&true)) ((QN x.d.wide x.d.high a.cell (GL j a)==b.cell)&&((j.j+b.turn).tmod 4==QAt (GL j a)))
def hgU(j:Jn)(a b:QB):UC:=⟨0,⟨4,[(0,.ptr 3 0 0),(1,Enc.enc j),(2,Enc.enc a),(3,Enc.enc b)],srB x C,8⟩,fun _ => .bool false (Xz x j a b),fun _=>[]⟩
theorem QO1(j:Jn)(a b:QB):Vu (mkE Try.prog Q8) (hnd (mkE Try.prog Q8) 1) Try.f95 (hgU x C j a b) =
  QC.br (a.cell==(-2:Int)) (QC.leaf (AV.bool false (a.cell==b.cell&&(a.turn==b.turn&&true))) ([])) (QC.br (b.cell==(-2:Int)) (QC.leaf (AV.bool false (a.cell ==
  b.cell&&(a.turn==b.turn&&true))) ([])) (QC.need (decide (x.d.ps.n≤x.d.ps.n)&&(true&&(true&&true))&&decide (((1:Int)≤x.d.wide∧x.d.wide≤(100:Int))∧((1 :
  Int)≤x.d.high∧x.d.high≤(100:Int))∧(0:Int)≤a.cell∧a.cell≤(100:Int))) (QC.br (QN x.d.wide x.d.high a.cell ((i64.wrap (j.i+a.turn)).tmod (4:Int)) ==
  b.cell) (QC.need (decide ((0:Int)≤(i64.wrap (j.i+a.turn)).tmod (4:Int)∧(i64.wrap (j.i+a.turn)).tmod (4:Int)≤(3:Int))) (QC.leaf (AV.bool false
  ((i64.wrap (j.j+b.turn)).tmod (4:Int)==QAt ((i64.wrap (j.i+a.turn)).tmod (4:Int)))) ([]))) (QC.leaf (AV.bool true false) ([]))))):=by kernel_rfl
theorem QM8(j:Jn)(a b:QB)(c v:Bool):QK 8 [.bool c v] [] (JC (hgU x C j a b))=(
  some [v=Xz x j a b]):=by kernel_rfl
structure Jr (s:QB):Prop where
 cell:s.cell = -2∨0≤s.cell∧s.cell≤100
 turn:0≤s.turn∧s.turn≤3
structure JnB (j:Jn):Prop where
 i:0≤j.i∧j.i≤3
 j:0≤j.j∧j.j≤3
theorem QUi{n:Int}(h:0≤n):0≤n.tmod 4∧n.tmod 4≤3:=by
 have h1:=Int.tmod_nonneg 4 h;have h2:=Int.tmod_lt_of_pos n (show(0:Int)<4 by decide)
 omega
theorem QQd(j:Jn)(a b:QB)(hd:Zw x.d)(hj:JnB j)(ha:Jr a)(hb:Jr b):QQ Try.prog 95 (uFC (hgU x C j a b)):=by
 refine VX (E:=mkE Try.prog Q8) (QS KR) (c:=Qr Try.f95) Try.func95 (by kernel_rfl) (by kernel_rfl) (jo (Nat.zero_le _) rfl rfl fun _=>rfl) (fun G h1 _=>Q3 (QS KR) 1 G _ h1) ⟨?_⟩
 refine KB (QO1 x C j a b) ?_;have hw:=hd.w1;have hwn:=hd.wn;have hh:=hd.h1;have hhn:=hd.hn;have h9:=hd.n9;have ha2:=ha.turn;have hb2:=hb.turn;have hi:=hj.i;have hjj:=hj.j;have fin:∀(c v:Bool),v=Xz x j a b→(QC.leaf (.bool c v) []).den (vF (hgU x C j a b)):=fun c v h=>⟨rfl,rfl,_,QM8 x C j a b c v,⟨h,trivial⟩⟩;have w1:i64.wrap (j.i+a.turn)=j.i+a.turn:=w64 (by omega) (by omega)
 have w2:i64.wrap (j.j+b.turn)=j.j+b.turn:=w64 (by omega) (by omega)
 have m:=QUi (n:=j.i+a.turn) (by omega)
 rw[w1,w2];refine QI (fun h=>fin _ _ ?_) (fun h=>QI (fun h2=>fin _ _ ?_) (fun h2=>QF ?_ (QI (fun h3=>QF ?_ (fin _ _ ?_)) (fun h3=>fin _ _ ?_))))
 ·simp only[Xz,h,Bool.true_or,cond_true]
 ·simp only[Xz,h2,Bool.or_true,cond_true]
 ·have:¬ a.cell = -2:=by simpa using h
  have:=ha.cell;simp only[qlr,decide_true,Bool.true_and,qdE];omega
 ·simp only[qdE];exact m
 ·simp only[Xz,h,h2,Bool.or_self,cond_false,GL,h3,Bool.true_and]
 ·simp only[Xz,h,h2,Bool.or_self,cond_false,GL,h3,Bool.false_and]
def frS(id:Nat)(l:List QB):Nat×Blk:=(id,.frz [.int .i64,.int .i64] l.length fun i=>QA.enc (l.getD i ⟨0,0⟩))
def ftB:List (Nat×Blk):=frS 5 l::srB x C
def ftJ:JSt:=⟨45,[(0,.ptr 3 0 0),(1,.slz 5 0 l.length (.of 0)),(5,.int false .i64 ((l.length:Int)-1)),(15,.slz 2 0 x.hang.n (.of 0)),(16,.int false .i64 x.hang.n),(17,.int false .i64 k)],ftB x C l,32⟩
def QLN:Ex→List Nat
 | .normal=>[0,1,5,15,16,17]
 | .exit _=>[]
 | .ret=>[4]
def QDF:JSt:=⟨45,[(4,.bool false false)],[],32⟩
def QBZ:JSt:=⟨45,[],[],32⟩
def QEV:UC:=hgU x C (x.hang.get k) (l.getD (x.hang.get k).a.toNat ⟨0,0⟩) (l.getD (x.hang.get k).b.toNat ⟨0,0⟩)
def QBx(U:UC):Tab:=Qb Q8 95 (Vf pb U)
noncomputable abbrev QIx(l:List QB)(x:QE):List AV:=
  [.nilp,.ptr 45 0 0,.ptr 3 0 0,.slz 5 0 l.length cO,vi ((l.length:Int)-1),.slz 2 0 x.hang.n cO,vi (x.hang.n:Int),.int false
  .i64 (i64.wrap ((k:Int)+1))]
abbrev QIG:List CK:=
  [.int .i64,.int .i64,.int .i64,.int .i64,.int .i64,.int .i64,.int .i64,.int .i64,.int .i64,.int .i64,.int .i64,.int .i64,.int .i64,.int .i64,.int .i64,.int .i64,.int
  .i64,.int .i64,.int .i64,.int .i64,.int .i64,.int .i64,.int .i64,.int .i64,.int .i64,.int .i64,.int .i64,.int .i64]
noncomputable abbrev HV(x:QE):List (Nat×Blk):=
  [(3,.cellsR 0 125 [vi x.d.play.length,vi x.d.play.slack,vi x.d.play.loose,vi x.d.play.damp.lo,.int false .i64
  x.d.play.damp.hi,vi x.d.wide,vi x.d.high,.bool false x.d.turn,.slz 0 0 x.d.ps.n cO,.slz 1 0 x.scans.n cO,.slz 2 0 x.hang.n (Cap.of
  0),vi x.lost,vi x.foreign,.slz 4 0 C.length cO]),(5,.frz [.int .i64,.int .i64] l.length fun i=>QA.enc (l.getD i ⟨0,0⟩)),(2,.frz [.int
  .i64,.int .i64,.int .i64,.int .i64] x.hang.n fun i=>QA.enc (x.hang.get i)),(0,.frz QIG x.d.ps.n fun i=>QA.enc (x.d.ps.get i)),(1,.frz QIG x.scans.n fun i=>
  QA.enc (x.scans.get i)),(4,.frz2 false 38 [.int .i64,.int .i64] C.length (fun i=>(QM C i).length) fun i j=>QA.enc ((QM C i).getD j ⟨0,0⟩))]
theorem QOj(g:Nat→Value):exec (mkE Try.prog (QBx pb (QEV x C l k))) (hnd (mkE Try.prog (QBx pb (QEV x C l k))) 0) (Qa Try.f78 0) (JSt.inst (ftJ x C l k) g) (KL [] QLN) = .br (decide ((k :
  Int)<(x.hang.n:Int))) (.need (decide ((0:Int)≤(k:Int)∧(k:Int)<(x.hang.n:Int))&&decide (x.hang.n≤x.hang.n)) (.need (decide (k<x.hang.n)) (.br (max (x.hang.get
  k).a (x.hang.get k).b==(l.length:Int)-1) (.need (decide ((0:Int)≤(x.hang.get k).a∧(x.hang.get k).a<(l.length:Int))&&decide (l.length≤l.length)) (.need (decide
  ((x.hang.get k).a.toNat<l.length)) (.need (decide ((0:Int)≤(x.hang.get k).b∧(x.hang.get k).b<(l.length:Int))&&decide (l.length≤l.length)) (.need (decide ((x.hang.get
  k).b.toNat<l.length)) (.need (pb ([0=0,0=0,(x.hang.get k).a=(x.hang.get k).a,(x.hang.get k).i=(x.hang.get k).i,(x.hang.get k).b=(x.hang.get k).b,(x.hang.get k).j =
  (x.hang.get k).j,(l.getD (x.hang.get k).a.toNat ⟨0,0⟩).cell=(l.getD (x.hang.get k).a.toNat ⟨0,0⟩).cell,(l.getD (x.hang.get k).a.toNat ⟨0,0⟩).turn=(l.getD (x.hang.get
  k).a.toNat ⟨0,0⟩).turn,(l.getD (x.hang.get k).b.toNat ⟨0,0⟩).cell=(l.getD (x.hang.get k).b.toNat ⟨0,0⟩).cell,(l.getD (x.hang.get k).b.toNat ⟨0,0⟩).turn=(l.getD (x.hang.get
  k).b.toNat ⟨0,0⟩).turn,x.d.play.length=x.d.play.length,x.d.play.slack=x.d.play.slack,x.d.play.loose=x.d.play.loose,x.d.play.damp.lo=x.d.play.damp.lo,x.d.play.damp.hi =
  x.d.play.damp.hi,x.d.wide=x.d.wide,x.d.high=x.d.high,x.d.turn=x.d.turn,0=0,x.d.ps.n=x.d.ps.n,cO=cO,0=0,x.scans.n=x.scans.n,cO=cO,
  0=0,x.hang.n=x.hang.n,cO=cO,x.lost=x.lost,x.foreign=x.foreign,0=0,C.length=C.length,cO=cO,C.length=C.length,K0 2 C.length
  (fun i=>(QM C i).length) (fun i=>(QM C i).length) (fun i j=>QA.enc ((QM C i).getD j ⟨0,0⟩)) fun i j=>QA.enc ((QM C i).getD j ⟨0,0⟩),x.d.ps.n≤x.d.ps.n,
  QD 28 x.d.ps.n (fun i=>QA.enc (x.d.ps.get i)) fun i=>QA.enc (x.d.ps.get i),x.scans.n≤x.scans.n,QD 28 x.scans.n (fun i=>QA.enc (x.scans.get i)) fun i=>
  QA.enc (x.scans.get i),x.hang.n≤x.hang.n,QD 4 x.hang.n (fun i=>QA.enc (x.hang.get i)) fun i=>QA.enc (x.hang.get i)])) (.br (!Xz x (x.hang.get k) (l.getD
  (x.hang.get k).a.toNat ⟨0,0⟩) (l.getD (x.hang.get k).b.toNat ⟨0,0⟩)) (.leaf (.tup [.nili,.ptr 45 0 0,.bool true false]) ([])) (.leaf (.tup (QIx k l x)) ((HV C l x)))))))))
  (.leaf (.tup (QIx k l x)) ((HV C l x)))))) (.leaf (.tup [.ptr 0 0 0,.ptr 45 0 0]) ([])):=by kernel_rfl
theorem QTN :QK 8 [AV.bool true false] ([]) QDF=(
  some [false=false]):=by kernel_rfl
noncomputable abbrev QH6(l:List QB)(x:QE):List AV:=
  [.ptr 3 0 0,.slz 5 0 l.length cO,vi ((l.length:Int)-1),.slz 2 0 x.hang.n cO,vi (x.hang.n:Int),vi (i64.wrap
  ((k:Int)+1))]
abbrev QF9(k':Nat)(l:List QB)(x:QE):List Prop:=
  [0=0,0=0,0=0,l.length=l.length,cO=cO,(l.length:Int)-1=(l.length:Int)-1,0=0,x.hang.n=x.hang.n,cO=cO,(x.hang.n:Int) =
  (x.hang.n:Int),i64.wrap ((k:Int)+1)=(k':Int),l.length≤l.length,QD 2 l.length (fun i=>QA.enc (l.getD i ⟨0,0⟩)) fun i=>QA.enc (l.getD i ⟨0,0⟩),
  x.d.play.length=x.d.play.length,x.d.play.slack=x.d.play.slack,x.d.play.loose=x.d.play.loose,x.d.play.damp.lo=x.d.play.damp.lo,x.d.play.damp.hi=x.d.play.damp.hi,
  x.d.wide=x.d.wide,x.d.high=x.d.high,x.d.turn=x.d.turn,0=0,x.d.ps.n=x.d.ps.n,cO=cO,0=0,x.scans.n=x.scans.n,cO=cO,0=0,x.hang.n =
  x.hang.n,cO=cO,x.lost=x.lost,x.foreign=x.foreign,0=0,C.length=C.length,cO=cO,C.length=C.length,K0 2 C.length (fun i=>(QM C
  i).length) (fun i=>(QM C i).length) (fun i j=>QA.enc ((QM C i).getD j ⟨0,0⟩)) fun i j=>QA.enc ((QM C i).getD j ⟨0,0⟩),x.d.ps.n≤x.d.ps.n,QD 28 x.d.ps.n (fun
  i=>QA.enc (x.d.ps.get i)) fun i=>QA.enc (x.d.ps.get i),x.scans.n≤x.scans.n,QD 28 x.scans.n (fun i=>QA.enc (x.scans.get i)) fun i=>QA.enc (x.scans.get i),
  x.hang.n≤x.hang.n,QD 4 x.hang.n (fun i=>QA.enc (x.hang.get i)) fun i=>QA.enc (x.hang.get i)]
theorem QUE(k k':Nat):QK 8 (QH6 k l x) ((HV C l x)) (ftJ x C l k')=(some (QF9 C k k' l x)):=by kernel_rfl
theorem QSu(k k':Nat):QK 8 (QH6 k l x) ((HV C l x)) (ftJ x C l k')=(some (QF9 C k k' l x)):=by kernel_rfl
theorem QQ1 :QK 8 [] ([]) QBZ=(
  some []):=by kernel_rfl
theorem Qh(m:Nat)(n:Nat)(ln:Nat→Nat)(g:Nat→Nat→Nat→Int):K0 m n ln ln g g:=fun _ _=>⟨rfl,qRr⟩
def YY:Bool:=max (x.hang.get k).a (x.hang.get k).b==(l.length:Int)-1
def VQ:Bool:=YY x l k && !Xz x (x.hang.get k) (l.getD (x.hang.get k).a.toNat ⟨0,0⟩) (l.getD (x.hang.get k).b.toNat ⟨0,0⟩)
def Ku:Bool:=(QP (VQ x l) x.hang.n 0).isNone
structure Je (x:QE):Prop where
 d:Zw x.d
 n:x.hang.n≤12
 s:x.scans.n≤12
 j:∀ k,k<x.hang.n→JnB (x.hang.get k)∧(0≤(x.hang.get k).a∧(x.hang.get k).a<x.scans.n)∧0≤(x.hang.get k).b∧(x.hang.get k).b<x.scans.n
structure qm (l:List QB):Prop where
 pos:0<l.length
 le:l.length≤1000
 s:∀ i,i<l.length→Jr (l.getD i ⟨0,0⟩)
noncomputable def js:List Prop→Bool:=match decide (k<x.hang.n)&&YY x l k with
 | true=>Qn
 | false=>fun _=>false
noncomputable def Wv(P:Program)(x:QE)(C:List (List QB))(l:List QB)(k:Nat):Env:=mkE P (QBx (js x l k) (QEV x C l k))
theorem QFt{x:QE}{l:List QB}(hx:Je x)(hl:qm l){k:Nat}(hk:k<x.hang.n)(hm:YY x l k=true):(0≤(x.hang.get k).a∧(x.hang.get k).a<l.length)∧0≤(x.hang.get k).b∧(x.hang.get k).b<l.length:=by
 obtain⟨_,h1,h2⟩:=hx.j k hk;have:=hl.pos;simp only[YY,beq_iff_eq]at hm;omega
theorem QIv{x:QE}{C:List (List QB)}{l:List QB}(hx:Je x)(hl:qm l)(k:Nat):(Wv Try.prog x C l k).Sound:=by
 unfold Wv js;split
 ·rename_i hc;simp only[qbA,qdE]at hc;obtain⟨h1,h2⟩:=QFt hx hl hc.1 hc.2;exact QS (KR.add (QQd x C _ _ _ hx.d (hx.j k hc.1).1 (hl.s _ (by omega)) (hl.s _ (by omega))))
 ·exact QS (KR.add (vm (by kernel_rfl) _))
def ftR(e:Ex)(J:JSt):Prop:=(e = .ret∧(QP (VQ x l) (x.hang.n-k) k).isNone=false∧J=QDF)∨(e = .exit 0∧(QP (VQ x l) (x.hang.n-k) k).isNone=true∧J=QBZ)
theorem QPc(hx:Je x)(hl:qm l):zJ (ftJ x C l) (fun k=>k≤x.hang.n) (fun k=>x.hang.n-k) (ftR x l) 8 QLN [] (Wv Try.prog x C l) (fun k=>hnd (Wv Try.prog x C l k) 0) (Qa Try.f78 0):=by
 refine⟨fun k g hk => ?_⟩;unfold Wv;refine KB (QOj (js x l k) x C l k g) ?_;have h12:=hx.n;refine QI (fun h => ?_) (fun h => ?_)
 ·have h:k<x.hang.n:=by have:=qdt h;omega
  obtain⟨m,hm⟩:∃ m,x.hang.n-k=m+1:=⟨x.hang.n-k-1,by omega⟩
  have hm':x.hang.n-(k+1)=m:=by omega
  have hw:i64.wrap ((k:Int)+1)=((k+1:Nat):Int):=(w64 (by omega) (by omega)).trans (by omega)
  have go:VQ x l k=false→∀ e J,ftR x l (k+1) e J→ftR x l k e J:=fun q e J h=>by
   have hf:QP (VQ x l) (x.hang.n-k) k=QP (VQ x l) (x.hang.n-(k+1)) (k+1):=by rw[hm,hm',QP,q]
   unfold ftR at h ⊢;rw[hf];exact h
  refine QF (by simp;omega) (QF (by simp;omega) (QI (fun hb => ?_) (fun hb => ?_)))
  ·have hb:YY x l k=true:=hb;obtain⟨i1,i2⟩:=QFt hx hl h hb;have hpb:js x l k=Qn:=by simp only[js,hb,decide_eq_true h,Bool.and_self]
   rw[hpb];refine QF (by simp;omega) (QF (by simp;omega) (QF (by simp;omega) (QF (by simp;omega) (QF (JB.2 ?_) (QI (fun hq => ?_) (fun hq => ?_))))))
   ·repeat' first|exact trivial|with_reducible rfl|exact qlr _|exact qRr|exact Qh _ _ _ _|refine And.intro ?_ ?_
   ·have q:VQ x l k=true:=by simp only[VQ,hb,Bool.true_and];exact hq
    have hf:QP (VQ x l) (x.hang.n-k) k=some k:=by rw[hm,QP,q]
    exact⟨_,.inl ⟨rfl,by rw[hf];rfl,rfl⟩,rfl,rfl,_,QTN,⟨rfl,trivial⟩⟩
   ·have q:VQ x l k=false:=by simp only[VQ,hb,Bool.true_and];exact hq
    refine⟨k+1,by show k+1≤x.hang.n;omega,by show x.hang.n-(k+1)<x.hang.n-k;omega,go q,rfl,rfl,_,QUE x C l k (k+1),?_⟩
    repeat' first|exact trivial|with_reducible rfl|exact qlr _|exact qRr|exact Qh _ _ _ _|exact hw|refine And.intro ?_ ?_
  ·have hb:YY x l k=false:=hb;have q:VQ x l k=false:=by simp only[VQ,hb,Bool.false_and]
   refine⟨k+1,by show k+1≤x.hang.n;omega,by show x.hang.n-(k+1)<x.hang.n-k;omega,go q,rfl,rfl,_,QSu x C l k (k+1),?_⟩
   repeat' first|exact trivial|with_reducible rfl|exact qlr _|exact qRr|exact Qh _ _ _ _|exact hw|refine And.intro ?_ ?_
 ·have h:x.hang.n≤k:=by have:=of_decide_eq_false h;omega
  have hf:QP (VQ x l) (x.hang.n-k) k=none:=by rw[show x.hang.n-k=0 by omega];rfl
  exact⟨_,.inr ⟨rfl,by rw[hf];rfl,rfl⟩,rfl,rfl,_,QQ1,trivial⟩
def ftX:List (Prop×Ex×JSt):=[(Ku x l=false,.ret,QDF),(Ku x l=true,.exit 0,QBZ)]
abbrev ftH(P:Program)(x:QE)(C:List (List QB))(l:List QB):Hnd:={ hnd (mkE P Q8) 1 with loop:=fun _=>KF 8 [] (ftJ x C l (0:Nat)) (ftX x l) }
theorem QSS(hx:Je x)(hl:qm l)(G:Ctx)(hrd:G.rd=none)(hG:G.n=8):KH (mkE Try.prog Q8) G (ftH Try.prog x C l) (Qr Try.f78):=by
 refine J6 (body:=Qa Try.f78 0) (QS KR) hrd (by kernel_rfl) ?_
 refine QCK (E0:=mkE Try.prog Q8) (E:=Wv Try.prog x C l) (H:=fun k=>hnd (Wv Try.prog x C l k) 0) (n0:=8) (s0:=0) (fun _=>rfl) (QIv hx hl) (by omega) (fun k _=>Q3 (QIv hx hl k) 0 G _ hrd) (fun k _=>(by decide:8≤32)) ?_ (QPc x C l hx hl) (Nat.zero_le _) ?_
 ·rintro s e J (⟨_,_,rfl⟩|⟨_,_,rfl⟩)<;>exact(by decide:8≤32)
 ·rintro e J (⟨rfl,h,rfl⟩|⟨rfl,h,rfl⟩)
  ·exact⟨_,List.mem_cons_self,h,rfl,rfl⟩
  ·exact⟨_,List.mem_cons_of_mem _ List.mem_cons_self,h,rfl,rfl⟩
def ftU:UC:=⟨0,⟨2,[(0,.ptr 3 0 0),(1,.slz 5 0 l.length (.of 0))],ftB x C l,8⟩,fun _ => .bool false (Ku x l),fun _=>[]⟩
theorem QQu :Vu (mkE Try.prog Q8) (ftH Try.prog x C l) Try.f78 (ftU x C l) = .ask (0=0) (.ask (0=0) (.ask (0=0) (.ask (l.length=l.length) (.ask (cO=cO) (.ask
  (i64.wrap ((l.length:Int)-1)=(l.length:Int)-1) (.ask (0=0) (.ask (x.hang.n=x.hang.n) (.ask (cO=cO) (.ask ((x.hang.n:Int)=(x.hang.n:Int))
  (.ask ((0:Int)=0) (.ask (l.length≤l.length) (.ask (QD 2 l.length (fun i=>QA.enc (l.getD i ⟨0,0⟩)) fun i=>QA.enc (l.getD i ⟨0,0⟩)) (.ask (x.d.play.length =
  x.d.play.length) (.ask (x.d.play.slack=x.d.play.slack) (.ask (x.d.play.loose=x.d.play.loose) (.ask (x.d.play.damp.lo=x.d.play.damp.lo) (.ask (x.d.play.damp.hi =
  x.d.play.damp.hi) (.ask (x.d.wide=x.d.wide) (.ask (x.d.high=x.d.high) (.ask (x.d.turn=x.d.turn) (.ask (0=0) (.ask (x.d.ps.n=x.d.ps.n) (.ask (cO=cO) (.ask (0
  = 0) (.ask (x.scans.n=x.scans.n) (.ask (cO=cO) (.ask (0=0) (.ask (x.hang.n=x.hang.n) (.ask (cO=cO) (.ask (x.lost=x.lost) (.ask (x.foreign =
  x.foreign) (.ask (0=0) (.ask (C.length=C.length) (.ask (cO=cO) (.ask (C.length=C.length) (.ask (K0 2 C.length (fun i=>(QM C i).length) (fun i=>(QM C
  i).length) (fun i j=>QA.enc ((QM C i).getD j ⟨0,0⟩)) fun i j=>QA.enc ((QM C i).getD j ⟨0,0⟩)) (.ask (x.d.ps.n≤x.d.ps.n) (.ask (QD 28 x.d.ps.n (fun i=>QA.enc
  (x.d.ps.get i)) fun i=>QA.enc (x.d.ps.get i)) (.ask (x.scans.n≤x.scans.n) (.ask (QD 28 x.scans.n (fun i=>QA.enc (x.scans.get i)) fun i=>QA.enc (x.scans.get i))
  (.ask (x.hang.n≤x.hang.n) (.ask (QD 4 x.hang.n (fun i=>QA.enc (x.hang.get i)) fun i=>QA.enc (x.hang.get i)) (.both (.asm (Ku x l=false) (.all (fun(g0:Nat →
  Value) => .leaf (.bool false false) ([])))) (.asm (Ku x l=true) (.all (fun(g1:Nat→Value) => .leaf (.bool true true) ([]))))))))))))))))))))))))))))))))))))))))))))))):=by kernel_rfl
theorem QEv(c v:Bool):QK 8 [.bool c v] [] (JC (ftU x C l))=(
  some [v=Ku x l]):=by kernel_rfl
theorem QKp(hx:Je x)(hl:qm l):QQ Try.prog 78 (uFC (ftU x C l)):=by
 refine VX (E:=mkE Try.prog Q8) (QS KR) Try.func78 (by kernel_rfl) (by kernel_rfl) (jo (Nat.zero_le _) rfl rfl fun _=>rfl) (QSS x C l hx hl) ⟨?_⟩
 refine KB (QQu x C l) ?_;have hp:=hl.pos;have hle:=hl.le;have hw:i64.wrap ((l.length:Int)-1)=(l.length:Int)-1:=w64 (by omega) (by omega)
 repeat' first|refine QF rfl ?_|refine Qc (show _=_ by with_reducible rfl) ?_|refine Qc (show _≤_ from qlr _) ?_|refine Qc (show QD _ _ _ _ from qRr) ?_|refine Qc (show K0 _ _ _ _ _ _ from Qh _ _ _ _) ?_|refine Qc (p:=i64.wrap ((l.length:Int)-1)=(l.length:Int)-1) hw ?_
 refine YE (KY fun h=>KX fun g => ?_) (KY fun h=>KX fun g => ?_)
 ·exact⟨rfl,rfl,_,QEv x C l _ _,⟨h.symm,trivial⟩⟩
 ·exact⟨rfl,rfl,_,QEv x C l _ _,⟨h.symm,trivial⟩⟩
end Go.Proofs.Ytbpffdkemeoajaa
namespace Go.SX
open Go Go.RowKit Go.Proofs.Ytbpffdkemeoajaa
def qj(fc:FC):FC:=fun args nid _=>fc args nid (XH (AV.idsFromL 0 args) [])
theorem zR{P:Program}{f:FuncId}{fc:FC}(h:QQ P f fc):QQ P f (qj fc):=
 ⟨h.1,fun args nid _ r w lk blks eff hH ha hv he hp=>h.2 args nid (XH (AV.idsFromL 0 args) []) r w lk blks eff hH ha hv he hp⟩
end Go.SX
namespace Go.Proofs.Ytbpffdkemeoajaa
open Go.SX
def V7:Tab:=Qb Q8 43 (qj QCu)
theorem jf:QV V7:=KR.add (zR QIK)
def qr:QB:=⟨-2,0⟩
variable (x:QE)(C:List (List QB))(l:List QB)(k:Nat)
def Yv:List QB:=qr::KG x.d (x.scans.get k) x.d.ps.n
def Qt(x:QE):Nat→List (List QB)
 | 0=>[]
 | k+1=>Qt x k++[Yv x k]
def srO(id c:Nat)(x:QE)(C:List (List QB)):List (Nat×Blk):=[(id,.cells 0 125 (JR 0 x++[.slz c 0 C.length (.of 0)])),Zt true c C]
def nsJ:JSt:=⟨34,[(1,.ptr 8 0 0),(3,.ptr 16 0 0),(10,.slz 1 0 x.scans.n (.of 0)),(11,.int false .i64 x.scans.n),(12,.int false .i64 k)],[(8,.cells 0 50 (JR 0 x))]++srO 16 24 x C++Ve 0 x,40⟩
def QMK:Ex→List Nat
 | .normal=>[1,3,10,11,12]
 | .exit _=>[3]
 | .ret=>[]
def nsE:JSt:=⟨34,[(3,.ptr 16 0 0)],srO 16 24 x C++Ve 0 x,40⟩
abbrev G4:List CK:=
  [.int .i64,.int .i64,.int .i64,.int .i64,.int .i64,.int .i64,.int .i64,.int .i64,.int .i64,.int .i64,.int .i64,.int .i64,.int .i64,.int .i64,.int .i64,.int .i64,.int
  .i64,.int .i64,.int .i64,.int .i64,.int .i64,.int .i64,.int .i64,.int .i64,.int .i64,.int .i64,.int .i64,.int .i64]
noncomputable abbrev QGF(x:QE):List (Nat×Blk):=
  [(8,.cells 0 50 [vi x.d.play.length,vi x.d.play.slack,vi x.d.play.loose,vi x.d.play.damp.lo,.int false .i64
  x.d.play.damp.hi,vi x.d.wide,vi x.d.high,.bool false x.d.turn,.slz 0 0 x.d.ps.n cO,.slz 1 0 x.scans.n cO,.slz 2 0 x.hang.n (Cap.of
  0),vi x.lost,vi x.foreign]),(16,.cells 0 125 [vi x.d.play.length,vi x.d.play.slack,vi x.d.play.loose,.int
  false .i64 x.d.play.damp.lo,vi x.d.play.damp.hi,vi x.d.wide,vi x.d.high,.bool false x.d.turn,.slz 0 0 x.d.ps.n cO,.slz 1 0
  x.scans.n cO,.slz 2 0 x.hang.n cO,vi x.lost,vi x.foreign,.slz 184 0 (C.length+1) cO]),(1,.frz G4 x.scans.n fun i=>
  QA.enc (x.scans.get i)),(0,.frz G4 x.d.ps.n fun i=>QA.enc (x.d.ps.get i)),(2,.frz [.int .i64,.int .i64,.int .i64,.int .i64] x.hang.n fun i=>QA.enc (x.hang.get
  i)),(184,.frz2 true 38 [.int .i64,.int .i64] (C.length+1) (Xp C.length (fun i=>(QM C i).length) (1+(KG x.d (x.scans.get k) x.d.ps.n).length)) (YO C.length (fun i
  j=>QA.enc ((QM C i).getD j ⟨0,0⟩)) (QX 1 (QR [[vj (-2),vj 0]] 0) fun i=>QA.enc ((KG x.d (x.scans.get k) x.d.ps.n).getD i ⟨0,0⟩))))]
noncomputable abbrev QL2(x:QE):List (Nat×Blk):=
  [(16,.cells 0 125 [vi x.d.play.length,vi x.d.play.slack,vi x.d.play.loose,vi x.d.play.damp.lo,.int false .i64
  x.d.play.damp.hi,vi x.d.wide,vi x.d.high,.bool false x.d.turn,.slz 0 0 x.d.ps.n cO,.slz 1 0 x.scans.n cO,.slz 2 0 x.hang.n (Cap.of
  0),vi x.lost,vi x.foreign,.slz 24 0 C.length cO]),(0,.frz G4 x.d.ps.n fun i=>QA.enc (x.d.ps.get i)),(1,.frz G4 x.scans.n fun i=>
  QA.enc (x.scans.get i)),(2,.frz [.int .i64,.int .i64,.int .i64,.int .i64] x.hang.n fun i=>QA.enc (x.hang.get i)),(24,.frz2 true 38 [.int .i64,.int .i64] C.length (fun
  i=>(QM C i).length) fun i j=>QA.enc ((QM C i).getD j ⟨0,0⟩))]
theorem QUN(g:Nat→Value):exec (mkE Try.prog V7) (hnd (mkE Try.prog V7) 0) (Qa Try.f75 0) (JSt.inst (nsJ x C k) g) (KL [] QMK) = .br (decide ((k:Int)<(x.scans.n:Int))) (.need (decide ((0
  : Int)≤(k:Int)∧(k:Int)<(x.scans.n:Int))&&decide (x.scans.n≤x.scans.n)) (.need (decide (k<x.scans.n)) (.need (decide (x.d.ps.n≤x.d.ps.n)&&(true&&true) &&
  decide (x.d.ps.n≤900)) (.need (true&&(decide ((KG x.d (x.scans.get k) x.d.ps.n).length≤(KG x.d (x.scans.get k) x.d.ps.n).length)&&decide ((1+(KG x.d (x.scans.get
  k) x.d.ps.n).length+(1+(KG x.d (x.scans.get k) x.d.ps.n).length) / 4+192)*16≤281474976710656∧1+(KG x.d (x.scans.get k) x.d.ps.n).length≤9223372036854775807)))
  (.need (decide (C.length=C.length)&&(decide (1+(KG x.d (x.scans.get k) x.d.ps.n).length≤1+(KG x.d (x.scans.get k) x.d.ps.n).length)&&decide ((C.length+1 +
  (C.length+1) / 4+192)*24≤281474976710656∧C.length+1≤9223372036854775807))) (.leaf (.tup [.nilp,.ptr 34 0 0,.ptr 8 0 0,.ptr 16 0 0,.slz 1 0 x.scans.n cO,
  .int false .i64 (x.scans.n:Int),vi (i64.wrap ((k:Int)+1))]) ((QGF C k x)))))))) (.leaf (.tup [.ptr 0 0 0,.ptr 34 0 0,.ptr 16 0 0]) ((QL2 C x))):=by kernel_rfl
abbrev QCw:List Prop:=
  [x.d.play.slack=x.d.play.slack,x.d.play.loose=x.d.play.loose,x.d.play.damp.lo=x.d.play.damp.lo,x.d.play.damp.hi=x.d.play.damp.hi,x.d.wide=x.d.wide,x.d.high =
  x.d.high,x.d.turn=x.d.turn,0=0,x.d.ps.n=x.d.ps.n,cO=cO,0=0,x.scans.n=x.scans.n,cO=cO,0=0,x.hang.n=x.hang.n,cO=cO]
abbrev QId:List Prop:=
  [x.d.ps.n≤x.d.ps.n,QD 28 x.d.ps.n (fun i=>QA.enc (x.d.ps.get i)) fun i=>QA.enc (x.d.ps.get i),x.scans.n≤x.scans.n,QD 28 x.scans.n (fun i=>QA.enc
  (x.scans.get i)) fun i=>QA.enc (x.scans.get i),x.hang.n≤x.hang.n,QD 4 x.hang.n (fun i=>QA.enc (x.hang.get i)) fun i=>QA.enc (x.hang.get i)]
theorem QV4(C C':List (List QB))(k k':Nat):QK 8 [.ptr 8 0 0,.ptr 16 0 0,.slz 1 0 x.scans.n cO,vi (x.scans.n:Int),vi (i64.wrap ((k:Int)+1))] ((QGF C k x)) (nsJ x C' k') =
  (some ([0=0,0=0,0=0,0=0,0=0,x.scans.n=x.scans.n,cO=cO,(x.scans.n:Int)=(x.scans.n:Int),i64.wrap ((k:Int)+1)=(k':Int),
  x.d.play.length=x.d.play.length]++(QCw x)++[x.lost=x.lost,x.foreign=x.foreign,x.d.play.length=x.d.play.length]++(QCw x)++[x.lost=x.lost,x.foreign=x.foreign,
  0=0,C.length+1=C'.length,cO=cO,C.length+1=C'.length,K0 2 C'.length (Xp C.length (fun i=>(QM C i).length) (1+(KG x.d (x.scans.get k)
  x.d.ps.n).length)) (fun i=>(QM C' i).length) (YO C.length (fun i j=>QA.enc ((QM C i).getD j ⟨0,0⟩)) (QX 1 (QR [[vj (-2),vj 0]] 0) fun i
  => QA.enc ((KG x.d (x.scans.get k) x.d.ps.n).getD i ⟨0,0⟩))) fun i j=>QA.enc ((QM C' i).getD j ⟨0,0⟩)]++(QId x))):=by kernel_rfl
theorem QOO(C C':List (List QB)):QK 8 [.ptr 16 0 0] ((QL2 C x)) (nsE x C')=(some ([0=0,0=0,x.d.play.length=x.d.play.length]++(QCw x)++[x.lost=x.lost,x.foreign=x.foreign,0=0,C.length =
  C'.length,cO=cO,C.length=C'.length,K0 2 C'.length (fun i=>(QM C i).length) (fun i=>(QM C' i).length) (fun i j=>QA.enc ((QM C i).getD j ⟨0,0⟩))
  fun i j=>QA.enc ((QM C' i).getD j ⟨0,0⟩)]++(QId x))):=by kernel_rfl
theorem QBM(w:List QB)(i:Nat):QM (C++[w]) i=if i<C.length then QM C i else if i=C.length then w else []:=by
 unfold QM;rw[List.getD_eq_getElem?_getD,List.getD_eq_getElem?_getD]
 by_cases h:i<C.length
 ·rw[if_pos h,List.getElem?_append_left h]
 ·rw[if_neg h,List.getElem?_append_right (by omega)]
  by_cases h2:i=C.length
  ·subst h2;simp
  ·rw[if_neg h2,List.getElem?_eq_none (by simp;omega)];rfl
theorem QVC:QD 2 (1+l.length) (QX 1 (QR [[AV.int true .i64 (-2),AV.int true .i64 0]] 0) fun i=>QA.enc (l.getD i ⟨0,0⟩)) fun i=>QA.enc ((qr::l).getD i ⟨0,0⟩):=by
 intro i hi;cases i with
 | zero=>exact⟨rfl,rfl,trivial⟩
 | succ i=>
  refine⟨?_,?_,trivial⟩ <;>
   (show QX 1 _ _ (i+1) _=_
    rw[XI,if_neg (by omega)]
    simp)
theorem QVt:K0 2 (C++[qr::l]).length (Xp C.length (fun i=>(QM C i).length) (1+l.length)) (fun i=>(QM (C++[qr::l]) i).length)
  (YO C.length (fun i j=>QA.enc ((QM C i).getD j ⟨0,0⟩)) (QX 1 (QR [[AV.int true .i64 (-2),AV.int true .i64 0]] 0) fun i=>QA.enc (l.getD i ⟨0,0⟩))) (fun i j=>QA.enc ((QM (C++[qr::l]) i).getD j ⟨0,0⟩)):=by
 intro i hi;rw[List.length_append,List.length_singleton]at hi
 by_cases h:i<C.length
 ·simp only[Xp,YO,jS h,QBM,if_pos h];exact⟨trivial,qRr⟩
 ·have e:i=C.length:=by omega
  simp only[Xp,YO,qe h,QBM,if_neg h,if_pos e];refine⟨by simp;omega,?_⟩
  have:=QVC l;rw[show(qr::l).length=1+l.length by simp;omega]
  exact this
theorem Yx(x:QE):∀ k,(Qt x k).length=k
 | 0=>rfl
 | k+1=>by simp[Qt,Yx x k]
theorem QVl(hn:x.d.ps.n≤900)(hs:x.scans.n≤1000):JW (fun k=>nsJ x (Qt x k) k) (fun k=>k≤x.scans.n) (fun k=>x.scans.n-k) (fun _ e J=>e = .exit 0∧J=nsE x (Qt x x.scans.n)) 8 QMK [] (mkE Try.prog V7) (fun _=>hnd (mkE Try.prog V7) 0) (Qa Try.f75 0):=by
 refine⟨fun k g hk=>KB (QUN x _ k g) ?_⟩;have hlen:=Yx x k;refine QI (fun h => ?_) (fun h => ?_)
 ·have h:k<x.scans.n:=by have:=qdt h;omega
  have hw:i64.wrap ((k:Int)+1)=((k+1:Nat):Int):=(w64 (by omega) (by omega)).trans (by omega)
  have hl:=qH x.d (x.scans.get k) x.d.ps.n;refine QF (by simp;omega) (QF (by simp;omega) (QF (by simp;omega) (QF (by simp;omega) (QF (by simp;omega) ?_))))
  refine⟨k+1,h,by show x.scans.n-(k+1)<x.scans.n-k;omega,fun _ _ h=>h,rfl,rfl,_,QV4 x (Qt x k) (Qt x (k+1)) k (k+1),?_⟩
  have e2:(Qt x k).length+1=(Qt x (k+1)).length:=by rw[Yx,Yx]
  repeat' first|exact trivial|with_reducible rfl|exact qlr _|exact qRr|exact hw|exact e2|exact QVt _ _|refine And.intro ?_ ?_
 ·have:k=x.scans.n:=by have:=of_decide_eq_false h;omega
  subst this;refine⟨_,⟨rfl,rfl⟩,rfl,rfl,_,QOO x _ _,?_⟩
  repeat' first|exact trivial|with_reducible rfl|exact qlr _|exact qRr|exact Qh _ _ _ _|refine And.intro ?_ ?_
abbrev nsH(P:Program)(x:QE)(C:List (List QB)):Hnd:={ hnd (mkE P V7) 1 with loop:=fun _=>KF 8 [] (nsJ x [] (0:Nat)) [(True,.exit 0,nsE x C)] }
theorem QR8(hn:x.d.ps.n≤900)(hs:x.scans.n≤1000)(G:Ctx)(hrd:G.rd=none)(hG:G.n=8):KH (mkE Try.prog V7) G (nsH Try.prog x (Qt x x.scans.n)) (Qr Try.f75):=by
 refine J6 (body:=Qa Try.f75 0) (QS jf) hrd (by kernel_rfl) ?_
 refine J3 (n0:=8) (QS jf) (by omega) (fun s hs=>Q3 (QS jf) 0 G _ hrd) (fun s hs=>(by decide:8≤40)) ?_ (QVl x hn hs) (s0:=0) (Nat.zero_le _) ?_
 ·rintro s e J ⟨_,rfl⟩;exact(by decide:8≤40)
 ·rintro e J ⟨rfl,rfl⟩;exact⟨_,List.mem_cons_self,trivial,rfl,rfl⟩
def nsU:UC:=⟨8,⟨1,[(0,.agg (JR 0 x))],Ve 0 x,8⟩,fun m => .ptr m 0 0,fun m=>srO m (m+1) x C⟩
abbrev QKf:List CK:=
  [.int .i64,.int .i64,.int .i64,.int .i64,.int .i64,.int .i64,.int .i64,.int .i64,.int .i64,.int .i64,.int .i64,.int .i64,.int .i64,.int .i64,.int .i64,.int .i64,.int
  .i64,.int .i64,.int .i64,.int .i64,.int .i64,.int .i64,.int .i64,.int .i64,.int .i64,.int .i64,.int .i64,.int .i64]
noncomputable abbrev QGJ(x:QE):List (Nat×Blk):=
  [(16,.cells 0 125 [vi x.d.play.length,vi x.d.play.slack,vi x.d.play.loose,vi x.d.play.damp.lo,.int false .i64
  x.d.play.damp.hi,vi x.d.wide,vi x.d.high,.bool false x.d.turn,.slz 0 0 x.d.ps.n cO,.slz 1 0 x.scans.n cO,.slz 2 0 x.hang.n (Cap.of
  0),vi x.lost,vi x.foreign,.slz 24 0 C.length cO]),(0,.frz QKf x.d.ps.n fun i=>QA.enc (x.d.ps.get i)),(1,.frz QKf x.scans.n fun i=>
  QA.enc (x.scans.get i)),(2,.frz [.int .i64,.int .i64,.int .i64,.int .i64] x.hang.n fun i=>QA.enc (x.hang.get i)),(24,.frz2 true 38 [.int .i64,.int .i64] C.length (fun
  i=>(QM C i).length) fun i j=>QA.enc ((QM C i).getD j ⟨0,0⟩))]
theorem QN1 :Vu (mkE Try.prog V7) (nsH Try.prog x C) Try.f75 (nsU x C) = .ask (0=0) (.ask (0=0) (.ask (0=0) (.ask (0=0) (.ask (0=0) (.ask (x.scans.n=x.scans.n) (.ask (cO
  = cO) (.ask ((x.scans.n:Int)=(x.scans.n:Int)) (.ask ((0:Int)=0) (.ask (x.d.play.length=x.d.play.length) (.ask (x.d.play.slack=x.d.play.slack) (.ask
  (x.d.play.loose=x.d.play.loose) (.ask (x.d.play.damp.lo=x.d.play.damp.lo) (.ask (x.d.play.damp.hi=x.d.play.damp.hi) (.ask (x.d.wide=x.d.wide) (.ask (x.d.high=x.d.high)
  (.ask (x.d.turn=x.d.turn) (.ask (0=0) (.ask (x.d.ps.n=x.d.ps.n) (.ask (cO=cO) (.ask (0=0) (.ask (x.scans.n=x.scans.n) (.ask (cO=cO) (.ask (0 =
  0) (.ask (x.hang.n=x.hang.n) (.ask (cO=cO) (.ask (x.lost=x.lost) (.ask (x.foreign=x.foreign) (.ask (x.d.play.length=x.d.play.length) (.ask (x.d.play.slack =
  x.d.play.slack) (.ask (x.d.play.loose=x.d.play.loose) (.ask (x.d.play.damp.lo=x.d.play.damp.lo) (.ask (x.d.play.damp.hi=x.d.play.damp.hi) (.ask (x.d.wide=x.d.wide) (.ask
  (x.d.high=x.d.high) (.ask (x.d.turn=x.d.turn) (.ask (0=0) (.ask (x.d.ps.n=x.d.ps.n) (.ask (cO=cO) (.ask (0=0) (.ask (x.scans.n=x.scans.n) (.ask (cO =
  cO) (.ask (0=0) (.ask (x.hang.n=x.hang.n) (.ask (cO=cO) (.ask (x.lost=x.lost) (.ask (x.foreign=x.foreign) (.ask (0=0) (.ask (0=0) (.ask (x.d.ps.n ≤
  x.d.ps.n) (.ask (QD 28 x.d.ps.n (fun i=>QA.enc (x.d.ps.get i)) fun i=>QA.enc (x.d.ps.get i)) (.ask (x.scans.n≤x.scans.n) (.ask (QD 28 x.scans.n (fun i=>QA.enc
  (x.scans.get i)) fun i=>QA.enc (x.scans.get i)) (.ask (x.hang.n≤x.hang.n) (.ask (QD 4 x.hang.n (fun i=>QA.enc (x.hang.get i)) fun i=>QA.enc (x.hang.get i)) (.asm
  (True) (.all (fun(g0:Nat→Value) => .leaf (.ptr 16 0 0) ((QGJ C x))))))))))))))))))))))))))))))))))))))))))))))))))))))))))):=by kernel_rfl
theorem QUK :QK 8 [(.ptr 16 0 0)] ((QGJ C x)) (JC (nsU x C))=(some [0=0,0=0,x.d.play.length=x.d.play.length,x.d.play.slack=x.d.play.slack,x.d.play.loose=x.d.play.loose,
  x.d.play.damp.lo=x.d.play.damp.lo,x.d.play.damp.hi=x.d.play.damp.hi,x.d.wide=x.d.wide,x.d.high=x.d.high,x.d.turn=x.d.turn,0=0,x.d.ps.n=x.d.ps.n,cO =
  cO,0=0,x.scans.n=x.scans.n,cO=cO,0=0,x.hang.n=x.hang.n,cO=cO,x.lost=x.lost,x.foreign=x.foreign,0=0,C.length=C.length,
  cO=cO,C.length=C.length,K0 2 C.length (fun i=>(QM C i).length) (fun i=>(QM C i).length) (fun i j=>QA.enc ((QM C i).getD j ⟨0,0⟩)) fun i j=>
  QA.enc ((QM C i).getD j ⟨0,0⟩)]):=by kernel_rfl
theorem qZ(nid:Nat):JL 8 8 nid (8+k)=nid+k:=by
 have:Nat.blt (8+k) 8=false:=qe (by omega)
 simp only[JL,this];omega
theorem jU{i:Nat}(h:i<8)(nid:Nat):JL 8 8 nid i=i:=by
 simp only[JL,jS h]
theorem QPU:(nsU x C).Ok:=by
 refine⟨(by decide:8≤8),rfl,rfl,?_,rfl,fun nid h => ?_,fun nid h => ?_⟩
 ·intro q hq;simp only[UC.po,nsU,srO,Zt,List.mem_cons,List.not_mem_nil,or_false]at hq;rcases hq with rfl|rfl
  ·exact⟨rfl,rfl,rfl,fun h=>absurd (show 8<8 from h) (by decide)⟩
  ·exact⟨rfl,rfl,rfl,fun h=>absurd (show 9<8 from h) (by decide)⟩
 ·have e0:=qZ 0 nid;simp only[UC.va,nsU,AV.mapId,Nat.add_zero]at e0 ⊢;rw[e0]
 ·have e0:=qZ 0 nid;have e1:=qZ 1 nid;have l0:=jU (i:=0) (by decide) nid
  have l1:=jU (i:=1) (by decide) nid
  have l2:=jU (i:=2) (by decide) nid
  simp only[UC.po,nsU,srO,Zt,JR,Qz.val,List.cons_append,List.nil_append,List.map_cons,List.map_nil,Blk.mapId,AV.mapId,AV.mapIdL,Nat.add_zero,Nat.zero_add]at e0 e1 l0 l1 l2 ⊢;rw[e0,e1,l0,l1,l2]
theorem QNS(hn:x.d.ps.n≤900)(hs:x.scans.n≤1000):QQ Try.prog 75 (uFC (nsU x (Qt x x.scans.n))):=by
 refine VX (E:=mkE Try.prog V7) (QS jf) Try.func75 (by kernel_rfl) (by kernel_rfl) (QPU ..) (QR8 x hn hs) ⟨?_⟩
 generalize Qt x x.scans.n=C;refine KB (QN1 x C) ?_
 repeat' first|refine QF rfl ?_|refine Qc (p:=_=_) rfl ?_|refine Qc (p:=_≤_) (qlr _) ?_|refine Qc (p:=QD _ _ _ _) (qRr) ?_|refine Qc (p:=K0 _ _ _ _ _ _) (Qh _ _ _ _) ?_
 refine KY fun _=>KX fun g=>⟨rfl,rfl,_,QUK x C,?_⟩
 repeat' first|exact trivial|with_reducible rfl|exact qlr _|exact qRr|exact Qh _ _ _ _|refine And.intro ?_ ?_
end Go.Proofs.Ytbpffdkemeoajaa
