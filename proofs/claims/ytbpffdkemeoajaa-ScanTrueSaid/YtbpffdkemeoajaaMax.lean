/- - -/
import Derived.Test.YtbpffdkemeoajaaMav
import Derived.Test.YtbpffdkemeoajaaMaw
open Go.IntKind (i64)
set_option maxRecDepth 100000
namespace Go.Proofs.Ytbpffdkemeoajaa
open Go.SX
variable (pb:List Prop→Bool)(x:QE)(C:List (List QB))(l:List QB)(k:Nat)
def QE.sz:Bool:=decide ((x.scans.n:Int)≤12)&&(decide ((x.hang.n:Int)≤12)&&(Qg x.lost 0 9&&Qg x.foreign 0 3))
def QE.ok(x:QE):Bool:=x.sz&&(x.d.ok&&(Ve x.d.play x.scans && !decide (Kl (jxO x)≥0)))
def jxR(e:Ex)(J:JSt):Prop:=(e = .ret∧(QU (JM x) (x.hang.n-k) k).isSome=true∧J=⟨19,[(4,.int false .i64 (Kl (QU (JM x) (x.hang.n-k) k)))],[],8⟩)∨(e = .exit 0∧QU (JM x) (x.hang.n-k) k=none∧J=⟨19,[],[],8⟩)
theorem Qa2(hl:x.hang.n≤1000):Ji (jxJ x) (fun k=>k≤x.hang.n) (fun k=>x.hang.n-k) (jxR x) 8 vE [] (mkE Try.prog XU) (fun _=>hnd (mkE Try.prog XU) 4) (Qd Try.f107 0):=by
 refine⟨fun k g hk=>Q0 (QYZ x k g) ?_⟩;refine QI (fun h => ?_) (fun h => ?_)
 ·have h:k<x.hang.n:=by have:=qdt h;omega
  obtain⟨n,hm⟩:∃ n,x.hang.n-k=n+1:=⟨x.hang.n-k-1,by omega⟩
  have hm':x.hang.n-(k+1)=n:=by omega
  have bad:JM x k=true→jxR x k .ret ⟨19,[(4,.int false .i64 k)],[],8⟩:=fun q=>by
   have hf:QU (JM x) (x.hang.n-k) k=some k:=by rw[hm,QU,q]
   exact .inl ⟨rfl,by rw[hf];rfl,by rw[hf];rfl⟩
  refine QF (by simp;omega) (QF (by simp;omega) (QF rfl (QI (fun h1 => ?_) (fun h1=>QF rfl (QI (fun h2 => ?_) (fun h2=>QI (fun h3 => ?_) (fun h3=>QF rfl (QI (fun h4 => ?_) (fun h4=>QF rfl (QI (fun h5 => ?_) (fun h5 => ?_)))))))))))
  ·exact⟨_,bad (by simp only[JM,Yj,h1,Bool.true_or]),rfl,rfl,_,qS _ _,⟨rfl,trivial⟩⟩
  ·exact⟨_,bad (by simp only[JM,Yj,h2,Bool.true_or,Bool.or_true]),rfl,rfl,_,qS _ _,⟨rfl,trivial⟩⟩
  ·exact⟨_,bad (by simp only[JM,Yj,h3,Bool.true_or,Bool.or_true]),rfl,rfl,_,qS _ _,⟨rfl,trivial⟩⟩
  ·exact⟨_,bad (by simp only[JM,Yj,h4,Bool.true_or,Bool.or_true]),rfl,rfl,_,qS _ _,⟨rfl,trivial⟩⟩
  ·exact⟨_,bad (by simp only[JM,Yj,h5,Bool.or_true]),rfl,rfl,_,qS _ _,⟨rfl,trivial⟩⟩
  ·have q:JM x k=false:=by simp only[JM,Yj,h1,h2,h3,h4,h5,Bool.or_self]
   have hf:QU (JM x) (x.hang.n-k) k=QU (JM x) (x.hang.n-(k+1)) (k+1):=by rw[hm,hm',QU,q]
   refine⟨k+1,by omega,by show x.hang.n-(k+1)<x.hang.n-k;omega,fun e J h=>by unfold jxR at h ⊢;rw[hf];exact h,rfl,rfl,_,QZs x k (k+1),?_⟩
   have hw:i64.wrap ((k:Int)+1)=((k+1:Nat):Int):=(w64 (by omega) (by omega)).trans (by omega)
   repeat' first|exact trivial|with_reducible rfl|exact qlr _|exact qRr|exact hw|refine And.intro ?_ ?_
 ·have h:x.hang.n≤k:=by have:=of_decide_eq_false h;omega
  have hf:QU (JM x) (x.hang.n-k) k=none:=by rw[show x.hang.n-k=0 by omega];rfl
  exact⟨_,.inr ⟨rfl,hf,rfl⟩,rfl,rfl,_,QHX,trivial⟩
def jxX:List (Prop×Ex×JSt):=[((jxO x).isSome=true,.ret,⟨19,[(4,.int false .i64 (Kl (jxO x)))],[],8⟩),(jxO x=none,.exit 0,⟨19,[],[],8⟩)]
abbrev jxH(P:Program)(x:QE):Hnd:={ hnd (mkE P XU) 1 with loop:=fun _=>KN 8 [] (jxJ x (0:Nat)) (jxX x) }
theorem QSw(hl:x.hang.n≤1000)(G:Ctx)(hrd:G.rd=none)(hG:G.n=8):KH (mkE Try.prog XU) G (jxH Try.prog x) (Qr Try.f107):=by
 refine Jd (body:=Qd Try.f107 0) (QT qG) hrd (by kernel_rfl) ?_
 refine Ju (n0:=8) (QT qG) (by omega) (fun s hs=>Qz (QT qG) 4 G _ hrd) (fun s hs=>qlr _) ?_ (Qa2 x hl) (s0:=0) (Nat.zero_le _) ?_
 ·rintro s e J (⟨_,_,rfl⟩|⟨_,_,rfl⟩)<;>exact qlr _
 ·rintro e J (⟨rfl,h,rfl⟩|⟨rfl,h,rfl⟩)
  ·exact⟨_,List.mem_cons_self,h,rfl,rfl⟩
  ·exact⟨_,List.mem_cons_of_mem _ List.mem_cons_self,h,rfl,rfl⟩
theorem Qc3 :Jw (mkE Try.prog XU) (jxH Try.prog x) Try.f107 (jxU x) = .ask (0=0) (.ask (x.hang.n=x.hang.n) (.ask (cO=cO) (.ask (Fn.func (93:FuncId)=Fn.func (93 :
  FuncId)) (.ask (0=0) (.ask (0=0) (.ask ((x.hang.n:Int)=(x.hang.n:Int)) (.ask ((0:Int)=0) (.ask (Fn.func (92:FuncId)=Fn.func (92:FuncId)) (.ask (0=0) (.ask (0 =
  0) (.ask (x.d.play.length=x.d.play.length) (.ask (x.d.play.slack=x.d.play.slack) (.ask (x.d.play.loose=x.d.play.loose) (.ask (x.d.play.damp.lo=x.d.play.damp.lo) (.ask
  (x.d.play.damp.hi=x.d.play.damp.hi) (.ask (x.d.wide=x.d.wide) (.ask (x.d.high=x.d.high) (.ask (x.d.turn=x.d.turn) (.ask (0=0) (.ask (x.d.ps.n=x.d.ps.n) (.ask (cO =
  cO) (.ask (0=0) (.ask (x.scans.n=x.scans.n) (.ask (cO=cO) (.ask (0=0) (.ask (x.hang.n=x.hang.n) (.ask (cO=cO) (.ask (x.lost=x.lost) (.ask
  (x.foreign=x.foreign) (.ask (x.d.ps.n≤x.d.ps.n) (.ask (QC 28 x.d.ps.n (fun i=>QA.enc (x.d.ps.get i)) fun i=>QA.enc (x.d.ps.get i)) (.ask (x.scans.n≤x.scans.n)
  (.ask (QC 28 x.scans.n (fun i=>QA.enc (x.scans.get i)) fun i=>QA.enc (x.scans.get i)) (.ask (x.hang.n≤x.hang.n) (.ask (QC 4 x.hang.n (fun i=>QA.enc (x.hang.get
  i)) fun i=>QA.enc (x.hang.get i)) (.both (.asm ((jxO x).isSome=true) (.all (fun(g0:Nat→Value) => .leaf (.int false .i64 (Kl (jxO x))) ([])))) (.asm (jxO x=none)
  (.all (fun(g1:Nat→Value) => .leaf (.int true .i64 (-1)) ([])))))))))))))))))))))))))))))))))))))))):=by kernel_rfl
theorem Qaq:QK 8 [(AV.int false i64 (Kl (jxO x)))] ([]) (Kk (jxU x))=(
  some [Kl (jxO x)=Kl (jxO x)]):=by kernel_rfl
theorem QaI:QK 8 [(AV.int true i64 (-1:Int))] ([]) (Kk (jxU x))=(
  some [(-1:Int)=Kl (jxO x)]):=by kernel_rfl
theorem QZN(hl:x.hang.n≤1000):QQ Try.prog 107 (uFC (jxU x)):=by
 refine JZ (E:=mkE Try.prog XU) (QT qG) Try.func107 (by kernel_rfl) (by kernel_rfl) (GB (Nat.zero_le _) rfl rfl fun _=>rfl) (QSw x hl) ⟨?_⟩
 refine Q0 (Qc3 x) ?_
 repeat' first|refine Qb (show _=_ by with_reducible rfl) ?_|refine Qb (show _≤_ from qlr _) ?_|refine Qb (show QC _ _ _ _ from qRr) ?_
 refine Yu (KO fun h=>KK fun g => ?_) (KO fun h=>KK fun g => ?_)
 ·exact⟨rfl,rfl,_,Qaq x,⟨rfl,trivial⟩⟩
 ·refine⟨rfl,rfl,_,QaI x,⟨?_,trivial⟩⟩;rw[h];rfl
def QDC:Tab:=Qe XU 107 (Jj pb (jxU x))
theorem QbG:Jw (mkE Try.prog (QDC pb x)) (hnd (mkE Try.prog (QDC pb x)) 1) Try.f94 (cxU x) =
  QD.need (pb ([(0:Nat)=(0:Nat),x.hang.n=x.hang.n,Cap.of (0:Nat)=Cap.of (0:Nat),Fn.func (93:Nat)=Fn.func (93:Nat),(0:Nat)=(0:Nat),(0:Nat)=(0 :
  Nat),Fn.func (92:Nat)=Fn.func (92:Nat),(0:Nat)=(0:Nat),(0:Nat)=(0:Nat),x.d.play.length=x.d.play.length,x.d.play.slack=x.d.play.slack,x.d.play.loose =
  x.d.play.loose,x.d.play.damp.lo=x.d.play.damp.lo,x.d.play.damp.hi=x.d.play.damp.hi,x.d.wide=x.d.wide,x.d.high=x.d.high,x.d.turn=x.d.turn,(0:Nat)=(0:Nat),
  x.d.ps.n=x.d.ps.n,Cap.of (0:Nat)=Cap.of (0:Nat),(0:Nat)=(0:Nat),x.scans.n=x.scans.n,Cap.of (0:Nat)=Cap.of (0:Nat),(0:Nat)=(0:Nat),x.hang.n =
  x.hang.n,Cap.of (0:Nat)=Cap.of (0:Nat),x.lost=x.lost,x.foreign=x.foreign,x.d.ps.n≤x.d.ps.n,QC (28:Nat) x.d.ps.n (fun i=>QA.enc (x.d.ps.get i)) fun i=>
  QA.enc (x.d.ps.get i),x.scans.n≤x.scans.n,QC (28:Nat) x.scans.n (fun i=>QA.enc (x.scans.get i)) fun i=>QA.enc (x.scans.get i),x.hang.n≤x.hang.n,QC (4 :
  Nat) x.hang.n (fun i=>QA.enc (x.hang.get i)) fun i=>QA.enc (x.hang.get i)])) (QD.leaf (AV.bool false (decide (Kl (jxO x)≥(0:Int)))) ([])):=by kernel_rfl
theorem Qby:QK 8 [(AV.bool false (decide (Kl (jxO x)≥(0:Int))))] ([]) (Kk (cxU x))=(
  some [decide (Kl (jxO x)≥(0:Int))=decide (Kl (jxO x)≥(0:Int))]):=by kernel_rfl
def HS:Tab:=Qe XU 94 (Jj pb (cxU x))
theorem QWv :Kc (mkE Try.prog (HS pb x)) (hnd (mkE Try.prog (HS pb x)) 1) Try.f74 (QX.vals 0 ((x,()):QE×Unit)) (QX.blks 0 ((x,()):QE×Unit)) 8 = .br (decide
  ((x.scans.n:Int)≤12)) (.br (decide ((x.hang.n:Int)≤12)) (.need (true) (.br (Qg x.lost (0:Int) (9:Int)) (.need (true) (.br (Qg x.foreign (0:Int) (3:Int))
  (.need (decide (x.d.ps.n≤x.d.ps.n)&&true&&decide (x.d.ps.n≤1000)) (.br (x.d.ok) (.need (true&&(decide (x.scans.n≤x.scans.n)&&true)&&decide (x.scans.n≤1000)) (.br
  (Ve x.d.play x.scans) (.need (pb ([0=0,x.hang.n=x.hang.n,cO=cO,Fn.func 93=Fn.func 93,0=0,0=0,Fn.func 92=Fn.func 92,0=0,0=0,x.d.play.length =
  x.d.play.length,x.d.play.slack=x.d.play.slack,x.d.play.loose=x.d.play.loose,x.d.play.damp.lo=x.d.play.damp.lo,x.d.play.damp.hi=x.d.play.damp.hi,x.d.wide=x.d.wide,
  x.d.high=x.d.high,x.d.turn=x.d.turn,0=0,x.d.ps.n=x.d.ps.n,cO=cO,0=0,x.scans.n=x.scans.n,cO=cO,0=0,x.hang.n=x.hang.n,cO =
  cO,x.lost=x.lost,x.foreign=x.foreign,x.d.ps.n≤x.d.ps.n,QC 28 x.d.ps.n (fun i=>QA.enc (x.d.ps.get i)) fun i=>QA.enc (x.d.ps.get i),x.scans.n≤x.scans.n,
  QC 28 x.scans.n (fun i=>QA.enc (x.scans.get i)) fun i=>QA.enc (x.scans.get i),x.hang.n≤x.hang.n,QC 4 x.hang.n (fun i=>QA.enc (x.hang.get i)) fun i=>
  QA.enc (x.hang.get i)])) (.leaf (.bool false !decide (Kl (jxO x)≥0)) ([]))) (.leaf (.bool true false) ([])))) (.leaf (.bool true false) ([])))) (.leaf (.bool true false)
  ([])))) (.leaf (.bool true false) ([])))) (.leaf (.bool true false) ([]))) (.leaf (.bool true false) ([])):=by kernel_rfl
theorem Qbv(hl:x.hang.n≤1000):Qc (QDC QS x):=qG.add (QZN x hl)
theorem QVA(hl:x.hang.n≤1000):QQ Try.prog 94 (uFC (cxU x)):=by
 have hE:=QT (Qbv x hl);refine JZ (E:=mkE Try.prog (QDC QS x)) hE (c:=Qr Try.f94) Try.func94 (by kernel_rfl) (by kernel_rfl) (GB (Nat.zero_le _) rfl rfl fun _=>rfl) (fun G h1 _=>Qz hE 1 G _ h1) ⟨?_⟩
 refine Q0 (QbG QS x) ?_;refine QF (Q4.2 ?_) ⟨rfl,rfl,_,Qby x,⟨rfl,trivial⟩⟩
 repeat' first|exact trivial|with_reducible rfl|exact qlr _|exact qRr|refine And.intro ?_ ?_
theorem QSa(hl:x.hang.n≤1000):Qc (HS QS x):=qG.add (QVA x hl)
def vx:WF (QE×Unit):=fun|(x,_)=>(decide (x.d.ps.n≤1000∧x.scans.n≤1000∧x.hang.n≤1000),.bool false x.ok,[])
def QPj:FC:=wFC vx
theorem QXV(hx:(vx (x,())).1=true):QQ Try.prog 74 (wFC (Jq vx (x,()))):=by
 obtain⟨h1,h2,h3⟩:=qdt hx;have hE:=QT (QSa x h3);refine X8 (c:=Qr Try.f74) (E:=mkE Try.prog (HS QS x)) (H:=hnd (mkE Try.prog (HS QS x)) 1) hE Try.func74 (by kernel_rfl) (by kernel_rfl) (N:=8) (by decide) (x,()) (fun G h1 _=>Qz hE 1 G _ h1) ⟨rfl,by simp[vx],rfl⟩ ?_
 refine Q0 (QWv QS x) ?_;have no:x.ok=false→(QD.leaf (AV.bool true false) []).den (XG 8 (vx (x,())).2.1 (vx (x,())).2.2):=fun h=>JE (show false=x.ok by rw[h]) rfl
 refine QI (fun a1=>QI (fun a2=>QF rfl (QI (fun a3=>QF rfl (QI (fun a4=>QF (by simp;omega) (QI (fun a5=>QF (by simp;omega) (QI (fun a6=>QF (Q4.2 ?_) (JE ?_ rfl)) (fun a6=>no ?_))) (fun a5=>no ?_))) (fun a4=>no ?_))) (fun a3=>no ?_))) (fun a2=>no ?_)) (fun a1=>no ?_)
 ·repeat' first|exact trivial|with_reducible rfl|exact qlr _|exact qRr|refine And.intro ?_ ?_
 ·show(!decide (Kl (jxO x)≥0))=x.ok;simp only[QE.ok,QE.sz,a1,a2,a3,a4,a5,a6,Bool.true_and]
 ·simp only[QE.ok,a6,Bool.false_and,Bool.and_false]
 ·simp only[QE.ok,a5,Bool.false_and,Bool.and_false]
 ·simp only[QE.ok,QE.sz,a4,Bool.false_and,Bool.and_false]
 ·simp only[QE.ok,QE.sz,a3,Bool.false_and,Bool.and_false]
 ·simp only[QE.ok,QE.sz,a2,Bool.false_and,Bool.and_false]
 ·simp only[QE.ok,QE.sz,a1,Bool.false_and]
theorem QdC:QQ Try.prog 74 QPj:=Gg (by kernel_rfl) fun|(x,()),h=>QXV x h
def Qn:Tab:=Qe XU 74 QPj
theorem Q6:Qc Qn:=qG.add QdC
def QJ(i:Nat):List QB:=C.getD i []
def Y0(own:Bool)(id:Nat)(C:List (List QB)):Nat×Blk:=(id,.frz2 own 38 [.int .i64,.int .i64] C.length (fun i=>(QJ C i).length) fun i j=>QA.enc ((QJ C i).getD j ⟨0,0⟩))
def srC:List AV:=Jt 0 x++[.slz 4 0 C.length (.of 0)]
def srB:List (Nat×Blk):=[(3,.cellsR 0 125 (srC x C)),Y0 false 4 C]++VY 0 x
def zg(j:Jn)(a:QB):Int:=(j.i+a.turn).tmod 4
def XD(j:Jn)(a b:QB):Bool:=cond ((a.cell == -2)||(b.cell == -2)) ((a.cell==b.cell)&&((a.turn==b.turn)&&true)) ((QV x.d.wide x.d.high a.cell (zg j a)==b.cell)&&((j.j+b.turn).tmod 4==Gd (zg j a)))
def hgU(j:Jn)(a b:QB):UC:=⟨0,⟨4,[(0,.ptr 3 0 0),(1,Enc.enc j),(2,Enc.enc a),(3,Enc.enc b)],srB x C,8⟩,fun _ => .bool false (XD x j a b),fun _=>[]⟩
theorem QcN(j:Jn)(a b:QB):Jw (mkE Try.prog Qn) (hnd (mkE Try.prog Qn) 1) Try.f95 (hgU x C j a b) =
  QD.br (a.cell==(-2:Int)) (QD.leaf (AV.bool false (a.cell==b.cell&&(a.turn==b.turn&&true))) ([])) (QD.br (b.cell==(-2:Int)) (QD.leaf (AV.bool false (a.cell ==
  b.cell&&(a.turn==b.turn&&true))) ([])) (QD.need (decide (x.d.ps.n≤x.d.ps.n)&&(true&&(true&&true))&&decide (((1:Int)≤x.d.wide∧x.d.wide≤(100:Int))∧((1 :
  Int)≤x.d.high∧x.d.high≤(100:Int))∧(0:Int)≤a.cell∧a.cell≤(100:Int))) (QD.br (QV x.d.wide x.d.high a.cell ((i64.wrap (j.i+a.turn)).tmod (4:Int)) ==
  b.cell) (QD.need (decide ((0:Int)≤(i64.wrap (j.i+a.turn)).tmod (4:Int)∧(i64.wrap (j.i+a.turn)).tmod (4:Int)≤(3:Int))) (QD.leaf (AV.bool false
  ((i64.wrap (j.j+b.turn)).tmod (4:Int)==Gd ((i64.wrap (j.i+a.turn)).tmod (4:Int)))) ([]))) (QD.leaf (AV.bool true false) ([]))))):=by kernel_rfl
theorem QUl(j:Jn)(a b:QB)(c v:Bool):QK 8 [.bool c v] [] (Kk (hgU x C j a b))=(
  some [v=XD x j a b]):=by kernel_rfl
structure K4 (s:QB):Prop where
 cell:s.cell = -2∨0≤s.cell∧s.cell≤100
 turn:0≤s.turn∧s.turn≤3
structure JnB (j:Jn):Prop where
 i:0≤j.i∧j.i≤3
 j:0≤j.j∧j.j≤3
theorem QYk{n:Int}(h:0≤n):0≤n.tmod 4∧n.tmod 4≤3:=by
 have h1:=Int.tmod_nonneg 4 h;have h2:=Int.tmod_lt_of_pos n (show(0:Int)<4 by decide)
 omega
theorem QZn(j:Jn)(a b:QB)(hd:W4 x.d)(hj:JnB j)(ha:K4 a)(hb:K4 b):QQ Try.prog 95 (uFC (hgU x C j a b)):=by
 refine JZ (E:=mkE Try.prog Qn) (QT Q6) (c:=Qr Try.f95) Try.func95 (by kernel_rfl) (by kernel_rfl) (GB (Nat.zero_le _) rfl rfl fun _=>rfl) (fun G h1 _=>Qz (QT Q6) 1 G _ h1) ⟨?_⟩
 refine Q0 (QcN x C j a b) ?_;have hw:=hd.w1;have hwn:=hd.wn;have hh:=hd.h1;have hhn:=hd.hn;have h9:=hd.n9;have ha2:=ha.turn;have hb2:=hb.turn;have hi:=hj.i;have hjj:=hj.j;have fin:∀(c v:Bool),v=XD x j a b→(QD.leaf (.bool c v) []).den (jO (hgU x C j a b)):=fun c v h=>⟨rfl,rfl,_,QUl x C j a b c v,⟨h,trivial⟩⟩;have w1:i64.wrap (j.i+a.turn)=j.i+a.turn:=w64 (by omega) (by omega)
 have w2:i64.wrap (j.j+b.turn)=j.j+b.turn:=w64 (by omega) (by omega)
 have m:=QYk (n:=j.i+a.turn) (by omega)
 rw[w1,w2];refine QI (fun h=>fin _ _ ?_) (fun h=>QI (fun h2=>fin _ _ ?_) (fun h2=>QF ?_ (QI (fun h3=>QF ?_ (fin _ _ ?_)) (fun h3=>fin _ _ ?_))))
 ·simp only[XD,h,Bool.true_or,cond_true]
 ·simp only[XD,h2,Bool.or_true,cond_true]
 ·have:¬ a.cell = -2:=by simpa using h
  have:=ha.cell;simp only[qlr,decide_true,Bool.true_and,qdE];omega
 ·simp only[qdE];exact m
 ·simp only[XD,h,h2,Bool.or_self,cond_false,zg,h3,Bool.true_and]
 ·simp only[XD,h,h2,Bool.or_self,cond_false,zg,h3,Bool.false_and]
def frS(id:Nat)(l:List QB):Nat×Blk:=(id,.frz [.int .i64,.int .i64] l.length fun i=>QA.enc (l.getD i ⟨0,0⟩))
def ftB:List (Nat×Blk):=frS 5 l::srB x C
def ftJ:JSt:=⟨45,[(0,.ptr 3 0 0),(1,.slz 5 0 l.length (.of 0)),(5,.int false .i64 ((l.length:Int)-1)),(15,.slz 2 0 x.hang.n (.of 0)),(16,.int false .i64 x.hang.n),(17,.int false .i64 k)],ftB x C l,32⟩
def QQ2:Ex→List Nat
 | .normal=>[0,1,5,15,16,17]
 | .exit _=>[]
 | .ret=>[4]
def QFD:JSt:=⟨45,[(4,.bool false false)],[],32⟩
def QGN:JSt:=⟨45,[],[],32⟩
def QHj:UC:=hgU x C (x.hang.get k) (l.getD (x.hang.get k).a.toNat ⟨0,0⟩) (l.getD (x.hang.get k).b.toNat ⟨0,0⟩)
def QGn(U:UC):Tab:=Qe Qn 95 (Jj pb U)
noncomputable abbrev QOZ(l:List QB)(x:QE):List AV:=
  [.nilp,.ptr 45 0 0,.ptr 3 0 0,.slz 5 0 l.length cO,vi ((l.length:Int)-1),.slz 2 0 x.hang.n cO,vi (x.hang.n:Int),.int false
  .i64 (i64.wrap ((k:Int)+1))]
abbrev QIG:List CK:=
  [.int .i64,.int .i64,.int .i64,.int .i64,.int .i64,.int .i64,.int .i64,.int .i64,.int .i64,.int .i64,.int .i64,.int .i64,.int .i64,.int .i64,.int .i64,.int .i64,.int
  .i64,.int .i64,.int .i64,.int .i64,.int .i64,.int .i64,.int .i64,.int .i64,.int .i64,.int .i64,.int .i64,.int .i64]
noncomputable abbrev QBX(x:QE):List (Nat×Blk):=
  [(3,.cellsR 0 125 [vi x.d.play.length,vi x.d.play.slack,vi x.d.play.loose,vi x.d.play.damp.lo,.int false .i64
  x.d.play.damp.hi,vi x.d.wide,vi x.d.high,.bool false x.d.turn,.slz 0 0 x.d.ps.n cO,.slz 1 0 x.scans.n cO,.slz 2 0 x.hang.n (Cap.of
  0),vi x.lost,vi x.foreign,.slz 4 0 C.length cO]),(5,.frz [.int .i64,.int .i64] l.length fun i=>QA.enc (l.getD i ⟨0,0⟩)),(2,.frz [.int
  .i64,.int .i64,.int .i64,.int .i64] x.hang.n fun i=>QA.enc (x.hang.get i)),(0,.frz QIG x.d.ps.n fun i=>QA.enc (x.d.ps.get i)),(1,.frz QIG x.scans.n fun i=>
  QA.enc (x.scans.get i)),(4,.frz2 false 38 [.int .i64,.int .i64] C.length (fun i=>(QJ C i).length) fun i j=>QA.enc ((QJ C i).getD j ⟨0,0⟩))]
theorem QYN(g:Nat→Value):exec (mkE Try.prog (QGn pb (QHj x C l k))) (hnd (mkE Try.prog (QGn pb (QHj x C l k))) 0) (Qd Try.f78 0) (JSt.inst (ftJ x C l k) g) (KS [] QQ2) = .br (decide ((k :
  Int)<(x.hang.n:Int))) (.need (decide ((0:Int)≤(k:Int)∧(k:Int)<(x.hang.n:Int))&&decide (x.hang.n≤x.hang.n)) (.need (decide (k<x.hang.n)) (.br (max (x.hang.get
  k).a (x.hang.get k).b==(l.length:Int)-1) (.need (decide ((0:Int)≤(x.hang.get k).a∧(x.hang.get k).a<(l.length:Int))&&decide (l.length≤l.length)) (.need (decide
  ((x.hang.get k).a.toNat<l.length)) (.need (decide ((0:Int)≤(x.hang.get k).b∧(x.hang.get k).b<(l.length:Int))&&decide (l.length≤l.length)) (.need (decide ((x.hang.get
  k).b.toNat<l.length)) (.need (pb ([0=0,0=0,(x.hang.get k).a=(x.hang.get k).a,(x.hang.get k).i=(x.hang.get k).i,(x.hang.get k).b=(x.hang.get k).b,(x.hang.get k).j =
  (x.hang.get k).j,(l.getD (x.hang.get k).a.toNat ⟨0,0⟩).cell=(l.getD (x.hang.get k).a.toNat ⟨0,0⟩).cell,(l.getD (x.hang.get k).a.toNat ⟨0,0⟩).turn=(l.getD (x.hang.get
  k).a.toNat ⟨0,0⟩).turn,(l.getD (x.hang.get k).b.toNat ⟨0,0⟩).cell=(l.getD (x.hang.get k).b.toNat ⟨0,0⟩).cell,(l.getD (x.hang.get k).b.toNat ⟨0,0⟩).turn=(l.getD (x.hang.get
  k).b.toNat ⟨0,0⟩).turn,x.d.play.length=x.d.play.length,x.d.play.slack=x.d.play.slack,x.d.play.loose=x.d.play.loose,x.d.play.damp.lo=x.d.play.damp.lo,x.d.play.damp.hi =
  x.d.play.damp.hi,x.d.wide=x.d.wide,x.d.high=x.d.high,x.d.turn=x.d.turn,0=0,x.d.ps.n=x.d.ps.n,cO=cO,0=0,x.scans.n=x.scans.n,cO=cO,
  0=0,x.hang.n=x.hang.n,cO=cO,x.lost=x.lost,x.foreign=x.foreign,0=0,C.length=C.length,cO=cO,C.length=C.length,Kd 2 C.length
  (fun i=>(QJ C i).length) (fun i=>(QJ C i).length) (fun i j=>QA.enc ((QJ C i).getD j ⟨0,0⟩)) fun i j=>QA.enc ((QJ C i).getD j ⟨0,0⟩),x.d.ps.n≤x.d.ps.n,
  QC 28 x.d.ps.n (fun i=>QA.enc (x.d.ps.get i)) fun i=>QA.enc (x.d.ps.get i),x.scans.n≤x.scans.n,QC 28 x.scans.n (fun i=>QA.enc (x.scans.get i)) fun i=>
  QA.enc (x.scans.get i),x.hang.n≤x.hang.n,QC 4 x.hang.n (fun i=>QA.enc (x.hang.get i)) fun i=>QA.enc (x.hang.get i)])) (.br (!XD x (x.hang.get k) (l.getD
  (x.hang.get k).a.toNat ⟨0,0⟩) (l.getD (x.hang.get k).b.toNat ⟨0,0⟩)) (.leaf (.tup [.nili,.ptr 45 0 0,.bool true false]) ([])) (.leaf (.tup (QOZ k l x)) ((QBX C l x)))))))))
  (.leaf (.tup (QOZ k l x)) ((QBX C l x)))))) (.leaf (.tup [.ptr 0 0 0,.ptr 45 0 0]) ([])):=by kernel_rfl
theorem Qcw :QK 8 [AV.bool true false] ([]) QFD=(
  some [false=false]):=by kernel_rfl
noncomputable abbrev QKz(l:List QB)(x:QE):List AV:=
  [.ptr 3 0 0,.slz 5 0 l.length cO,vi ((l.length:Int)-1),.slz 2 0 x.hang.n cO,vi (x.hang.n:Int),vi (i64.wrap
  ((k:Int)+1))]
abbrev QI4(k':Nat)(l:List QB)(x:QE):List Prop:=
  [0=0,0=0,0=0,l.length=l.length,cO=cO,(l.length:Int)-1=(l.length:Int)-1,0=0,x.hang.n=x.hang.n,cO=cO,(x.hang.n:Int) =
  (x.hang.n:Int),i64.wrap ((k:Int)+1)=(k':Int),l.length≤l.length,QC 2 l.length (fun i=>QA.enc (l.getD i ⟨0,0⟩)) fun i=>QA.enc (l.getD i ⟨0,0⟩),
  x.d.play.length=x.d.play.length,x.d.play.slack=x.d.play.slack,x.d.play.loose=x.d.play.loose,x.d.play.damp.lo=x.d.play.damp.lo,x.d.play.damp.hi=x.d.play.damp.hi,
  x.d.wide=x.d.wide,x.d.high=x.d.high,x.d.turn=x.d.turn,0=0,x.d.ps.n=x.d.ps.n,cO=cO,0=0,x.scans.n=x.scans.n,cO=cO,0=0,x.hang.n =
  x.hang.n,cO=cO,x.lost=x.lost,x.foreign=x.foreign,0=0,C.length=C.length,cO=cO,C.length=C.length,Kd 2 C.length (fun i=>(QJ C
  i).length) (fun i=>(QJ C i).length) (fun i j=>QA.enc ((QJ C i).getD j ⟨0,0⟩)) fun i j=>QA.enc ((QJ C i).getD j ⟨0,0⟩),x.d.ps.n≤x.d.ps.n,QC 28 x.d.ps.n (fun
  i=>QA.enc (x.d.ps.get i)) fun i=>QA.enc (x.d.ps.get i),x.scans.n≤x.scans.n,QC 28 x.scans.n (fun i=>QA.enc (x.scans.get i)) fun i=>QA.enc (x.scans.get i),
  x.hang.n≤x.hang.n,QC 4 x.hang.n (fun i=>QA.enc (x.hang.get i)) fun i=>QA.enc (x.hang.get i)]
theorem QaU(k k':Nat):QK 8 (QKz k l x) ((QBX C l x)) (ftJ x C l k')=(some (QI4 C k k' l x)):=by kernel_rfl
theorem QSY(k k':Nat):QK 8 (QKz k l x) ((QBX C l x)) (ftJ x C l k')=(some (QI4 C k k' l x)):=by kernel_rfl
theorem QVx :QK 8 [] ([]) QGN=(
  some []):=by kernel_rfl
theorem QZ(m:Nat)(n:Nat)(ln:Nat→Nat)(g:Nat→Nat→Nat→Int):Kd m n ln ln g g:=fun _ _=>⟨rfl,qRr⟩
def Yy:Bool:=max (x.hang.get k).a (x.hang.get k).b==(l.length:Int)-1
def Vq:Bool:=Yy x l k && !XD x (x.hang.get k) (l.getD (x.hang.get k).a.toNat ⟨0,0⟩) (l.getD (x.hang.get k).b.toNat ⟨0,0⟩)
def Kj:Bool:=(QU (Vq x l) x.hang.n 0).isNone
structure K7 (x:QE):Prop where
 d:W4 x.d
 n:x.hang.n≤12
 s:x.scans.n≤12
 j:∀ k,k<x.hang.n→JnB (x.hang.get k)∧(0≤(x.hang.get k).a∧(x.hang.get k).a<x.scans.n)∧0≤(x.hang.get k).b∧(x.hang.get k).b<x.scans.n
structure zD (l:List QB):Prop where
 pos:0<l.length
 le:l.length≤1000
 s:∀ i,i<l.length→K4 (l.getD i ⟨0,0⟩)
noncomputable def zu:List Prop→Bool:=match decide (k<x.hang.n)&&Yy x l k with
 | true=>QS
 | false=>fun _=>false
noncomputable def jF(P:Program)(x:QE)(C:List (List QB))(l:List QB)(k:Nat):Env:=mkE P (QGn (zu x l k) (QHj x C l k))
theorem QOP{x:QE}{l:List QB}(hx:K7 x)(hl:zD l){k:Nat}(hk:k<x.hang.n)(hm:Yy x l k=true):(0≤(x.hang.get k).a∧(x.hang.get k).a<l.length)∧0≤(x.hang.get k).b∧(x.hang.get k).b<l.length:=by
 obtain⟨_,h1,h2⟩:=hx.j k hk;have:=hl.pos;simp only[Yy,beq_iff_eq]at hm;omega
theorem QIp{x:QE}{C:List (List QB)}{l:List QB}(hx:K7 x)(hl:zD l)(k:Nat):(jF Try.prog x C l k).Sound:=by
 unfold jF zu;split
 ·rename_i hc;simp only[qbA,qdE]at hc;obtain⟨h1,h2⟩:=QOP hx hl hc.1 hc.2;exact QT (Q6.add (QZn x C _ _ _ hx.d (hx.j k hc.1).1 (hl.s _ (by omega)) (hl.s _ (by omega))))
 ·exact QT (Q6.add (Zt (by kernel_rfl) _))
def ftR(e:Ex)(J:JSt):Prop:=(e = .ret∧(QU (Vq x l) (x.hang.n-k) k).isNone=false∧J=QFD)∨(e = .exit 0∧(QU (Vq x l) (x.hang.n-k) k).isNone=true∧J=QGN)
theorem QTd(hx:K7 x)(hl:zD l):jN (ftJ x C l) (fun k=>k≤x.hang.n) (fun k=>x.hang.n-k) (ftR x l) 8 QQ2 [] (jF Try.prog x C l) (fun k=>hnd (jF Try.prog x C l k) 0) (Qd Try.f78 0):=by
 refine⟨fun k g hk => ?_⟩;unfold jF;refine Q0 (QYN (zu x l k) x C l k g) ?_;have h12:=hx.n;refine QI (fun h => ?_) (fun h => ?_)
 ·have h:k<x.hang.n:=by have:=qdt h;omega
  obtain⟨m,hm⟩:∃ m,x.hang.n-k=m+1:=⟨x.hang.n-k-1,by omega⟩
  have hm':x.hang.n-(k+1)=m:=by omega
  have hw:i64.wrap ((k:Int)+1)=((k+1:Nat):Int):=(w64 (by omega) (by omega)).trans (by omega)
  have go:Vq x l k=false→∀ e J,ftR x l (k+1) e J→ftR x l k e J:=fun q e J h=>by
   have hf:QU (Vq x l) (x.hang.n-k) k=QU (Vq x l) (x.hang.n-(k+1)) (k+1):=by rw[hm,hm',QU,q]
   unfold ftR at h ⊢;rw[hf];exact h
  refine QF (by simp;omega) (QF (by simp;omega) (QI (fun hb => ?_) (fun hb => ?_)))
  ·have hb:Yy x l k=true:=hb;obtain⟨i1,i2⟩:=QOP hx hl h hb;have hpb:zu x l k=QS:=by simp only[zu,hb,decide_eq_true h,Bool.and_self]
   rw[hpb];refine QF (by simp;omega) (QF (by simp;omega) (QF (by simp;omega) (QF (by simp;omega) (QF (Q4.2 ?_) (QI (fun hq => ?_) (fun hq => ?_))))))
   ·repeat' first|exact trivial|with_reducible rfl|exact qlr _|exact qRr|exact QZ _ _ _ _|refine And.intro ?_ ?_
   ·have q:Vq x l k=true:=by simp only[Vq,hb,Bool.true_and];exact hq
    have hf:QU (Vq x l) (x.hang.n-k) k=some k:=by rw[hm,QU,q]
    exact⟨_,.inl ⟨rfl,by rw[hf];rfl,rfl⟩,rfl,rfl,_,Qcw,⟨rfl,trivial⟩⟩
   ·have q:Vq x l k=false:=by simp only[Vq,hb,Bool.true_and];exact hq
    refine⟨k+1,by show k+1≤x.hang.n;omega,by show x.hang.n-(k+1)<x.hang.n-k;omega,go q,rfl,rfl,_,QaU x C l k (k+1),?_⟩
    repeat' first|exact trivial|with_reducible rfl|exact qlr _|exact qRr|exact QZ _ _ _ _|exact hw|refine And.intro ?_ ?_
  ·have hb:Yy x l k=false:=hb;have q:Vq x l k=false:=by simp only[Vq,hb,Bool.false_and]
   refine⟨k+1,by show k+1≤x.hang.n;omega,by show x.hang.n-(k+1)<x.hang.n-k;omega,go q,rfl,rfl,_,QSY x C l k (k+1),?_⟩
   repeat' first|exact trivial|with_reducible rfl|exact qlr _|exact qRr|exact QZ _ _ _ _|exact hw|refine And.intro ?_ ?_
 ·have h:x.hang.n≤k:=by have:=of_decide_eq_false h;omega
  have hf:QU (Vq x l) (x.hang.n-k) k=none:=by rw[show x.hang.n-k=0 by omega];rfl
  exact⟨_,.inr ⟨rfl,by rw[hf];rfl,rfl⟩,rfl,rfl,_,QVx,trivial⟩
def ftX:List (Prop×Ex×JSt):=[(Kj x l=false,.ret,QFD),(Kj x l=true,.exit 0,QGN)]
abbrev ftH(P:Program)(x:QE)(C:List (List QB))(l:List QB):Hnd:={ hnd (mkE P Qn) 1 with loop:=fun _=>KN 8 [] (ftJ x C l (0:Nat)) (ftX x l) }
theorem QVO(hx:K7 x)(hl:zD l)(G:Ctx)(hrd:G.rd=none)(hG:G.n=8):KH (mkE Try.prog Qn) G (ftH Try.prog x C l) (Qr Try.f78):=by
 refine Jd (body:=Qd Try.f78 0) (QT Q6) hrd (by kernel_rfl) ?_
 refine zx (E0:=mkE Try.prog Qn) (E:=jF Try.prog x C l) (H:=fun k=>hnd (jF Try.prog x C l k) 0) (n0:=8) (s0:=0) (fun _=>rfl) (QIp hx hl) (by omega) (fun k _=>Qz (QIp hx hl k) 0 G _ hrd) (fun k _=>(by decide:8≤32)) ?_ (QTd x C l hx hl) (Nat.zero_le _) ?_
 ·rintro s e J (⟨_,_,rfl⟩|⟨_,_,rfl⟩)<;>exact(by decide:8≤32)
 ·rintro e J (⟨rfl,h,rfl⟩|⟨rfl,h,rfl⟩)
  ·exact⟨_,List.mem_cons_self,h,rfl,rfl⟩
  ·exact⟨_,List.mem_cons_of_mem _ List.mem_cons_self,h,rfl,rfl⟩
def ftU:UC:=⟨0,⟨2,[(0,.ptr 3 0 0),(1,.slz 5 0 l.length (.of 0))],ftB x C l,8⟩,fun _ => .bool false (Kj x l),fun _=>[]⟩
theorem QS3 :Jw (mkE Try.prog Qn) (ftH Try.prog x C l) Try.f78 (ftU x C l) = .ask (0=0) (.ask (0=0) (.ask (0=0) (.ask (l.length=l.length) (.ask (cO=cO) (.ask
  (i64.wrap ((l.length:Int)-1)=(l.length:Int)-1) (.ask (0=0) (.ask (x.hang.n=x.hang.n) (.ask (cO=cO) (.ask ((x.hang.n:Int)=(x.hang.n:Int))
  (.ask ((0:Int)=0) (.ask (l.length≤l.length) (.ask (QC 2 l.length (fun i=>QA.enc (l.getD i ⟨0,0⟩)) fun i=>QA.enc (l.getD i ⟨0,0⟩)) (.ask (x.d.play.length =
  x.d.play.length) (.ask (x.d.play.slack=x.d.play.slack) (.ask (x.d.play.loose=x.d.play.loose) (.ask (x.d.play.damp.lo=x.d.play.damp.lo) (.ask (x.d.play.damp.hi =
  x.d.play.damp.hi) (.ask (x.d.wide=x.d.wide) (.ask (x.d.high=x.d.high) (.ask (x.d.turn=x.d.turn) (.ask (0=0) (.ask (x.d.ps.n=x.d.ps.n) (.ask (cO=cO) (.ask (0
  = 0) (.ask (x.scans.n=x.scans.n) (.ask (cO=cO) (.ask (0=0) (.ask (x.hang.n=x.hang.n) (.ask (cO=cO) (.ask (x.lost=x.lost) (.ask (x.foreign =
  x.foreign) (.ask (0=0) (.ask (C.length=C.length) (.ask (cO=cO) (.ask (C.length=C.length) (.ask (Kd 2 C.length (fun i=>(QJ C i).length) (fun i=>(QJ C
  i).length) (fun i j=>QA.enc ((QJ C i).getD j ⟨0,0⟩)) fun i j=>QA.enc ((QJ C i).getD j ⟨0,0⟩)) (.ask (x.d.ps.n≤x.d.ps.n) (.ask (QC 28 x.d.ps.n (fun i=>QA.enc
  (x.d.ps.get i)) fun i=>QA.enc (x.d.ps.get i)) (.ask (x.scans.n≤x.scans.n) (.ask (QC 28 x.scans.n (fun i=>QA.enc (x.scans.get i)) fun i=>QA.enc (x.scans.get i))
  (.ask (x.hang.n≤x.hang.n) (.ask (QC 4 x.hang.n (fun i=>QA.enc (x.hang.get i)) fun i=>QA.enc (x.hang.get i)) (.both (.asm (Kj x l=false) (.all (fun(g0:Nat →
  Value) => .leaf (.bool false false) ([])))) (.asm (Kj x l=true) (.all (fun(g1:Nat→Value) => .leaf (.bool true true) ([]))))))))))))))))))))))))))))))))))))))))))))))):=by kernel_rfl
theorem QRX(c v:Bool):QK 8 [.bool c v] [] (Kk (ftU x C l))=(
  some [v=Kj x l]):=by kernel_rfl
theorem QCI(hx:K7 x)(hl:zD l):QQ Try.prog 78 (uFC (ftU x C l)):=by
 refine JZ (E:=mkE Try.prog Qn) (QT Q6) Try.func78 (by kernel_rfl) (by kernel_rfl) (GB (Nat.zero_le _) rfl rfl fun _=>rfl) (QVO x C l hx hl) ⟨?_⟩
 refine Q0 (QS3 x C l) ?_;have hp:=hl.pos;have hle:=hl.le;have hw:i64.wrap ((l.length:Int)-1)=(l.length:Int)-1:=w64 (by omega) (by omega)
 repeat' first|refine QF rfl ?_|refine Qb (show _=_ by with_reducible rfl) ?_|refine Qb (show _≤_ from qlr _) ?_|refine Qb (show QC _ _ _ _ from qRr) ?_|refine Qb (show Kd _ _ _ _ _ _ from QZ _ _ _ _) ?_|refine Qb (p:=i64.wrap ((l.length:Int)-1)=(l.length:Int)-1) hw ?_
 refine Yu (KO fun h=>KK fun g => ?_) (KO fun h=>KK fun g => ?_)
 ·exact⟨rfl,rfl,_,QRX x C l _ _,⟨h.symm,trivial⟩⟩
 ·exact⟨rfl,rfl,_,QRX x C l _ _,⟨h.symm,trivial⟩⟩
end Go.Proofs.Ytbpffdkemeoajaa
namespace Go.SX
open Go Go.RowKit Go.Proofs.Ytbpffdkemeoajaa
def ZC(fc:FC):FC:=fun args nid _=>fc args nid (Xi (AV.idsFromL 0 args) [])
theorem Z0{P:Program}{f:FuncId}{fc:FC}(h:QQ P f fc):QQ P f (ZC fc):=
 ⟨h.1,fun args nid _ r w lk blks eff hH ha hv he hp=>h.2 args nid (Xi (AV.idsFromL 0 args) []) r w lk blks eff hH ha hv he hp⟩
end Go.SX
namespace Go.Proofs.Ytbpffdkemeoajaa
open Go.SX
def Xc:Tab:=Qe Qn 43 (ZC QEU)
theorem zV:Qc Xc:=Q6.add (Z0 QPh)
def vK:QB:=⟨-2,0⟩
variable (x:QE)(C:List (List QB))(l:List QB)(k:Nat)
def ZV:List QB:=vK::KR x.d (x.scans.get k) x.d.ps.n
def Qo(x:QE):Nat→List (List QB)
 | 0=>[]
 | k+1=>Qo x k++[ZV x k]
def srO(id c:Nat)(x:QE)(C:List (List QB)):List (Nat×Blk):=[(id,.cells 0 125 (Jt 0 x++[.slz c 0 C.length (.of 0)])),Y0 true c C]
def nsJ:JSt:=⟨34,[(1,.ptr 8 0 0),(3,.ptr 16 0 0),(10,.slz 1 0 x.scans.n (.of 0)),(11,.int false .i64 x.scans.n),(12,.int false .i64 k)],[(8,.cells 0 50 (Jt 0 x))]++srO 16 24 x C++VY 0 x,40⟩
def QOg:Ex→List Nat
 | .normal=>[1,3,10,11,12]
 | .exit _=>[3]
 | .ret=>[]
def nsE:JSt:=⟨34,[(3,.ptr 16 0 0)],srO 16 24 x C++VY 0 x,40⟩
abbrev QCg:List CK:=
  [.int .i64,.int .i64,.int .i64,.int .i64,.int .i64,.int .i64,.int .i64,.int .i64,.int .i64,.int .i64,.int .i64,.int .i64,.int .i64,.int .i64,.int .i64,.int .i64,.int
  .i64,.int .i64,.int .i64,.int .i64,.int .i64,.int .i64,.int .i64,.int .i64,.int .i64,.int .i64,.int .i64,.int .i64]
noncomputable abbrev QL6(x:QE):List (Nat×Blk):=
  [(8,.cells 0 50 [vi x.d.play.length,vi x.d.play.slack,vi x.d.play.loose,vi x.d.play.damp.lo,.int false .i64
  x.d.play.damp.hi,vi x.d.wide,vi x.d.high,.bool false x.d.turn,.slz 0 0 x.d.ps.n cO,.slz 1 0 x.scans.n cO,.slz 2 0 x.hang.n (Cap.of
  0),vi x.lost,vi x.foreign]),(16,.cells 0 125 [vi x.d.play.length,vi x.d.play.slack,vi x.d.play.loose,.int
  false .i64 x.d.play.damp.lo,vi x.d.play.damp.hi,vi x.d.wide,vi x.d.high,.bool false x.d.turn,.slz 0 0 x.d.ps.n cO,.slz 1 0
  x.scans.n cO,.slz 2 0 x.hang.n cO,vi x.lost,vi x.foreign,.slz 184 0 (C.length+1) cO]),(1,.frz QCg x.scans.n fun i=>
  QA.enc (x.scans.get i)),(0,.frz QCg x.d.ps.n fun i=>QA.enc (x.d.ps.get i)),(2,.frz [.int .i64,.int .i64,.int .i64,.int .i64] x.hang.n fun i=>QA.enc (x.hang.get
  i)),(184,.frz2 true 38 [.int .i64,.int .i64] (C.length+1) (YE C.length (fun i=>(QJ C i).length) (1+(KR x.d (x.scans.get k) x.d.ps.n).length)) (Yx C.length (fun i
  j=>QA.enc ((QJ C i).getD j ⟨0,0⟩)) (QY 1 (QR [[vj (-2),vj 0]] 0) fun i=>QA.enc ((KR x.d (x.scans.get k) x.d.ps.n).getD i ⟨0,0⟩))))]
noncomputable abbrev QLm(x:QE):List (Nat×Blk):=
  [(16,.cells 0 125 [vi x.d.play.length,vi x.d.play.slack,vi x.d.play.loose,vi x.d.play.damp.lo,.int false .i64
  x.d.play.damp.hi,vi x.d.wide,vi x.d.high,.bool false x.d.turn,.slz 0 0 x.d.ps.n cO,.slz 1 0 x.scans.n cO,.slz 2 0 x.hang.n (Cap.of
  0),vi x.lost,vi x.foreign,.slz 24 0 C.length cO]),(0,.frz QCg x.d.ps.n fun i=>QA.enc (x.d.ps.get i)),(1,.frz QCg x.scans.n fun i=>
  QA.enc (x.scans.get i)),(2,.frz [.int .i64,.int .i64,.int .i64,.int .i64] x.hang.n fun i=>QA.enc (x.hang.get i)),(24,.frz2 true 38 [.int .i64,.int .i64] C.length (fun
  i=>(QJ C i).length) fun i j=>QA.enc ((QJ C i).getD j ⟨0,0⟩))]
theorem QWe(g:Nat→Value):exec (mkE Try.prog Xc) (hnd (mkE Try.prog Xc) 0) (Qd Try.f75 0) (JSt.inst (nsJ x C k) g) (KS [] QOg) = .br (decide ((k:Int)<(x.scans.n:Int))) (.need (decide ((0
  : Int)≤(k:Int)∧(k:Int)<(x.scans.n:Int))&&decide (x.scans.n≤x.scans.n)) (.need (decide (k<x.scans.n)) (.need (decide (x.d.ps.n≤x.d.ps.n)&&(true&&true) &&
  decide (x.d.ps.n≤900)) (.need (true&&(decide ((KR x.d (x.scans.get k) x.d.ps.n).length≤(KR x.d (x.scans.get k) x.d.ps.n).length)&&decide ((1+(KR x.d (x.scans.get
  k) x.d.ps.n).length+(1+(KR x.d (x.scans.get k) x.d.ps.n).length) / 4+192)*16≤281474976710656∧1+(KR x.d (x.scans.get k) x.d.ps.n).length≤9223372036854775807)))
  (.need (decide (C.length=C.length)&&(decide (1+(KR x.d (x.scans.get k) x.d.ps.n).length≤1+(KR x.d (x.scans.get k) x.d.ps.n).length)&&decide ((C.length+1 +
  (C.length+1) / 4+192)*24≤281474976710656∧C.length+1≤9223372036854775807))) (.leaf (.tup [.nilp,.ptr 34 0 0,.ptr 8 0 0,.ptr 16 0 0,.slz 1 0 x.scans.n cO,
  .int false .i64 (x.scans.n:Int),vi (i64.wrap ((k:Int)+1))]) ((QL6 C k x)))))))) (.leaf (.tup [.ptr 0 0 0,.ptr 34 0 0,.ptr 16 0 0]) ((QLm C x))):=by kernel_rfl
abbrev QFv:List Prop:=
  [x.d.play.slack=x.d.play.slack,x.d.play.loose=x.d.play.loose,x.d.play.damp.lo=x.d.play.damp.lo,x.d.play.damp.hi=x.d.play.damp.hi,x.d.wide=x.d.wide,x.d.high =
  x.d.high,x.d.turn=x.d.turn,0=0,x.d.ps.n=x.d.ps.n,cO=cO,0=0,x.scans.n=x.scans.n,cO=cO,0=0,x.hang.n=x.hang.n,cO=cO]
abbrev QMA:List Prop:=
  [x.d.ps.n≤x.d.ps.n,QC 28 x.d.ps.n (fun i=>QA.enc (x.d.ps.get i)) fun i=>QA.enc (x.d.ps.get i),x.scans.n≤x.scans.n,QC 28 x.scans.n (fun i=>QA.enc
  (x.scans.get i)) fun i=>QA.enc (x.scans.get i),x.hang.n≤x.hang.n,QC 4 x.hang.n (fun i=>QA.enc (x.hang.get i)) fun i=>QA.enc (x.hang.get i)]
theorem QT8(C C':List (List QB))(k k':Nat):QK 8 [.ptr 8 0 0,.ptr 16 0 0,.slz 1 0 x.scans.n cO,vi (x.scans.n:Int),vi (i64.wrap ((k:Int)+1))] ((QL6 C k x)) (nsJ x C' k') =
  (some ([0=0,0=0,0=0,0=0,0=0,x.scans.n=x.scans.n,cO=cO,(x.scans.n:Int)=(x.scans.n:Int),i64.wrap ((k:Int)+1)=(k':Int),
  x.d.play.length=x.d.play.length]++(QFv x)++[x.lost=x.lost,x.foreign=x.foreign,x.d.play.length=x.d.play.length]++(QFv x)++[x.lost=x.lost,x.foreign=x.foreign,
  0=0,C.length+1=C'.length,cO=cO,C.length+1=C'.length,Kd 2 C'.length (YE C.length (fun i=>(QJ C i).length) (1+(KR x.d (x.scans.get k)
  x.d.ps.n).length)) (fun i=>(QJ C' i).length) (Yx C.length (fun i j=>QA.enc ((QJ C i).getD j ⟨0,0⟩)) (QY 1 (QR [[vj (-2),vj 0]] 0) fun i
  => QA.enc ((KR x.d (x.scans.get k) x.d.ps.n).getD i ⟨0,0⟩))) fun i j=>QA.enc ((QJ C' i).getD j ⟨0,0⟩)]++(QMA x))):=by kernel_rfl
theorem QRe(C C':List (List QB)):QK 8 [.ptr 16 0 0] ((QLm C x)) (nsE x C')=(some ([0=0,0=0,x.d.play.length=x.d.play.length]++(QFv x)++[x.lost=x.lost,x.foreign=x.foreign,0=0,C.length =
  C'.length,cO=cO,C.length=C'.length,Kd 2 C'.length (fun i=>(QJ C i).length) (fun i=>(QJ C' i).length) (fun i j=>QA.enc ((QJ C i).getD j ⟨0,0⟩))
  fun i j=>QA.enc ((QJ C' i).getD j ⟨0,0⟩)]++(QMA x))):=by kernel_rfl
theorem QD0(w:List QB)(i:Nat):QJ (C++[w]) i=if i<C.length then QJ C i else if i=C.length then w else []:=by
 unfold QJ;rw[List.getD_eq_getElem?_getD,List.getD_eq_getElem?_getD]
 by_cases h:i<C.length
 ·rw[if_pos h,List.getElem?_append_left h]
 ·rw[if_neg h,List.getElem?_append_right (by omega)]
  by_cases h2:i=C.length
  ·subst h2;simp
  ·rw[if_neg h2,List.getElem?_eq_none (by simp;omega)];rfl
theorem QbD:QC 2 (1+l.length) (QY 1 (QR [[AV.int true .i64 (-2),AV.int true .i64 0]] 0) fun i=>QA.enc (l.getD i ⟨0,0⟩)) fun i=>QA.enc ((vK::l).getD i ⟨0,0⟩):=by
 intro i hi;cases i with
 | zero=>exact⟨rfl,rfl,trivial⟩
 | succ i=>
  refine⟨?_,?_,trivial⟩ <;>
   (show QY 1 _ _ (i+1) _=_
    rw[VX,if_neg (by omega)]
    simp)
theorem QWp:Kd 2 (C++[vK::l]).length (YE C.length (fun i=>(QJ C i).length) (1+l.length)) (fun i=>(QJ (C++[vK::l]) i).length)
  (Yx C.length (fun i j=>QA.enc ((QJ C i).getD j ⟨0,0⟩)) (QY 1 (QR [[AV.int true .i64 (-2),AV.int true .i64 0]] 0) fun i=>QA.enc (l.getD i ⟨0,0⟩))) (fun i j=>QA.enc ((QJ (C++[vK::l]) i).getD j ⟨0,0⟩)):=by
 intro i hi;rw[List.length_append,List.length_singleton]at hi
 by_cases h:i<C.length
 ·simp only[YE,Yx,vI h,QD0,if_pos h];exact⟨trivial,qRr⟩
 ·have e:i=C.length:=by omega
  simp only[YE,Yx,ve h,QD0,if_neg h,if_pos e];refine⟨by simp;omega,?_⟩
  have:=QbD l;rw[show(vK::l).length=1+l.length by simp;omega]
  exact this
theorem Zh(x:QE):∀ k,(Qo x k).length=k
 | 0=>rfl
 | k+1=>by simp[Qo,Zh x k]
theorem QV0(hn:x.d.ps.n≤900)(hs:x.scans.n≤1000):Ji (fun k=>nsJ x (Qo x k) k) (fun k=>k≤x.scans.n) (fun k=>x.scans.n-k) (fun _ e J=>e = .exit 0∧J=nsE x (Qo x x.scans.n)) 8 QOg [] (mkE Try.prog Xc) (fun _=>hnd (mkE Try.prog Xc) 0) (Qd Try.f75 0):=by
 refine⟨fun k g hk=>Q0 (QWe x _ k g) ?_⟩;have hlen:=Zh x k;refine QI (fun h => ?_) (fun h => ?_)
 ·have h:k<x.scans.n:=by have:=qdt h;omega
  have hw:i64.wrap ((k:Int)+1)=((k+1:Nat):Int):=(w64 (by omega) (by omega)).trans (by omega)
  have hl:=Gt x.d (x.scans.get k) x.d.ps.n;refine QF (by simp;omega) (QF (by simp;omega) (QF (by simp;omega) (QF (by simp;omega) (QF (by simp;omega) ?_))))
  refine⟨k+1,h,by show x.scans.n-(k+1)<x.scans.n-k;omega,fun _ _ h=>h,rfl,rfl,_,QT8 x (Qo x k) (Qo x (k+1)) k (k+1),?_⟩
  have e2:(Qo x k).length+1=(Qo x (k+1)).length:=by rw[Zh,Zh]
  repeat' first|exact trivial|with_reducible rfl|exact qlr _|exact qRr|exact hw|exact e2|exact QWp _ _|refine And.intro ?_ ?_
 ·have:k=x.scans.n:=by have:=of_decide_eq_false h;omega
  subst this;refine⟨_,⟨rfl,rfl⟩,rfl,rfl,_,QRe x _ _,?_⟩
  repeat' first|exact trivial|with_reducible rfl|exact qlr _|exact qRr|exact QZ _ _ _ _|refine And.intro ?_ ?_
abbrev nsH(P:Program)(x:QE)(C:List (List QB)):Hnd:={ hnd (mkE P Xc) 1 with loop:=fun _=>KN 8 [] (nsJ x [] (0:Nat)) [(True,.exit 0,nsE x C)] }
theorem QYm(hn:x.d.ps.n≤900)(hs:x.scans.n≤1000)(G:Ctx)(hrd:G.rd=none)(hG:G.n=8):KH (mkE Try.prog Xc) G (nsH Try.prog x (Qo x x.scans.n)) (Qr Try.f75):=by
 refine Jd (body:=Qd Try.f75 0) (QT zV) hrd (by kernel_rfl) ?_
 refine Ju (n0:=8) (QT zV) (by omega) (fun s hs=>Qz (QT zV) 0 G _ hrd) (fun s hs=>(by decide:8≤40)) ?_ (QV0 x hn hs) (s0:=0) (Nat.zero_le _) ?_
 ·rintro s e J ⟨_,rfl⟩;exact(by decide:8≤40)
 ·rintro e J ⟨rfl,rfl⟩;exact⟨_,List.mem_cons_self,trivial,rfl,rfl⟩
def nsU:UC:=⟨8,⟨1,[(0,.agg (Jt 0 x))],VY 0 x,8⟩,fun m => .ptr m 0 0,fun m=>srO m (m+1) x C⟩
abbrev QH9:List CK:=
  [.int .i64,.int .i64,.int .i64,.int .i64,.int .i64,.int .i64,.int .i64,.int .i64,.int .i64,.int .i64,.int .i64,.int .i64,.int .i64,.int .i64,.int .i64,.int .i64,.int
  .i64,.int .i64,.int .i64,.int .i64,.int .i64,.int .i64,.int .i64,.int .i64,.int .i64,.int .i64,.int .i64,.int .i64]
noncomputable abbrev QIA(x:QE):List (Nat×Blk):=
  [(16,.cells 0 125 [vi x.d.play.length,vi x.d.play.slack,vi x.d.play.loose,vi x.d.play.damp.lo,.int false .i64
  x.d.play.damp.hi,vi x.d.wide,vi x.d.high,.bool false x.d.turn,.slz 0 0 x.d.ps.n cO,.slz 1 0 x.scans.n cO,.slz 2 0 x.hang.n (Cap.of
  0),vi x.lost,vi x.foreign,.slz 24 0 C.length cO]),(0,.frz QH9 x.d.ps.n fun i=>QA.enc (x.d.ps.get i)),(1,.frz QH9 x.scans.n fun i=>
  QA.enc (x.scans.get i)),(2,.frz [.int .i64,.int .i64,.int .i64,.int .i64] x.hang.n fun i=>QA.enc (x.hang.get i)),(24,.frz2 true 38 [.int .i64,.int .i64] C.length (fun
  i=>(QJ C i).length) fun i j=>QA.enc ((QJ C i).getD j ⟨0,0⟩))]
theorem QXG :Jw (mkE Try.prog Xc) (nsH Try.prog x C) Try.f75 (nsU x C) = .ask (0=0) (.ask (0=0) (.ask (0=0) (.ask (0=0) (.ask (0=0) (.ask (x.scans.n=x.scans.n) (.ask (cO
  = cO) (.ask ((x.scans.n:Int)=(x.scans.n:Int)) (.ask ((0:Int)=0) (.ask (x.d.play.length=x.d.play.length) (.ask (x.d.play.slack=x.d.play.slack) (.ask
  (x.d.play.loose=x.d.play.loose) (.ask (x.d.play.damp.lo=x.d.play.damp.lo) (.ask (x.d.play.damp.hi=x.d.play.damp.hi) (.ask (x.d.wide=x.d.wide) (.ask (x.d.high=x.d.high)
  (.ask (x.d.turn=x.d.turn) (.ask (0=0) (.ask (x.d.ps.n=x.d.ps.n) (.ask (cO=cO) (.ask (0=0) (.ask (x.scans.n=x.scans.n) (.ask (cO=cO) (.ask (0 =
  0) (.ask (x.hang.n=x.hang.n) (.ask (cO=cO) (.ask (x.lost=x.lost) (.ask (x.foreign=x.foreign) (.ask (x.d.play.length=x.d.play.length) (.ask (x.d.play.slack =
  x.d.play.slack) (.ask (x.d.play.loose=x.d.play.loose) (.ask (x.d.play.damp.lo=x.d.play.damp.lo) (.ask (x.d.play.damp.hi=x.d.play.damp.hi) (.ask (x.d.wide=x.d.wide) (.ask
  (x.d.high=x.d.high) (.ask (x.d.turn=x.d.turn) (.ask (0=0) (.ask (x.d.ps.n=x.d.ps.n) (.ask (cO=cO) (.ask (0=0) (.ask (x.scans.n=x.scans.n) (.ask (cO =
  cO) (.ask (0=0) (.ask (x.hang.n=x.hang.n) (.ask (cO=cO) (.ask (x.lost=x.lost) (.ask (x.foreign=x.foreign) (.ask (0=0) (.ask (0=0) (.ask (x.d.ps.n ≤
  x.d.ps.n) (.ask (QC 28 x.d.ps.n (fun i=>QA.enc (x.d.ps.get i)) fun i=>QA.enc (x.d.ps.get i)) (.ask (x.scans.n≤x.scans.n) (.ask (QC 28 x.scans.n (fun i=>QA.enc
  (x.scans.get i)) fun i=>QA.enc (x.scans.get i)) (.ask (x.hang.n≤x.hang.n) (.ask (QC 4 x.hang.n (fun i=>QA.enc (x.hang.get i)) fun i=>QA.enc (x.hang.get i)) (.asm
  (True) (.all (fun(g0:Nat→Value) => .leaf (.ptr 16 0 0) ((QIA C x))))))))))))))))))))))))))))))))))))))))))))))))))))))))))):=by kernel_rfl
theorem QXp :QK 8 [(.ptr 16 0 0)] ((QIA C x)) (Kk (nsU x C))=(some [0=0,0=0,x.d.play.length=x.d.play.length,x.d.play.slack=x.d.play.slack,x.d.play.loose=x.d.play.loose,
  x.d.play.damp.lo=x.d.play.damp.lo,x.d.play.damp.hi=x.d.play.damp.hi,x.d.wide=x.d.wide,x.d.high=x.d.high,x.d.turn=x.d.turn,0=0,x.d.ps.n=x.d.ps.n,cO =
  cO,0=0,x.scans.n=x.scans.n,cO=cO,0=0,x.hang.n=x.hang.n,cO=cO,x.lost=x.lost,x.foreign=x.foreign,0=0,C.length=C.length,
  cO=cO,C.length=C.length,Kd 2 C.length (fun i=>(QJ C i).length) (fun i=>(QJ C i).length) (fun i j=>QA.enc ((QJ C i).getD j ⟨0,0⟩)) fun i j=>
  QA.enc ((QJ C i).getD j ⟨0,0⟩)]):=by kernel_rfl
theorem zN(nid:Nat):Je 8 8 nid (8+k)=nid+k:=by
 have:Nat.blt (8+k) 8=false:=ve (by omega)
 simp only[Je,this];omega
theorem v9{i:Nat}(h:i<8)(nid:Nat):Je 8 8 nid i=i:=by
 simp only[Je,vI h]
theorem QUp:(nsU x C).Ok:=by
 refine⟨(by decide:8≤8),rfl,rfl,?_,rfl,fun nid h => ?_,fun nid h => ?_⟩
 ·intro q hq;simp only[UC.po,nsU,srO,Y0,List.mem_cons,List.not_mem_nil,or_false]at hq;rcases hq with rfl|rfl
  ·exact⟨rfl,rfl,rfl,fun h=>absurd (show 8<8 from h) (by decide)⟩
  ·exact⟨rfl,rfl,rfl,fun h=>absurd (show 9<8 from h) (by decide)⟩
 ·have e0:=zN 0 nid;simp only[UC.va,nsU,AV.mapId,Nat.add_zero]at e0 ⊢;rw[e0]
 ·have e0:=zN 0 nid;have e1:=zN 1 nid;have l0:=v9 (i:=0) (by decide) nid
  have l1:=v9 (i:=1) (by decide) nid
  have l2:=v9 (i:=2) (by decide) nid
  simp only[UC.po,nsU,srO,Y0,Jt,Q3.val,List.cons_append,List.nil_append,List.map_cons,List.map_nil,Blk.mapId,AV.mapId,AV.mapIdL,Nat.add_zero,Nat.zero_add]at e0 e1 l0 l1 l2 ⊢;rw[e0,e1,l0,l1,l2]
theorem QUe(hn:x.d.ps.n≤900)(hs:x.scans.n≤1000):QQ Try.prog 75 (uFC (nsU x (Qo x x.scans.n))):=by
 refine JZ (E:=mkE Try.prog Xc) (QT zV) Try.func75 (by kernel_rfl) (by kernel_rfl) (QUp ..) (QYm x hn hs) ⟨?_⟩
 generalize Qo x x.scans.n=C;refine Q0 (QXG x C) ?_
 repeat' first|refine QF rfl ?_|refine Qb (p:=_=_) rfl ?_|refine Qb (p:=_≤_) (qlr _) ?_|refine Qb (p:=QC _ _ _ _) (qRr) ?_|refine Qb (p:=Kd _ _ _ _ _ _) (QZ _ _ _ _) ?_
 refine KO fun _=>KK fun g=>⟨rfl,rfl,_,QXp x C,?_⟩
 repeat' first|exact trivial|with_reducible rfl|exact qlr _|exact qRr|exact QZ _ _ _ _|refine And.intro ?_ ?_
end Go.Proofs.Ytbpffdkemeoajaa
