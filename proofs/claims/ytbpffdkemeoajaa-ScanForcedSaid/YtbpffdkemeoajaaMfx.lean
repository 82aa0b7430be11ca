/- - -/
import Derived.Test.YtbpffdkemeoajaaMfv
import Derived.Test.YtbpffdkemeoajaaMfw
open Go.IntKind (i64)
set_option maxRecDepth 100000
namespace Go.Proofs.Ytbpffdkemeoajaa
open Go.SX
variable (pb:List Prop→Bool)(x:QE)(C:List (List QB))(l:List QB)(k:Nat)
def QE.sz:Bool:=decide ((x.scans.n:Int)≤12)&&(decide ((x.hang.n:Int)≤12)&&(QW x.lost 0 9&&QW x.foreign 0 3))
def QE.ok(x:QE):Bool:=x.sz&&(x.d.ok&&(VK x.d.play x.scans && !decide (KY (jxO x)≥0)))
def jxR(e:Ex)(J:JSt):Prop:=(e = .ret∧(QM (JD x) (x.hang.n-k) k).isSome=true∧J=⟨19,[(4,.int false .i64 (KY (QM (JD x) (x.hang.n-k) k)))],[],8⟩)∨(e = .exit 0∧QM (JD x) (x.hang.n-k) k=none∧J=⟨19,[],[],8⟩)
theorem QZZ(hl:x.hang.n≤1000):JJ (jxJ x) (fun k=>k≤x.hang.n) (fun k=>x.hang.n-k) (jxR x) 8 vN [] (mkE Try.prog V4) (fun _=>hnd (mkE Try.prog V4) 4) (QX Try.f107 0):=by
 refine⟨fun k g hk=>Q2 (QSX x k g) ?_⟩;refine QG (fun h => ?_) (fun h => ?_)
 ·have h:k<x.hang.n:=by have:=qdt h;omega
  obtain⟨n,hm⟩:∃ n,x.hang.n-k=n+1:=⟨x.hang.n-k-1,by omega⟩
  have hm':x.hang.n-(k+1)=n:=by omega
  have bad:JD x k=true→jxR x k .ret ⟨19,[(4,.int false .i64 k)],[],8⟩:=fun q=>by
   have hf:QM (JD x) (x.hang.n-k) k=some k:=by rw[hm,QM,q]
   exact .inl ⟨rfl,by rw[hf];rfl,by rw[hf];rfl⟩
  refine QF (by simp;omega) (QF (by simp;omega) (QF rfl (QG (fun h1 => ?_) (fun h1=>QF rfl (QG (fun h2 => ?_) (fun h2=>QG (fun h3 => ?_) (fun h3=>QF rfl (QG (fun h4 => ?_) (fun h4=>QF rfl (QG (fun h5 => ?_) (fun h5 => ?_)))))))))))
  ·exact⟨_,bad (by simp only[JD,Zo,h1,Bool.true_or]),rfl,rfl,_,jE _ _,⟨rfl,trivial⟩⟩
  ·exact⟨_,bad (by simp only[JD,Zo,h2,Bool.true_or,Bool.or_true]),rfl,rfl,_,jE _ _,⟨rfl,trivial⟩⟩
  ·exact⟨_,bad (by simp only[JD,Zo,h3,Bool.true_or,Bool.or_true]),rfl,rfl,_,jE _ _,⟨rfl,trivial⟩⟩
  ·exact⟨_,bad (by simp only[JD,Zo,h4,Bool.true_or,Bool.or_true]),rfl,rfl,_,jE _ _,⟨rfl,trivial⟩⟩
  ·exact⟨_,bad (by simp only[JD,Zo,h5,Bool.or_true]),rfl,rfl,_,jE _ _,⟨rfl,trivial⟩⟩
  ·have q:JD x k=false:=by simp only[JD,Zo,h1,h2,h3,h4,h5,Bool.or_self]
   have hf:QM (JD x) (x.hang.n-k) k=QM (JD x) (x.hang.n-(k+1)) (k+1):=by rw[hm,hm',QM,q]
   refine⟨k+1,by omega,by show x.hang.n-(k+1)<x.hang.n-k;omega,fun e J h=>by unfold jxR at h ⊢;rw[hf];exact h,rfl,rfl,_,QPS x k (k+1),?_⟩
   have hw:i64.wrap ((k:Int)+1)=((k+1:Nat):Int):=(w64 (by omega) (by omega)).trans (by omega)
   repeat' first|exact trivial|with_reducible rfl|exact qlr _|exact qRr|exact hw|refine And.intro ?_ ?_
 ·have h:x.hang.n≤k:=by have:=of_decide_eq_false h;omega
  have hf:QM (JD x) (x.hang.n-k) k=none:=by rw[show x.hang.n-k=0 by omega];rfl
  exact⟨_,.inr ⟨rfl,hf,rfl⟩,rfl,rfl,_,QFT,trivial⟩
def jxX:List (Prop×Ex×JSt):=[((jxO x).isSome=true,.ret,⟨19,[(4,.int false .i64 (KY (jxO x)))],[],8⟩),(jxO x=none,.exit 0,⟨19,[],[],8⟩)]
abbrev jxH(P:Program)(x:QE):Hnd:={ hnd (mkE P V4) 1 with loop:=fun _=>KD 8 [] (jxJ x (0:Nat)) (jxX x) }
theorem QSx(hl:x.hang.n≤1000)(G:Ctx)(hrd:G.rd=none)(hG:G.n=8):KC (mkE Try.prog V4) G (jxH Try.prog x) (Qs Try.f107):=by
 refine Jj (body:=QX Try.f107 0) (QT Wb) hrd (by kernel_rfl) ?_
 refine JW (n0:=8) (QT Wb) (by omega) (fun s hs=>Qy (QT Wb) 4 G _ hrd) (fun s hs=>qlr _) ?_ (QZZ x hl) (s0:=0) (Nat.zero_le _) ?_
 ·rintro s e J (⟨_,_,rfl⟩|⟨_,_,rfl⟩)<;>exact qlr _
 ·rintro e J (⟨rfl,h,rfl⟩|⟨rfl,h,rfl⟩)
  ·exact⟨_,List.mem_cons_self,h,rfl,rfl⟩
  ·exact⟨_,List.mem_cons_of_mem _ List.mem_cons_self,h,rfl,rfl⟩
theorem QRY :VY (mkE Try.prog V4) (jxH Try.prog x) Try.f107 (jxU x) = .ask (0=0) (.ask (x.hang.n=x.hang.n) (.ask (cO=cO) (.ask (Fn.func (93:FuncId)=Fn.func (93 :
  FuncId)) (.ask (0=0) (.ask (0=0) (.ask ((x.hang.n:Int)=(x.hang.n:Int)) (.ask ((0:Int)=0) (.ask (Fn.func (92:FuncId)=Fn.func (92:FuncId)) (.ask (0=0) (.ask (0 =
  0) (.ask (x.d.play.length=x.d.play.length) (.ask (x.d.play.slack=x.d.play.slack) (.ask (x.d.play.loose=x.d.play.loose) (.ask (x.d.play.damp.lo=x.d.play.damp.lo) (.ask
  (x.d.play.damp.hi=x.d.play.damp.hi) (.ask (x.d.wide=x.d.wide) (.ask (x.d.high=x.d.high) (.ask (x.d.turn=x.d.turn) (.ask (0=0) (.ask (x.d.ps.n=x.d.ps.n) (.ask (cO =
  cO) (.ask (0=0) (.ask (x.scans.n=x.scans.n) (.ask (cO=cO) (.ask (0=0) (.ask (x.hang.n=x.hang.n) (.ask (cO=cO) (.ask (x.lost=x.lost) (.ask
  (x.foreign=x.foreign) (.ask (x.d.ps.n≤x.d.ps.n) (.ask (QC 28 x.d.ps.n (fun i=>QA.enc (x.d.ps.get i)) fun i=>QA.enc (x.d.ps.get i)) (.ask (x.scans.n≤x.scans.n)
  (.ask (QC 28 x.scans.n (fun i=>QA.enc (x.scans.get i)) fun i=>QA.enc (x.scans.get i)) (.ask (x.hang.n≤x.hang.n) (.ask (QC 4 x.hang.n (fun i=>QA.enc (x.hang.get
  i)) fun i=>QA.enc (x.hang.get i)) (.both (.asm ((jxO x).isSome=true) (.all (fun(g0:Nat→Value) => .leaf (.int false .i64 (KY (jxO x))) ([])))) (.asm (jxO x=none)
  (.all (fun(g1:Nat→Value) => .leaf (.int true .i64 (-1)) ([])))))))))))))))))))))))))))))))))))))))):=by kernel_rfl
theorem QRt:QL 8 [(AV.int false i64 (KY (jxO x)))] ([]) (Ku (jxU x))=(
  some [KY (jxO x)=KY (jxO x)]):=by kernel_rfl
theorem QYl:QL 8 [(AV.int true i64 (-1:Int))] ([]) (Ku (jxU x))=(
  some [(-1:Int)=KY (jxO x)]):=by kernel_rfl
theorem QRZ(hl:x.hang.n≤1000):QP Try.prog 107 (uFC (jxU x)):=by
 refine Ju (E:=mkE Try.prog V4) (QT Wb) Try.func107 (by kernel_rfl) (by kernel_rfl) (zg (Nat.zero_le _) rfl rfl fun _=>rfl) (QSx x hl) ⟨?_⟩
 refine Q2 (QRY x) ?_
 repeat' first|refine Qa (show _=_ by with_reducible rfl) ?_|refine Qa (show _≤_ from qlr _) ?_|refine Qa (show QC _ _ _ _ from qRr) ?_
 refine Xf (KJ fun h=>KF fun g => ?_) (KJ fun h=>KF fun g => ?_)
 ·exact⟨rfl,rfl,_,QRt x,⟨rfl,trivial⟩⟩
 ·refine⟨rfl,rfl,_,QYl x,⟨?_,trivial⟩⟩;rw[h];rfl
def Hv:Tab:=Qg V4 107 (VH pb (jxU x))
theorem QVz:VY (mkE Try.prog (Hv pb x)) (hnd (mkE Try.prog (Hv pb x)) 1) Try.f94 (cxU x) =
  QD.need (pb ([(0:Nat)=(0:Nat),x.hang.n=x.hang.n,Cap.of (0:Nat)=Cap.of (0:Nat),Fn.func (93:Nat)=Fn.func (93:Nat),(0:Nat)=(0:Nat),(0:Nat)=(0 :
  Nat),Fn.func (92:Nat)=Fn.func (92:Nat),(0:Nat)=(0:Nat),(0:Nat)=(0:Nat),x.d.play.length=x.d.play.length,x.d.play.slack=x.d.play.slack,x.d.play.loose =
  x.d.play.loose,x.d.play.damp.lo=x.d.play.damp.lo,x.d.play.damp.hi=x.d.play.damp.hi,x.d.wide=x.d.wide,x.d.high=x.d.high,x.d.turn=x.d.turn,(0:Nat)=(0:Nat),
  x.d.ps.n=x.d.ps.n,Cap.of (0:Nat)=Cap.of (0:Nat),(0:Nat)=(0:Nat),x.scans.n=x.scans.n,Cap.of (0:Nat)=Cap.of (0:Nat),(0:Nat)=(0:Nat),x.hang.n =
  x.hang.n,Cap.of (0:Nat)=Cap.of (0:Nat),x.lost=x.lost,x.foreign=x.foreign,x.d.ps.n≤x.d.ps.n,QC (28:Nat) x.d.ps.n (fun i=>QA.enc (x.d.ps.get i)) fun i=>
  QA.enc (x.d.ps.get i),x.scans.n≤x.scans.n,QC (28:Nat) x.scans.n (fun i=>QA.enc (x.scans.get i)) fun i=>QA.enc (x.scans.get i),x.hang.n≤x.hang.n,QC (4 :
  Nat) x.hang.n (fun i=>QA.enc (x.hang.get i)) fun i=>QA.enc (x.hang.get i)])) (QD.leaf (AV.bool false (decide (KY (jxO x)≥(0:Int)))) ([])):=by kernel_rfl
theorem QX0:QL 8 [(AV.bool false (decide (KY (jxO x)≥(0:Int))))] ([]) (Ku (cxU x))=(
  some [decide (KY (jxO x)≥(0:Int))=decide (KY (jxO x)≥(0:Int))]):=by kernel_rfl
def Ga:Tab:=Qg V4 94 (VH pb (cxU x))
theorem QTs :KO (mkE Try.prog (Ga pb x)) (hnd (mkE Try.prog (Ga pb x)) 1) Try.f74 (QV.vals 0 ((x,()):QE×Unit)) (QV.blks 0 ((x,()):QE×Unit)) 8 = .br (decide
  ((x.scans.n:Int)≤12)) (.br (decide ((x.hang.n:Int)≤12)) (.need (true) (.br (QW x.lost (0:Int) (9:Int)) (.need (true) (.br (QW x.foreign (0:Int) (3:Int))
  (.need (decide (x.d.ps.n≤x.d.ps.n)&&true&&decide (x.d.ps.n≤1000)) (.br (x.d.ok) (.need (true&&(decide (x.scans.n≤x.scans.n)&&true)&&decide (x.scans.n≤1000)) (.br
  (VK x.d.play x.scans) (.need (pb ([0=0,x.hang.n=x.hang.n,cO=cO,Fn.func 93=Fn.func 93,0=0,0=0,Fn.func 92=Fn.func 92,0=0,0=0,x.d.play.length =
  x.d.play.length,x.d.play.slack=x.d.play.slack,x.d.play.loose=x.d.play.loose,x.d.play.damp.lo=x.d.play.damp.lo,x.d.play.damp.hi=x.d.play.damp.hi,x.d.wide=x.d.wide,
  x.d.high=x.d.high,x.d.turn=x.d.turn,0=0,x.d.ps.n=x.d.ps.n,cO=cO,0=0,x.scans.n=x.scans.n,cO=cO,0=0,x.hang.n=x.hang.n,cO =
  cO,x.lost=x.lost,x.foreign=x.foreign,x.d.ps.n≤x.d.ps.n,QC 28 x.d.ps.n (fun i=>QA.enc (x.d.ps.get i)) fun i=>QA.enc (x.d.ps.get i),x.scans.n≤x.scans.n,
  QC 28 x.scans.n (fun i=>QA.enc (x.scans.get i)) fun i=>QA.enc (x.scans.get i),x.hang.n≤x.hang.n,QC 4 x.hang.n (fun i=>QA.enc (x.hang.get i)) fun i=>
  QA.enc (x.hang.get i)])) (.leaf (.bool false !decide (KY (jxO x)≥0)) ([]))) (.leaf (.bool true false) ([])))) (.leaf (.bool true false) ([])))) (.leaf (.bool true false)
  ([])))) (.leaf (.bool true false) ([])))) (.leaf (.bool true false) ([]))) (.leaf (.bool true false) ([])):=by kernel_rfl
theorem QTW(hl:x.hang.n≤1000):QZ (Hv Qf x):=Wb.add (QRZ x hl)
theorem QSL(hl:x.hang.n≤1000):QP Try.prog 94 (uFC (cxU x)):=by
 have hE:=QT (QTW x hl);refine Ju (E:=mkE Try.prog (Hv Qf x)) hE (c:=Qs Try.f94) Try.func94 (by kernel_rfl) (by kernel_rfl) (zg (Nat.zero_le _) rfl rfl fun _=>rfl) (fun G h1 _=>Qy hE 1 G _ h1) ⟨?_⟩
 refine Q2 (QVz Qf x) ?_;refine QF (Ke.2 ?_) ⟨rfl,rfl,_,QX0 x,⟨rfl,trivial⟩⟩
 repeat' first|exact trivial|with_reducible rfl|exact qlr _|exact qRr|refine And.intro ?_ ?_
theorem QUQ(hl:x.hang.n≤1000):QZ (Ga Qf x):=Wb.add (QSL x hl)
def j4:WF (QE×Unit):=fun|(x,_)=>(decide (x.d.ps.n≤1000∧x.scans.n≤1000∧x.hang.n≤1000),.bool false x.ok,[])
def QI7:FC:=wFC j4
theorem QQa(hx:(j4 (x,())).1=true):QP Try.prog 74 (wFC (J1 j4 (x,()))):=by
 obtain⟨h1,h2,h3⟩:=qdt hx;have hE:=QT (QUQ x h3);refine Ya (c:=Qs Try.f74) (E:=mkE Try.prog (Ga Qf x)) (H:=hnd (mkE Try.prog (Ga Qf x)) 1) hE Try.func74 (by kernel_rfl) (by kernel_rfl) (N:=8) (by decide) (x,()) (fun G h1 _=>Qy hE 1 G _ h1) ⟨rfl,by simp[j4],rfl⟩ ?_
 refine Q2 (QTs Qf x) ?_;have no:x.ok=false→(QD.leaf (AV.bool true false) []).den (Vg 8 (j4 (x,())).2.1 (j4 (x,())).2.2):=fun h=>Kp (show false=x.ok by rw[h]) rfl
 refine QG (fun a1=>QG (fun a2=>QF rfl (QG (fun a3=>QF rfl (QG (fun a4=>QF (by simp;omega) (QG (fun a5=>QF (by simp;omega) (QG (fun a6=>QF (Ke.2 ?_) (Kp ?_ rfl)) (fun a6=>no ?_))) (fun a5=>no ?_))) (fun a4=>no ?_))) (fun a3=>no ?_))) (fun a2=>no ?_)) (fun a1=>no ?_)
 ·repeat' first|exact trivial|with_reducible rfl|exact qlr _|exact qRr|refine And.intro ?_ ?_
 ·show(!decide (KY (jxO x)≥0))=x.ok;simp only[QE.ok,QE.sz,a1,a2,a3,a4,a5,a6,Bool.true_and]
 ·simp only[QE.ok,a6,Bool.false_and,Bool.and_false]
 ·simp only[QE.ok,a5,Bool.false_and,Bool.and_false]
 ·simp only[QE.ok,QE.sz,a4,Bool.false_and,Bool.and_false]
 ·simp only[QE.ok,QE.sz,a3,Bool.false_and,Bool.and_false]
 ·simp only[QE.ok,QE.sz,a2,Bool.false_and,Bool.and_false]
 ·simp only[QE.ok,QE.sz,a1,Bool.false_and]
theorem QVo:QP Try.prog 74 QI7:=Gl (by kernel_rfl) fun|(x,()),h=>QQa x h
def Qu:Tab:=Qg V4 74 QI7
theorem KB:QZ Qu:=Wb.add QVo
def QK(i:Nat):List QB:=C.getD i []
def ZI(own:Bool)(id:Nat)(C:List (List QB)):Nat×Blk:=(id,.frz2 own 38 [.int .i64,.int .i64] C.length (fun i=>(QK C i).length) fun i j=>QA.enc ((QK C i).getD j ⟨0,0⟩))
def srC:List AV:=JG 0 x++[.slz 4 0 C.length (.of 0)]
def srB:List (Nat×Blk):=[(3,.cellsR 0 125 (srC x C)),ZI false 4 C]++Jd 0 x
def Z0(j:Jn)(a:QB):Int:=(j.i+a.turn).tmod 4
def Xd(j:Jn)(a b:QB):Bool:=cond ((a.cell == -2)||(b.cell == -2)) ((a.cell==b.cell)&&((a.turn==b.turn)&&true)) ((Qc x.d.wide x.d.high a.cell (Z0 j a)==b.cell)&&((j.j+b.turn).tmod 4==W8 (Z0 j a)))
def hgU(j:Jn)(a b:QB):UC:=⟨0,⟨4,[(0,.ptr 3 0 0),(1,Enc.enc j),(2,Enc.enc a),(3,Enc.enc b)],srB x C,8⟩,fun _ => .bool false (Xd x j a b),fun _=>[]⟩
theorem QZn(j:Jn)(a b:QB):VY (mkE Try.prog Qu) (hnd (mkE Try.prog Qu) 1) Try.f95 (hgU x C j a b) =
  QD.br (a.cell==(-2:Int)) (QD.leaf (AV.bool false (a.cell==b.cell&&(a.turn==b.turn&&true))) ([])) (QD.br (b.cell==(-2:Int)) (QD.leaf (AV.bool false (a.cell ==
  b.cell&&(a.turn==b.turn&&true))) ([])) (QD.need (decide (x.d.ps.n≤x.d.ps.n)&&(true&&(true&&true))&&decide (((1:Int)≤x.d.wide∧x.d.wide≤(100:Int))∧((1 :
  Int)≤x.d.high∧x.d.high≤(100:Int))∧(0:Int)≤a.cell∧a.cell≤(100:Int))) (QD.br (Qc x.d.wide x.d.high a.cell ((i64.wrap (j.i+a.turn)).tmod (4:Int)) ==
  b.cell) (QD.need (decide ((0:Int)≤(i64.wrap (j.i+a.turn)).tmod (4:Int)∧(i64.wrap (j.i+a.turn)).tmod (4:Int)≤(3:Int))) (QD.leaf (AV.bool false
  ((i64.wrap (j.j+b.turn)).tmod (4:Int)==W8 ((i64.wrap (j.i+a.turn)).tmod (4:Int)))) ([]))) (QD.leaf (AV.bool true false) ([]))))):=by kernel_rfl
theorem QVK(j:Jn)(a b:QB)(c v:Bool):QL 8 [.bool c v] [] (Ku (hgU x C j a b))=(
  some [v=Xd x j a b]):=by kernel_rfl
structure JQ (s:QB):Prop where
 cell:s.cell = -2∨0≤s.cell∧s.cell≤100
 turn:0≤s.turn∧s.turn≤3
structure JnB (j:Jn):Prop where
 i:0≤j.i∧j.i≤3
 j:0≤j.j∧j.j≤3
theorem QMA{n:Int}(h:0≤n):0≤n.tmod 4∧n.tmod 4≤3:=by
 have h1:=Int.tmod_nonneg 4 h;have h2:=Int.tmod_lt_of_pos n (show(0:Int)<4 by decide)
 omega
theorem QY1(j:Jn)(a b:QB)(hd:qE x.d)(hj:JnB j)(ha:JQ a)(hb:JQ b):QP Try.prog 95 (uFC (hgU x C j a b)):=by
 refine Ju (E:=mkE Try.prog Qu) (QT KB) (c:=Qs Try.f95) Try.func95 (by kernel_rfl) (by kernel_rfl) (zg (Nat.zero_le _) rfl rfl fun _=>rfl) (fun G h1 _=>Qy (QT KB) 1 G _ h1) ⟨?_⟩
 refine Q2 (QZn x C j a b) ?_;have hw:=hd.w1;have hwn:=hd.wn;have hh:=hd.h1;have hhn:=hd.hn;have h9:=hd.n9;have ha2:=ha.turn;have hb2:=hb.turn;have hi:=hj.i;have hjj:=hj.j;have fin:∀(c v:Bool),v=Xd x j a b→(QD.leaf (.bool c v) []).den (jf (hgU x C j a b)):=fun c v h=>⟨rfl,rfl,_,QVK x C j a b c v,⟨h,trivial⟩⟩;have w1:i64.wrap (j.i+a.turn)=j.i+a.turn:=w64 (by omega) (by omega)
 have w2:i64.wrap (j.j+b.turn)=j.j+b.turn:=w64 (by omega) (by omega)
 have m:=QMA (n:=j.i+a.turn) (by omega)
 rw[w1,w2];refine QG (fun h=>fin _ _ ?_) (fun h=>QG (fun h2=>fin _ _ ?_) (fun h2=>QF ?_ (QG (fun h3=>QF ?_ (fin _ _ ?_)) (fun h3=>fin _ _ ?_))))
 ·simp only[Xd,h,Bool.true_or,cond_true]
 ·simp only[Xd,h2,Bool.or_true,cond_true]
 ·have:¬ a.cell = -2:=by simpa using h
  have:=ha.cell;simp only[qlr,decide_true,Bool.true_and,qdE];omega
 ·simp only[qdE];exact m
 ·simp only[Xd,h,h2,Bool.or_self,cond_false,Z0,h3,Bool.true_and]
 ·simp only[Xd,h,h2,Bool.or_self,cond_false,Z0,h3,Bool.false_and]
def frS(id:Nat)(l:List QB):Nat×Blk:=(id,.frz [.int .i64,.int .i64] l.length fun i=>QA.enc (l.getD i ⟨0,0⟩))
def ftB:List (Nat×Blk):=frS 5 l::srB x C
def ftJ:JSt:=⟨45,[(0,.ptr 3 0 0),(1,.slz 5 0 l.length (.of 0)),(5,.int false .i64 ((l.length:Int)-1)),(15,.slz 2 0 x.hang.n (.of 0)),(16,.int false .i64 x.hang.n),(17,.int false .i64 k)],ftB x C l,32⟩
def QKO:Ex→List Nat
 | .normal=>[0,1,5,15,16,17]
 | .exit _=>[]
 | .ret=>[4]
def QFL:JSt:=⟨45,[(4,.bool false false)],[],32⟩
def QDU:JSt:=⟨45,[],[],32⟩
def QF4:UC:=hgU x C (x.hang.get k) (l.getD (x.hang.get k).a.toNat ⟨0,0⟩) (l.getD (x.hang.get k).b.toNat ⟨0,0⟩)
def QGI(U:UC):Tab:=Qg Qu 95 (VH pb U)
noncomputable abbrev QJr(l:List QB)(x:QE):List AV:=
  [.nilp,.ptr 45 0 0,.ptr 3 0 0,.slz 5 0 l.length cO,vi ((l.length:Int)-1),.slz 2 0 x.hang.n cO,vi (x.hang.n:Int),.int false
  .i64 (i64.wrap ((k:Int)+1))]
abbrev QHU:List CK:=
  [.int .i64,.int .i64,.int .i64,.int .i64,.int .i64,.int .i64,.int .i64,.int .i64,.int .i64,.int .i64,.int .i64,.int .i64,.int .i64,.int .i64,.int .i64,.int .i64,.int
  .i64,.int .i64,.int .i64,.int .i64,.int .i64,.int .i64,.int .i64,.int .i64,.int .i64,.int .i64,.int .i64,.int .i64]
noncomputable abbrev QBC(x:QE):List (Nat×Blk):=
  [(3,.cellsR 0 125 [vi x.d.play.length,vi x.d.play.slack,vi x.d.play.loose,vi x.d.play.damp.lo,.int false .i64
  x.d.play.damp.hi,vi x.d.wide,vi x.d.high,.bool false x.d.turn,.slz 0 0 x.d.ps.n cO,.slz 1 0 x.scans.n cO,.slz 2 0 x.hang.n (Cap.of
  0),vi x.lost,vi x.foreign,.slz 4 0 C.length cO]),(5,.frz [.int .i64,.int .i64] l.length fun i=>QA.enc (l.getD i ⟨0,0⟩)),(2,.frz [.int
  .i64,.int .i64,.int .i64,.int .i64] x.hang.n fun i=>QA.enc (x.hang.get i)),(0,.frz QHU x.d.ps.n fun i=>QA.enc (x.d.ps.get i)),(1,.frz QHU x.scans.n fun i=>
  QA.enc (x.scans.get i)),(4,.frz2 false 38 [.int .i64,.int .i64] C.length (fun i=>(QK C i).length) fun i j=>QA.enc ((QK C i).getD j ⟨0,0⟩))]
theorem QRl(g:Nat→Value):exec (mkE Try.prog (QGI pb (QF4 x C l k))) (hnd (mkE Try.prog (QGI pb (QF4 x C l k))) 0) (QX Try.f78 0) (JSt.inst (ftJ x C l k) g) (KT [] QKO) = .br (decide ((k :
  Int)<(x.hang.n:Int))) (.need (decide ((0:Int)≤(k:Int)∧(k:Int)<(x.hang.n:Int))&&decide (x.hang.n≤x.hang.n)) (.need (decide (k<x.hang.n)) (.br (max (x.hang.get
  k).a (x.hang.get k).b==(l.length:Int)-1) (.need (decide ((0:Int)≤(x.hang.get k).a∧(x.hang.get k).a<(l.length:Int))&&decide (l.length≤l.length)) (.need (decide
  ((x.hang.get k).a.toNat<l.length)) (.need (decide ((0:Int)≤(x.hang.get k).b∧(x.hang.get k).b<(l.length:Int))&&decide (l.length≤l.length)) (.need (decide ((x.hang.get
  k).b.toNat<l.length)) (.need (pb ([0=0,0=0,(x.hang.get k).a=(x.hang.get k).a,(x.hang.get k).i=(x.hang.get k).i,(x.hang.get k).b=(x.hang.get k).b,(x.hang.get k).j =
  (x.hang.get k).j,(l.getD (x.hang.get k).a.toNat ⟨0,0⟩).cell=(l.getD (x.hang.get k).a.toNat ⟨0,0⟩).cell,(l.getD (x.hang.get k).a.toNat ⟨0,0⟩).turn=(l.getD (x.hang.get
  k).a.toNat ⟨0,0⟩).turn,(l.getD (x.hang.get k).b.toNat ⟨0,0⟩).cell=(l.getD (x.hang.get k).b.toNat ⟨0,0⟩).cell,(l.getD (x.hang.get k).b.toNat ⟨0,0⟩).turn=(l.getD (x.hang.get
  k).b.toNat ⟨0,0⟩).turn,x.d.play.length=x.d.play.length,x.d.play.slack=x.d.play.slack,x.d.play.loose=x.d.play.loose,x.d.play.damp.lo=x.d.play.damp.lo,x.d.play.damp.hi =
  x.d.play.damp.hi,x.d.wide=x.d.wide,x.d.high=x.d.high,x.d.turn=x.d.turn,0=0,x.d.ps.n=x.d.ps.n,cO=cO,0=0,x.scans.n=x.scans.n,cO=cO,
  0=0,x.hang.n=x.hang.n,cO=cO,x.lost=x.lost,x.foreign=x.foreign,0=0,C.length=C.length,cO=cO,C.length=C.length,Kj 2 C.length
  (fun i=>(QK C i).length) (fun i=>(QK C i).length) (fun i j=>QA.enc ((QK C i).getD j ⟨0,0⟩)) fun i j=>QA.enc ((QK C i).getD j ⟨0,0⟩),x.d.ps.n≤x.d.ps.n,
  QC 28 x.d.ps.n (fun i=>QA.enc (x.d.ps.get i)) fun i=>QA.enc (x.d.ps.get i),x.scans.n≤x.scans.n,QC 28 x.scans.n (fun i=>QA.enc (x.scans.get i)) fun i=>
  QA.enc (x.scans.get i),x.hang.n≤x.hang.n,QC 4 x.hang.n (fun i=>QA.enc (x.hang.get i)) fun i=>QA.enc (x.hang.get i)])) (.br (!Xd x (x.hang.get k) (l.getD
  (x.hang.get k).a.toNat ⟨0,0⟩) (l.getD (x.hang.get k).b.toNat ⟨0,0⟩)) (.leaf (.tup [.nili,.ptr 45 0 0,.bool true false]) ([])) (.leaf (.tup (QJr k l x)) ((QBC C l x)))))))))
  (.leaf (.tup (QJr k l x)) ((QBC C l x)))))) (.leaf (.tup [.ptr 0 0 0,.ptr 45 0 0]) ([])):=by kernel_rfl
theorem QQN :QL 8 [AV.bool true false] ([]) QFL=(
  some [false=false]):=by kernel_rfl
noncomputable abbrev QH0(l:List QB)(x:QE):List AV:=
  [.ptr 3 0 0,.slz 5 0 l.length cO,vi ((l.length:Int)-1),.slz 2 0 x.hang.n cO,vi (x.hang.n:Int),vi (i64.wrap
  ((k:Int)+1))]
abbrev QJ6(k':Nat)(l:List QB)(x:QE):List Prop:=
  [0=0,0=0,0=0,l.length=l.length,cO=cO,(l.length:Int)-1=(l.length:Int)-1,0=0,x.hang.n=x.hang.n,cO=cO,(x.hang.n:Int) =
  (x.hang.n:Int),i64.wrap ((k:Int)+1)=(k':Int),l.length≤l.length,QC 2 l.length (fun i=>QA.enc (l.getD i ⟨0,0⟩)) fun i=>QA.enc (l.getD i ⟨0,0⟩),
  x.d.play.length=x.d.play.length,x.d.play.slack=x.d.play.slack,x.d.play.loose=x.d.play.loose,x.d.play.damp.lo=x.d.play.damp.lo,x.d.play.damp.hi=x.d.play.damp.hi,
  x.d.wide=x.d.wide,x.d.high=x.d.high,x.d.turn=x.d.turn,0=0,x.d.ps.n=x.d.ps.n,cO=cO,0=0,x.scans.n=x.scans.n,cO=cO,0=0,x.hang.n =
  x.hang.n,cO=cO,x.lost=x.lost,x.foreign=x.foreign,0=0,C.length=C.length,cO=cO,C.length=C.length,Kj 2 C.length (fun i=>(QK C
  i).length) (fun i=>(QK C i).length) (fun i j=>QA.enc ((QK C i).getD j ⟨0,0⟩)) fun i j=>QA.enc ((QK C i).getD j ⟨0,0⟩),x.d.ps.n≤x.d.ps.n,QC 28 x.d.ps.n (fun
  i=>QA.enc (x.d.ps.get i)) fun i=>QA.enc (x.d.ps.get i),x.scans.n≤x.scans.n,QC 28 x.scans.n (fun i=>QA.enc (x.scans.get i)) fun i=>QA.enc (x.scans.get i),
  x.hang.n≤x.hang.n,QC 4 x.hang.n (fun i=>QA.enc (x.hang.get i)) fun i=>QA.enc (x.hang.get i)]
theorem QQe(k k':Nat):QL 8 (QH0 k l x) ((QBC C l x)) (ftJ x C l k')=(some (QJ6 C k k' l x)):=by kernel_rfl
theorem QPX(k k':Nat):QL 8 (QH0 k l x) ((QBC C l x)) (ftJ x C l k')=(some (QJ6 C k k' l x)):=by kernel_rfl
theorem QSH :QL 8 [] ([]) QDU=(
  some []):=by kernel_rfl
theorem QY(m:Nat)(n:Nat)(ln:Nat→Nat)(g:Nat→Nat→Nat→Int):Kj m n ln ln g g:=fun _ _=>⟨rfl,qRr⟩
def Ym:Bool:=max (x.hang.get k).a (x.hang.get k).b==(l.length:Int)-1
def VT:Bool:=Ym x l k && !Xd x (x.hang.get k) (l.getD (x.hang.get k).a.toNat ⟨0,0⟩) (l.getD (x.hang.get k).b.toNat ⟨0,0⟩)
def Kk:Bool:=(QM (VT x l) x.hang.n 0).isNone
structure JL (x:QE):Prop where
 d:qE x.d
 n:x.hang.n≤12
 s:x.scans.n≤12
 j:∀ k,k<x.hang.n→JnB (x.hang.get k)∧(0≤(x.hang.get k).a∧(x.hang.get k).a<x.scans.n)∧0≤(x.hang.get k).b∧(x.hang.get k).b<x.scans.n
structure vS (l:List QB):Prop where
 pos:0<l.length
 le:l.length≤1000
 s:∀ i,i<l.length→JQ (l.getD i ⟨0,0⟩)
noncomputable def zB:List Prop→Bool:=match decide (k<x.hang.n)&&Ym x l k with
 | true=>Qf
 | false=>fun _=>false
noncomputable def qS(P:Program)(x:QE)(C:List (List QB))(l:List QB)(k:Nat):Env:=mkE P (QGI (zB x l k) (QF4 x C l k))
theorem QIb{x:QE}{l:List QB}(hx:JL x)(hl:vS l){k:Nat}(hk:k<x.hang.n)(hm:Ym x l k=true):(0≤(x.hang.get k).a∧(x.hang.get k).a<l.length)∧0≤(x.hang.get k).b∧(x.hang.get k).b<l.length:=by
 obtain⟨_,h1,h2⟩:=hx.j k hk;have:=hl.pos;simp only[Ym,beq_iff_eq]at hm;omega
theorem QMd{x:QE}{C:List (List QB)}{l:List QB}(hx:JL x)(hl:vS l)(k:Nat):(qS Try.prog x C l k).Sound:=by
 unfold qS zB;split
 ·rename_i hc;simp only[qbA,qdE]at hc;obtain⟨h1,h2⟩:=QIb hx hl hc.1 hc.2;exact QT (KB.add (QY1 x C _ _ _ hx.d (hx.j k hc.1).1 (hl.s _ (by omega)) (hl.s _ (by omega))))
 ·exact QT (KB.add (qe (by kernel_rfl) _))
def ftR(e:Ex)(J:JSt):Prop:=(e = .ret∧(QM (VT x l) (x.hang.n-k) k).isNone=false∧J=QFL)∨(e = .exit 0∧(QM (VT x l) (x.hang.n-k) k).isNone=true∧J=QDU)
theorem QYs(hx:JL x)(hl:vS l):jU (ftJ x C l) (fun k=>k≤x.hang.n) (fun k=>x.hang.n-k) (ftR x l) 8 QKO [] (qS Try.prog x C l) (fun k=>hnd (qS Try.prog x C l k) 0) (QX Try.f78 0):=by
 refine⟨fun k g hk => ?_⟩;unfold qS;refine Q2 (QRl (zB x l k) x C l k g) ?_;have h12:=hx.n;refine QG (fun h => ?_) (fun h => ?_)
 ·have h:k<x.hang.n:=by have:=qdt h;omega
  obtain⟨m,hm⟩:∃ m,x.hang.n-k=m+1:=⟨x.hang.n-k-1,by omega⟩
  have hm':x.hang.n-(k+1)=m:=by omega
  have hw:i64.wrap ((k:Int)+1)=((k+1:Nat):Int):=(w64 (by omega) (by omega)).trans (by omega)
  have go:VT x l k=false→∀ e J,ftR x l (k+1) e J→ftR x l k e J:=fun q e J h=>by
   have hf:QM (VT x l) (x.hang.n-k) k=QM (VT x l) (x.hang.n-(k+1)) (k+1):=by rw[hm,hm',QM,q]
   unfold ftR at h ⊢;rw[hf];exact h
  refine QF (by simp;omega) (QF (by simp;omega) (QG (fun hb => ?_) (fun hb => ?_)))
  ·have hb:Ym x l k=true:=hb;obtain⟨i1,i2⟩:=QIb hx hl h hb;have hpb:zB x l k=Qf:=by simp only[zB,hb,decide_eq_true h,Bool.and_self]
   rw[hpb];refine QF (by simp;omega) (QF (by simp;omega) (QF (by simp;omega) (QF (by simp;omega) (QF (Ke.2 ?_) (QG (fun hq => ?_) (fun hq => ?_))))))
   ·repeat' first|exact trivial|with_reducible rfl|exact qlr _|exact qRr|exact QY _ _ _ _|refine And.intro ?_ ?_
   ·have q:VT x l k=true:=by simp only[VT,hb,Bool.true_and];exact hq
    have hf:QM (VT x l) (x.hang.n-k) k=some k:=by rw[hm,QM,q]
    exact⟨_,.inl ⟨rfl,by rw[hf];rfl,rfl⟩,rfl,rfl,_,QQN,⟨rfl,trivial⟩⟩
   ·have q:VT x l k=false:=by simp only[VT,hb,Bool.true_and];exact hq
    refine⟨k+1,by show k+1≤x.hang.n;omega,by show x.hang.n-(k+1)<x.hang.n-k;omega,go q,rfl,rfl,_,QQe x C l k (k+1),?_⟩
    repeat' first|exact trivial|with_reducible rfl|exact qlr _|exact qRr|exact QY _ _ _ _|exact hw|refine And.intro ?_ ?_
  ·have hb:Ym x l k=false:=hb;have q:VT x l k=false:=by simp only[VT,hb,Bool.false_and]
   refine⟨k+1,by show k+1≤x.hang.n;omega,by show x.hang.n-(k+1)<x.hang.n-k;omega,go q,rfl,rfl,_,QPX x C l k (k+1),?_⟩
   repeat' first|exact trivial|with_reducible rfl|exact qlr _|exact qRr|exact QY _ _ _ _|exact hw|refine And.intro ?_ ?_
 ·have h:x.hang.n≤k:=by have:=of_decide_eq_false h;omega
  have hf:QM (VT x l) (x.hang.n-k) k=none:=by rw[show x.hang.n-k=0 by omega];rfl
  exact⟨_,.inr ⟨rfl,by rw[hf];rfl,rfl⟩,rfl,rfl,_,QSH,trivial⟩
def ftX:List (Prop×Ex×JSt):=[(Kk x l=false,.ret,QFL),(Kk x l=true,.exit 0,QDU)]
abbrev ftH(P:Program)(x:QE)(C:List (List QB))(l:List QB):Hnd:={ hnd (mkE P Qu) 1 with loop:=fun _=>KD 8 [] (ftJ x C l (0:Nat)) (ftX x l) }
theorem QXI(hx:JL x)(hl:vS l)(G:Ctx)(hrd:G.rd=none)(hG:G.n=8):KC (mkE Try.prog Qu) G (ftH Try.prog x C l) (Qs Try.f78):=by
 refine Jj (body:=QX Try.f78 0) (QT KB) hrd (by kernel_rfl) ?_
 refine QCs (E0:=mkE Try.prog Qu) (E:=qS Try.prog x C l) (H:=fun k=>hnd (qS Try.prog x C l k) 0) (n0:=8) (s0:=0) (fun _=>rfl) (QMd hx hl) (by omega) (fun k _=>Qy (QMd hx hl k) 0 G _ hrd) (fun k _=>(by decide:8≤32)) ?_ (QYs x C l hx hl) (Nat.zero_le _) ?_
 ·rintro s e J (⟨_,_,rfl⟩|⟨_,_,rfl⟩)<;>exact(by decide:8≤32)
 ·rintro e J (⟨rfl,h,rfl⟩|⟨rfl,h,rfl⟩)
  ·exact⟨_,List.mem_cons_self,h,rfl,rfl⟩
  ·exact⟨_,List.mem_cons_of_mem _ List.mem_cons_self,h,rfl,rfl⟩
def ftU:UC:=⟨0,⟨2,[(0,.ptr 3 0 0),(1,.slz 5 0 l.length (.of 0))],ftB x C l,8⟩,fun _ => .bool false (Kk x l),fun _=>[]⟩
theorem QQS :VY (mkE Try.prog Qu) (ftH Try.prog x C l) Try.f78 (ftU x C l) = .ask (0=0) (.ask (0=0) (.ask (0=0) (.ask (l.length=l.length) (.ask (cO=cO) (.ask
  (i64.wrap ((l.length:Int)-1)=(l.length:Int)-1) (.ask (0=0) (.ask (x.hang.n=x.hang.n) (.ask (cO=cO) (.ask ((x.hang.n:Int)=(x.hang.n:Int))
  (.ask ((0:Int)=0) (.ask (l.length≤l.length) (.ask (QC 2 l.length (fun i=>QA.enc (l.getD i ⟨0,0⟩)) fun i=>QA.enc (l.getD i ⟨0,0⟩)) (.ask (x.d.play.length =
  x.d.play.length) (.ask (x.d.play.slack=x.d.play.slack) (.ask (x.d.play.loose=x.d.play.loose) (.ask (x.d.play.damp.lo=x.d.play.damp.lo) (.ask (x.d.play.damp.hi =
  x.d.play.damp.hi) (.ask (x.d.wide=x.d.wide) (.ask (x.d.high=x.d.high) (.ask (x.d.turn=x.d.turn) (.ask (0=0) (.ask (x.d.ps.n=x.d.ps.n) (.ask (cO=cO) (.ask (0
  = 0) (.ask (x.scans.n=x.scans.n) (.ask (cO=cO) (.ask (0=0) (.ask (x.hang.n=x.hang.n) (.ask (cO=cO) (.ask (x.lost=x.lost) (.ask (x.foreign =
  x.foreign) (.ask (0=0) (.ask (C.length=C.length) (.ask (cO=cO) (.ask (C.length=C.length) (.ask (Kj 2 C.length (fun i=>(QK C i).length) (fun i=>(QK C
  i).length) (fun i j=>QA.enc ((QK C i).getD j ⟨0,0⟩)) fun i j=>QA.enc ((QK C i).getD j ⟨0,0⟩)) (.ask (x.d.ps.n≤x.d.ps.n) (.ask (QC 28 x.d.ps.n (fun i=>QA.enc
  (x.d.ps.get i)) fun i=>QA.enc (x.d.ps.get i)) (.ask (x.scans.n≤x.scans.n) (.ask (QC 28 x.scans.n (fun i=>QA.enc (x.scans.get i)) fun i=>QA.enc (x.scans.get i))
  (.ask (x.hang.n≤x.hang.n) (.ask (QC 4 x.hang.n (fun i=>QA.enc (x.hang.get i)) fun i=>QA.enc (x.hang.get i)) (.both (.asm (Kk x l=false) (.all (fun(g0:Nat →
  Value) => .leaf (.bool false false) ([])))) (.asm (Kk x l=true) (.all (fun(g1:Nat→Value) => .leaf (.bool true true) ([]))))))))))))))))))))))))))))))))))))))))))))))):=by kernel_rfl
theorem QO0(c v:Bool):QL 8 [.bool c v] [] (Ku (ftU x C l))=(
  some [v=Kk x l]):=by kernel_rfl
theorem QDM(hx:JL x)(hl:vS l):QP Try.prog 78 (uFC (ftU x C l)):=by
 refine Ju (E:=mkE Try.prog Qu) (QT KB) Try.func78 (by kernel_rfl) (by kernel_rfl) (zg (Nat.zero_le _) rfl rfl fun _=>rfl) (QXI x C l hx hl) ⟨?_⟩
 refine Q2 (QQS x C l) ?_;have hp:=hl.pos;have hle:=hl.le;have hw:i64.wrap ((l.length:Int)-1)=(l.length:Int)-1:=w64 (by omega) (by omega)
 repeat' first|refine QF rfl ?_|refine Qa (show _=_ by with_reducible rfl) ?_|refine Qa (show _≤_ from qlr _) ?_|refine Qa (show QC _ _ _ _ from qRr) ?_|refine Qa (show Kj _ _ _ _ _ _ from QY _ _ _ _) ?_|refine Qa (p:=i64.wrap ((l.length:Int)-1)=(l.length:Int)-1) hw ?_
 refine Xf (KJ fun h=>KF fun g => ?_) (KJ fun h=>KF fun g => ?_)
 ·exact⟨rfl,rfl,_,QO0 x C l _ _,⟨h.symm,trivial⟩⟩
 ·exact⟨rfl,rfl,_,QO0 x C l _ _,⟨h.symm,trivial⟩⟩
end Go.Proofs.Ytbpffdkemeoajaa
namespace Go.SX
open Go Go.RowKit Go.Proofs.Ytbpffdkemeoajaa
def vw(fc:FC):FC:=fun args nid _=>fc args nid (Xj (AV.idsFromL 0 args) [])
theorem GY{P:Program}{f:FuncId}{fc:FC}(h:QP P f fc):QP P f (vw fc):=
 ⟨h.1,fun args nid _ r w lk blks eff hH ha hv he hp=>h.2 args nid (Xj (AV.idsFromL 0 args) []) r w lk blks eff hH ha hv he hp⟩
end Go.SX
namespace Go.Proofs.Ytbpffdkemeoajaa
open Go.SX
def V9:Tab:=Qg Qu 43 (vw QGT)
theorem vt:QZ V9:=KB.add (GY QK4)
def Z2:QB:=⟨-2,0⟩
variable (x:QE)(C:List (List QB))(l:List QB)(k:Nat)
def X4:List QB:=Z2::KI x.d (x.scans.get k) x.d.ps.n
def Qr(x:QE):Nat→List (List QB)
 | 0=>[]
 | k+1=>Qr x k++[X4 x k]
def srO(id c:Nat)(x:QE)(C:List (List QB)):List (Nat×Blk):=[(id,.cells 0 125 (JG 0 x++[.slz c 0 C.length (.of 0)])),ZI true c C]
def nsJ:JSt:=⟨34,[(1,.ptr 8 0 0),(3,.ptr 16 0 0),(10,.slz 1 0 x.scans.n (.of 0)),(11,.int false .i64 x.scans.n),(12,.int false .i64 k)],[(8,.cells 0 50 (JG 0 x))]++srO 16 24 x C++Jd 0 x,40⟩
def QOA:Ex→List Nat
 | .normal=>[1,3,10,11,12]
 | .exit _=>[3]
 | .ret=>[]
def nsE:JSt:=⟨34,[(3,.ptr 16 0 0)],srO 16 24 x C++Jd 0 x,40⟩
abbrev QBj:List CK:=
  [.int .i64,.int .i64,.int .i64,.int .i64,.int .i64,.int .i64,.int .i64,.int .i64,.int .i64,.int .i64,.int .i64,.int .i64,.int .i64,.int .i64,.int .i64,.int .i64,.int
  .i64,.int .i64,.int .i64,.int .i64,.int .i64,.int .i64,.int .i64,.int .i64,.int .i64,.int .i64,.int .i64,.int .i64]
noncomputable abbrev QML(x:QE):List (Nat×Blk):=
  [(8,.cells 0 50 [vi x.d.play.length,vi x.d.play.slack,vi x.d.play.loose,vi x.d.play.damp.lo,.int false .i64
  x.d.play.damp.hi,vi x.d.wide,vi x.d.high,.bool false x.d.turn,.slz 0 0 x.d.ps.n cO,.slz 1 0 x.scans.n cO,.slz 2 0 x.hang.n (Cap.of
  0),vi x.lost,vi x.foreign]),(16,.cells 0 125 [vi x.d.play.length,vi x.d.play.slack,vi x.d.play.loose,.int
  false .i64 x.d.play.damp.lo,vi x.d.play.damp.hi,vi x.d.wide,vi x.d.high,.bool false x.d.turn,.slz 0 0 x.d.ps.n cO,.slz 1 0
  x.scans.n cO,.slz 2 0 x.hang.n cO,vi x.lost,vi x.foreign,.slz 184 0 (C.length+1) cO]),(1,.frz QBj x.scans.n fun i=>
  QA.enc (x.scans.get i)),(0,.frz QBj x.d.ps.n fun i=>QA.enc (x.d.ps.get i)),(2,.frz [.int .i64,.int .i64,.int .i64,.int .i64] x.hang.n fun i=>QA.enc (x.hang.get
  i)),(184,.frz2 true 38 [.int .i64,.int .i64] (C.length+1) (X5 C.length (fun i=>(QK C i).length) (1+(KI x.d (x.scans.get k) x.d.ps.n).length)) (Yi C.length (fun i
  j=>QA.enc ((QK C i).getD j ⟨0,0⟩)) (Qi 1 (QU [[vj (-2),vj 0]] 0) fun i=>QA.enc ((KI x.d (x.scans.get k) x.d.ps.n).getD i ⟨0,0⟩))))]
noncomputable abbrev QMp(x:QE):List (Nat×Blk):=
  [(16,.cells 0 125 [vi x.d.play.length,vi x.d.play.slack,vi x.d.play.loose,vi x.d.play.damp.lo,.int false .i64
  x.d.play.damp.hi,vi x.d.wide,vi x.d.high,.bool false x.d.turn,.slz 0 0 x.d.ps.n cO,.slz 1 0 x.scans.n cO,.slz 2 0 x.hang.n (Cap.of
  0),vi x.lost,vi x.foreign,.slz 24 0 C.length cO]),(0,.frz QBj x.d.ps.n fun i=>QA.enc (x.d.ps.get i)),(1,.frz QBj x.scans.n fun i=>
  QA.enc (x.scans.get i)),(2,.frz [.int .i64,.int .i64,.int .i64,.int .i64] x.hang.n fun i=>QA.enc (x.hang.get i)),(24,.frz2 true 38 [.int .i64,.int .i64] C.length (fun
  i=>(QK C i).length) fun i j=>QA.enc ((QK C i).getD j ⟨0,0⟩))]
theorem QP9(g:Nat→Value):exec (mkE Try.prog V9) (hnd (mkE Try.prog V9) 0) (QX Try.f75 0) (JSt.inst (nsJ x C k) g) (KT [] QOA) = .br (decide ((k:Int)<(x.scans.n:Int))) (.need (decide ((0
  : Int)≤(k:Int)∧(k:Int)<(x.scans.n:Int))&&decide (x.scans.n≤x.scans.n)) (.need (decide (k<x.scans.n)) (.need (decide (x.d.ps.n≤x.d.ps.n)&&(true&&true) &&
  decide (x.d.ps.n≤900)) (.need (true&&(decide ((KI x.d (x.scans.get k) x.d.ps.n).length≤(KI x.d (x.scans.get k) x.d.ps.n).length)&&decide ((1+(KI x.d (x.scans.get
  k) x.d.ps.n).length+(1+(KI x.d (x.scans.get k) x.d.ps.n).length) / 4+192)*16≤281474976710656∧1+(KI x.d (x.scans.get k) x.d.ps.n).length≤9223372036854775807)))
  (.need (decide (C.length=C.length)&&(decide (1+(KI x.d (x.scans.get k) x.d.ps.n).length≤1+(KI x.d (x.scans.get k) x.d.ps.n).length)&&decide ((C.length+1 +
  (C.length+1) / 4+192)*24≤281474976710656∧C.length+1≤9223372036854775807))) (.leaf (.tup [.nilp,.ptr 34 0 0,.ptr 8 0 0,.ptr 16 0 0,.slz 1 0 x.scans.n cO,
  .int false .i64 (x.scans.n:Int),vi (i64.wrap ((k:Int)+1))]) ((QML C k x)))))))) (.leaf (.tup [.ptr 0 0 0,.ptr 34 0 0,.ptr 16 0 0]) ((QMp C x))):=by kernel_rfl
abbrev QD6:List Prop:=
  [x.d.play.slack=x.d.play.slack,x.d.play.loose=x.d.play.loose,x.d.play.damp.lo=x.d.play.damp.lo,x.d.play.damp.hi=x.d.play.damp.hi,x.d.wide=x.d.wide,x.d.high =
  x.d.high,x.d.turn=x.d.turn,0=0,x.d.ps.n=x.d.ps.n,cO=cO,0=0,x.scans.n=x.scans.n,cO=cO,0=0,x.hang.n=x.hang.n,cO=cO]
abbrev QMu:List Prop:=
  [x.d.ps.n≤x.d.ps.n,QC 28 x.d.ps.n (fun i=>QA.enc (x.d.ps.get i)) fun i=>QA.enc (x.d.ps.get i),x.scans.n≤x.scans.n,QC 28 x.scans.n (fun i=>QA.enc
  (x.scans.get i)) fun i=>QA.enc (x.scans.get i),x.hang.n≤x.hang.n,QC 4 x.hang.n (fun i=>QA.enc (x.hang.get i)) fun i=>QA.enc (x.hang.get i)]
theorem QTY(C C':List (List QB))(k k':Nat):QL 8 [.ptr 8 0 0,.ptr 16 0 0,.slz 1 0 x.scans.n cO,vi (x.scans.n:Int),vi (i64.wrap ((k:Int)+1))] ((QML C k x)) (nsJ x C' k') =
  (some ([0=0,0=0,0=0,0=0,0=0,x.scans.n=x.scans.n,cO=cO,(x.scans.n:Int)=(x.scans.n:Int),i64.wrap ((k:Int)+1)=(k':Int),
  x.d.play.length=x.d.play.length]++(QD6 x)++[x.lost=x.lost,x.foreign=x.foreign,x.d.play.length=x.d.play.length]++(QD6 x)++[x.lost=x.lost,x.foreign=x.foreign,
  0=0,C.length+1=C'.length,cO=cO,C.length+1=C'.length,Kj 2 C'.length (X5 C.length (fun i=>(QK C i).length) (1+(KI x.d (x.scans.get k)
  x.d.ps.n).length)) (fun i=>(QK C' i).length) (Yi C.length (fun i j=>QA.enc ((QK C i).getD j ⟨0,0⟩)) (Qi 1 (QU [[vj (-2),vj 0]] 0) fun i
  => QA.enc ((KI x.d (x.scans.get k) x.d.ps.n).getD i ⟨0,0⟩))) fun i j=>QA.enc ((QK C' i).getD j ⟨0,0⟩)]++(QMu x))):=by kernel_rfl
theorem QRK(C C':List (List QB)):QL 8 [.ptr 16 0 0] ((QMp C x)) (nsE x C')=(some ([0=0,0=0,x.d.play.length=x.d.play.length]++(QD6 x)++[x.lost=x.lost,x.foreign=x.foreign,0=0,C.length =
  C'.length,cO=cO,C.length=C'.length,Kj 2 C'.length (fun i=>(QK C i).length) (fun i=>(QK C' i).length) (fun i j=>QA.enc ((QK C i).getD j ⟨0,0⟩))
  fun i j=>QA.enc ((QK C' i).getD j ⟨0,0⟩)]++(QMu x))):=by kernel_rfl
theorem QFh(w:List QB)(i:Nat):QK (C++[w]) i=if i<C.length then QK C i else if i=C.length then w else []:=by
 unfold QK;rw[List.getD_eq_getElem?_getD,List.getD_eq_getElem?_getD]
 by_cases h:i<C.length
 ·rw[if_pos h,List.getElem?_append_left h]
 ·rw[if_neg h,List.getElem?_append_right (by omega)]
  by_cases h2:i=C.length
  ·subst h2;simp
  ·rw[if_neg h2,List.getElem?_eq_none (by simp;omega)];rfl
theorem QTR:QC 2 (1+l.length) (Qi 1 (QU [[AV.int true .i64 (-2),AV.int true .i64 0]] 0) fun i=>QA.enc (l.getD i ⟨0,0⟩)) fun i=>QA.enc ((Z2::l).getD i ⟨0,0⟩):=by
 intro i hi;cases i with
 | zero=>exact⟨rfl,rfl,trivial⟩
 | succ i=>
  refine⟨?_,?_,trivial⟩ <;>
   (show Qi 1 _ _ (i+1) _=_
    rw[X8,if_neg (by omega)]
    simp)
theorem QV0:Kj 2 (C++[Z2::l]).length (X5 C.length (fun i=>(QK C i).length) (1+l.length)) (fun i=>(QK (C++[Z2::l]) i).length)
  (Yi C.length (fun i j=>QA.enc ((QK C i).getD j ⟨0,0⟩)) (Qi 1 (QU [[AV.int true .i64 (-2),AV.int true .i64 0]] 0) fun i=>QA.enc (l.getD i ⟨0,0⟩))) (fun i j=>QA.enc ((QK (C++[Z2::l]) i).getD j ⟨0,0⟩)):=by
 intro i hi;rw[List.length_append,List.length_singleton]at hi
 by_cases h:i<C.length
 ·simp only[X5,Yi,vY h,QFh,if_pos h];exact⟨trivial,qRr⟩
 ·have e:i=C.length:=by omega
  simp only[X5,Yi,js h,QFh,if_neg h,if_pos e];refine⟨by simp;omega,?_⟩
  have:=QTR l;rw[show(Z2::l).length=1+l.length by simp;omega]
  exact this
theorem Ye(x:QE):∀ k,(Qr x k).length=k
 | 0=>rfl
 | k+1=>by simp[Qr,Ye x k]
theorem QPY(hn:x.d.ps.n≤900)(hs:x.scans.n≤1000):JJ (fun k=>nsJ x (Qr x k) k) (fun k=>k≤x.scans.n) (fun k=>x.scans.n-k) (fun _ e J=>e = .exit 0∧J=nsE x (Qr x x.scans.n)) 8 QOA [] (mkE Try.prog V9) (fun _=>hnd (mkE Try.prog V9) 0) (QX Try.f75 0):=by
 refine⟨fun k g hk=>Q2 (QP9 x _ k g) ?_⟩;have hlen:=Ye x k;refine QG (fun h => ?_) (fun h => ?_)
 ·have h:k<x.scans.n:=by have:=qdt h;omega
  have hw:i64.wrap ((k:Int)+1)=((k+1:Nat):Int):=(w64 (by omega) (by omega)).trans (by omega)
  have hl:=Wt x.d (x.scans.get k) x.d.ps.n;refine QF (by simp;omega) (QF (by simp;omega) (QF (by simp;omega) (QF (by simp;omega) (QF (by simp;omega) ?_))))
  refine⟨k+1,h,by show x.scans.n-(k+1)<x.scans.n-k;omega,fun _ _ h=>h,rfl,rfl,_,QTY x (Qr x k) (Qr x (k+1)) k (k+1),?_⟩
  have e2:(Qr x k).length+1=(Qr x (k+1)).length:=by rw[Ye,Ye]
  repeat' first|exact trivial|with_reducible rfl|exact qlr _|exact qRr|exact hw|exact e2|exact QV0 _ _|refine And.intro ?_ ?_
 ·have:k=x.scans.n:=by have:=of_decide_eq_false h;omega
  subst this;refine⟨_,⟨rfl,rfl⟩,rfl,rfl,_,QRK x _ _,?_⟩
  repeat' first|exact trivial|with_reducible rfl|exact qlr _|exact qRr|exact QY _ _ _ _|refine And.intro ?_ ?_
abbrev nsH(P:Program)(x:QE)(C:List (List QB)):Hnd:={ hnd (mkE P V9) 1 with loop:=fun _=>KD 8 [] (nsJ x [] (0:Nat)) [(True,.exit 0,nsE x C)] }
theorem QV8(hn:x.d.ps.n≤900)(hs:x.scans.n≤1000)(G:Ctx)(hrd:G.rd=none)(hG:G.n=8):KC (mkE Try.prog V9) G (nsH Try.prog x (Qr x x.scans.n)) (Qs Try.f75):=by
 refine Jj (body:=QX Try.f75 0) (QT vt) hrd (by kernel_rfl) ?_
 refine JW (n0:=8) (QT vt) (by omega) (fun s hs=>Qy (QT vt) 0 G _ hrd) (fun s hs=>(by decide:8≤40)) ?_ (QPY x hn hs) (s0:=0) (Nat.zero_le _) ?_
 ·rintro s e J ⟨_,rfl⟩;exact(by decide:8≤40)
 ·rintro e J ⟨rfl,rfl⟩;exact⟨_,List.mem_cons_self,trivial,rfl,rfl⟩
def nsU:UC:=⟨8,⟨1,[(0,.agg (JG 0 x))],Jd 0 x,8⟩,fun m => .ptr m 0 0,fun m=>srO m (m+1) x C⟩
abbrev QGu:List CK:=
  [.int .i64,.int .i64,.int .i64,.int .i64,.int .i64,.int .i64,.int .i64,.int .i64,.int .i64,.int .i64,.int .i64,.int .i64,.int .i64,.int .i64,.int .i64,.int .i64,.int
  .i64,.int .i64,.int .i64,.int .i64,.int .i64,.int .i64,.int .i64,.int .i64,.int .i64,.int .i64,.int .i64,.int .i64]
noncomputable abbrev QNz(x:QE):List (Nat×Blk):=
  [(16,.cells 0 125 [vi x.d.play.length,vi x.d.play.slack,vi x.d.play.loose,vi x.d.play.damp.lo,.int false .i64
  x.d.play.damp.hi,vi x.d.wide,vi x.d.high,.bool false x.d.turn,.slz 0 0 x.d.ps.n cO,.slz 1 0 x.scans.n cO,.slz 2 0 x.hang.n (Cap.of
  0),vi x.lost,vi x.foreign,.slz 24 0 C.length cO]),(0,.frz QGu x.d.ps.n fun i=>QA.enc (x.d.ps.get i)),(1,.frz QGu x.scans.n fun i=>
  QA.enc (x.scans.get i)),(2,.frz [.int .i64,.int .i64,.int .i64,.int .i64] x.hang.n fun i=>QA.enc (x.hang.get i)),(24,.frz2 true 38 [.int .i64,.int .i64] C.length (fun
  i=>(QK C i).length) fun i j=>QA.enc ((QK C i).getD j ⟨0,0⟩))]
theorem QPN :VY (mkE Try.prog V9) (nsH Try.prog x C) Try.f75 (nsU x C) = .ask (0=0) (.ask (0=0) (.ask (0=0) (.ask (0=0) (.ask (0=0) (.ask (x.scans.n=x.scans.n) (.ask (cO
  = cO) (.ask ((x.scans.n:Int)=(x.scans.n:Int)) (.ask ((0:Int)=0) (.ask (x.d.play.length=x.d.play.length) (.ask (x.d.play.slack=x.d.play.slack) (.ask
  (x.d.play.loose=x.d.play.loose) (.ask (x.d.play.damp.lo=x.d.play.damp.lo) (.ask (x.d.play.damp.hi=x.d.play.damp.hi) (.ask (x.d.wide=x.d.wide) (.ask (x.d.high=x.d.high)
  (.ask (x.d.turn=x.d.turn) (.ask (0=0) (.ask (x.d.ps.n=x.d.ps.n) (.ask (cO=cO) (.ask (0=0) (.ask (x.scans.n=x.scans.n) (.ask (cO=cO) (.ask (0 =
  0) (.ask (x.hang.n=x.hang.n) (.ask (cO=cO) (.ask (x.lost=x.lost) (.ask (x.foreign=x.foreign) (.ask (x.d.play.length=x.d.play.length) (.ask (x.d.play.slack =
  x.d.play.slack) (.ask (x.d.play.loose=x.d.play.loose) (.ask (x.d.play.damp.lo=x.d.play.damp.lo) (.ask (x.d.play.damp.hi=x.d.play.damp.hi) (.ask (x.d.wide=x.d.wide) (.ask
  (x.d.high=x.d.high) (.ask (x.d.turn=x.d.turn) (.ask (0=0) (.ask (x.d.ps.n=x.d.ps.n) (.ask (cO=cO) (.ask (0=0) (.ask (x.scans.n=x.scans.n) (.ask (cO =
  cO) (.ask (0=0) (.ask (x.hang.n=x.hang.n) (.ask (cO=cO) (.ask (x.lost=x.lost) (.ask (x.foreign=x.foreign) (.ask (0=0) (.ask (0=0) (.ask (x.d.ps.n ≤
  x.d.ps.n) (.ask (QC 28 x.d.ps.n (fun i=>QA.enc (x.d.ps.get i)) fun i=>QA.enc (x.d.ps.get i)) (.ask (x.scans.n≤x.scans.n) (.ask (QC 28 x.scans.n (fun i=>QA.enc
  (x.scans.get i)) fun i=>QA.enc (x.scans.get i)) (.ask (x.hang.n≤x.hang.n) (.ask (QC 4 x.hang.n (fun i=>QA.enc (x.hang.get i)) fun i=>QA.enc (x.hang.get i)) (.asm
  (True) (.all (fun(g0:Nat→Value) => .leaf (.ptr 16 0 0) ((QNz C x))))))))))))))))))))))))))))))))))))))))))))))))))))))))))):=by kernel_rfl
theorem QSt :QL 8 [(.ptr 16 0 0)] ((QNz C x)) (Ku (nsU x C))=(some [0=0,0=0,x.d.play.length=x.d.play.length,x.d.play.slack=x.d.play.slack,x.d.play.loose=x.d.play.loose,
  x.d.play.damp.lo=x.d.play.damp.lo,x.d.play.damp.hi=x.d.play.damp.hi,x.d.wide=x.d.wide,x.d.high=x.d.high,x.d.turn=x.d.turn,0=0,x.d.ps.n=x.d.ps.n,cO =
  cO,0=0,x.scans.n=x.scans.n,cO=cO,0=0,x.hang.n=x.hang.n,cO=cO,x.lost=x.lost,x.foreign=x.foreign,0=0,C.length=C.length,
  cO=cO,C.length=C.length,Kj 2 C.length (fun i=>(QK C i).length) (fun i=>(QK C i).length) (fun i j=>QA.enc ((QK C i).getD j ⟨0,0⟩)) fun i j=>
  QA.enc ((QK C i).getD j ⟨0,0⟩)]):=by kernel_rfl
theorem jM(nid:Nat):Ja 8 8 nid (8+k)=nid+k:=by
 have:Nat.blt (8+k) 8=false:=js (by omega)
 simp only[Ja,this];omega
theorem vy{i:Nat}(h:i<8)(nid:Nat):Ja 8 8 nid i=i:=by
 simp only[Ja,vY h]
theorem QWp:(nsU x C).Ok:=by
 refine⟨(by decide:8≤8),rfl,rfl,?_,rfl,fun nid h => ?_,fun nid h => ?_⟩
 ·intro q hq;simp only[UC.po,nsU,srO,ZI,List.mem_cons,List.not_mem_nil,or_false]at hq;rcases hq with rfl|rfl
  ·exact⟨rfl,rfl,rfl,fun h=>absurd (show 8<8 from h) (by decide)⟩
  ·exact⟨rfl,rfl,rfl,fun h=>absurd (show 9<8 from h) (by decide)⟩
 ·have e0:=jM 0 nid;simp only[UC.va,nsU,AV.mapId,Nat.add_zero]at e0 ⊢;rw[e0]
 ·have e0:=jM 0 nid;have e1:=jM 1 nid;have l0:=vy (i:=0) (by decide) nid
  have l1:=vy (i:=1) (by decide) nid
  have l2:=vy (i:=2) (by decide) nid
  simp only[UC.po,nsU,srO,ZI,JG,Q7.val,List.cons_append,List.nil_append,List.map_cons,List.map_nil,Blk.mapId,AV.mapId,AV.mapIdL,Nat.add_zero,Nat.zero_add]at e0 e1 l0 l1 l2 ⊢;rw[e0,e1,l0,l1,l2]
theorem QVC(hn:x.d.ps.n≤900)(hs:x.scans.n≤1000):QP Try.prog 75 (uFC (nsU x (Qr x x.scans.n))):=by
 refine Ju (E:=mkE Try.prog V9) (QT vt) Try.func75 (by kernel_rfl) (by kernel_rfl) (QWp ..) (QV8 x hn hs) ⟨?_⟩
 generalize Qr x x.scans.n=C;refine Q2 (QPN x C) ?_
 repeat' first|refine QF rfl ?_|refine Qa (p:=_=_) rfl ?_|refine Qa (p:=_≤_) (qlr _) ?_|refine Qa (p:=QC _ _ _ _) (qRr) ?_|refine Qa (p:=Kj _ _ _ _ _ _) (QY _ _ _ _) ?_
 refine KJ fun _=>KF fun g=>⟨rfl,rfl,_,QSt x C,?_⟩
 repeat' first|exact trivial|with_reducible rfl|exact qlr _|exact qRr|exact QY _ _ _ _|refine And.intro ?_ ?_
end Go.Proofs.Ytbpffdkemeoajaa
