/- - -/
import Derived.Test.YtbpffdkemeoajaaMxv
import Derived.Test.YtbpffdkemeoajaaMxw
open Go.IntKind (i64)
set_option maxRecDepth 100000
namespace Go.Proofs.Ytbpffdkemeoajaa
open Go.SX
variable (pb:List Prop→Bool)(x:QD)(C:List (List QC))(l:List QC)(k:Nat)
def QD.sz:Bool:=decide ((x.scans.n:Int)≤12)&&(decide ((x.hang.n:Int)≤12)&&(QX x.lost 0 9&&QX x.foreign 0 3))
def QD.ok(x:QD):Bool:=x.sz&&(x.d.ok&&(Js x.d.play x.scans && !decide (KI (jxO x)≥0)))
def jxR(e:Ex)(J:JSt):Prop:=(e = .ret∧(QL (Ki x) (x.hang.n-k) k).isSome=true∧J=⟨19,[(4,.int false .i64 (KI (QL (Ki x) (x.hang.n-k) k)))],[],8⟩)∨(e = .exit 0∧QL (Ki x) (x.hang.n-k) k=none∧J=⟨19,[],[],8⟩)
theorem QQC(hl:x.hang.n≤1000):JD (jxJ x) (fun k=>k≤x.hang.n) (fun k=>x.hang.n-k) (jxR x) 8 Wv [] (mkE Try.prog K5) (fun _=>hnd (mkE Try.prog K5) 4) (QZ Try.f107 0):=by
 refine⟨fun k g hk=>KF (QTP x k g) ?_⟩;refine QK (fun h => ?_) (fun h => ?_)
 ·have h:k<x.hang.n:=by have:=qdt h;omega
  obtain⟨n,hm⟩:∃ n,x.hang.n-k=n+1:=⟨x.hang.n-k-1,by omega⟩
  have hm':x.hang.n-(k+1)=n:=by omega
  have bad:Ki x k=true→jxR x k .ret ⟨19,[(4,.int false .i64 k)],[],8⟩:=fun q=>by
   have hf:QL (Ki x) (x.hang.n-k) k=some k:=by rw[hm,QL,q]
   exact .inl ⟨rfl,by rw[hf];rfl,by rw[hf];rfl⟩
  refine QF (by simp;omega) (QF (by simp;omega) (QF rfl (QK (fun h1 => ?_) (fun h1=>QF rfl (QK (fun h2 => ?_) (fun h2=>QK (fun h3 => ?_) (fun h3=>QF rfl (QK (fun h4 => ?_) (fun h4=>QF rfl (QK (fun h5 => ?_) (fun h5 => ?_)))))))))))
  ·exact⟨_,bad (by simp only[Ki,Vk,h1,Bool.true_or]),rfl,rfl,_,WY _ _,⟨rfl,trivial⟩⟩
  ·exact⟨_,bad (by simp only[Ki,Vk,h2,Bool.true_or,Bool.or_true]),rfl,rfl,_,WY _ _,⟨rfl,trivial⟩⟩
  ·exact⟨_,bad (by simp only[Ki,Vk,h3,Bool.true_or,Bool.or_true]),rfl,rfl,_,WY _ _,⟨rfl,trivial⟩⟩
  ·exact⟨_,bad (by simp only[Ki,Vk,h4,Bool.true_or,Bool.or_true]),rfl,rfl,_,WY _ _,⟨rfl,trivial⟩⟩
  ·exact⟨_,bad (by simp only[Ki,Vk,h5,Bool.or_true]),rfl,rfl,_,WY _ _,⟨rfl,trivial⟩⟩
  ·have q:Ki x k=false:=by simp only[Ki,Vk,h1,h2,h3,h4,h5,Bool.or_self]
   have hf:QL (Ki x) (x.hang.n-k) k=QL (Ki x) (x.hang.n-(k+1)) (k+1):=by rw[hm,hm',QL,q]
   refine⟨k+1,by omega,by show x.hang.n-(k+1)<x.hang.n-k;omega,fun e J h=>by unfold jxR at h ⊢;rw[hf];exact h,rfl,rfl,_,QUC x k (k+1),?_⟩
   have hw:i64.wrap ((k:Int)+1)=((k+1:Nat):Int):=(w64 (by omega) (by omega)).trans (by omega)
   repeat' first|exact trivial|with_reducible rfl|exact qlr _|exact qRr|exact hw|refine And.intro ?_ ?_
 ·have h:x.hang.n≤k:=by have:=of_decide_eq_false h;omega
  have hf:QL (Ki x) (x.hang.n-k) k=none:=by rw[show x.hang.n-k=0 by omega];rfl
  exact⟨_,.inr ⟨rfl,hf,rfl⟩,rfl,rfl,_,QBk,trivial⟩
def jxX:List (Prop×Ex×JSt):=[((jxO x).isSome=true,.ret,⟨19,[(4,.int false .i64 (KI (jxO x)))],[],8⟩),(jxO x=none,.exit 0,⟨19,[],[],8⟩)]
abbrev jxH(P:Program)(x:QD):Hnd:={ hnd (mkE P K5) 1 with loop:=fun _=>KE 8 [] (jxJ x (0:Nat)) (jxX x) }
theorem QM4(hl:x.hang.n≤1000)(G:Ctx)(hrd:G.rd=none)(hG:G.n=8):Q5 (mkE Try.prog K5) G (jxH Try.prog x) (Qq Try.f107):=by
 refine JT (body:=QZ Try.f107 0) (QR V6) hrd (by kernel_rfl) ?_
 refine JX (n0:=8) (QR V6) (by omega) (fun s hs=>Qv (QR V6) 4 G _ hrd) (fun s hs=>qlr _) ?_ (QQC x hl) (s0:=0) (Nat.zero_le _) ?_
 ·rintro s e J (⟨_,_,rfl⟩|⟨_,_,rfl⟩)<;>exact qlr _
 ·rintro e J (⟨rfl,h,rfl⟩|⟨rfl,h,rfl⟩)
  ·exact⟨_,List.mem_cons_self,h,rfl,rfl⟩
  ·exact⟨_,List.mem_cons_of_mem _ List.mem_cons_self,h,rfl,rfl⟩
theorem QUR :Vu (mkE Try.prog K5) (jxH Try.prog x) Try.f107 (jxU x) = .ask (0=0) (.ask (x.hang.n=x.hang.n) (.ask (cO=cO) (.ask (Fn.func (93:FuncId)=Fn.func (93 :
  FuncId)) (.ask (0=0) (.ask (0=0) (.ask ((x.hang.n:Int)=(x.hang.n:Int)) (.ask ((0:Int)=0) (.ask (Fn.func (92:FuncId)=Fn.func (92:FuncId)) (.ask (0=0) (.ask (0 =
  0) (.ask (x.d.play.length=x.d.play.length) (.ask (x.d.play.slack=x.d.play.slack) (.ask (x.d.play.loose=x.d.play.loose) (.ask (x.d.play.damp.lo=x.d.play.damp.lo) (.ask
  (x.d.play.damp.hi=x.d.play.damp.hi) (.ask (x.d.wide=x.d.wide) (.ask (x.d.high=x.d.high) (.ask (x.d.turn=x.d.turn) (.ask (0=0) (.ask (x.d.ps.n=x.d.ps.n) (.ask (cO =
  cO) (.ask (0=0) (.ask (x.scans.n=x.scans.n) (.ask (cO=cO) (.ask (0=0) (.ask (x.hang.n=x.hang.n) (.ask (cO=cO) (.ask (x.lost=x.lost) (.ask
  (x.foreign=x.foreign) (.ask (x.d.ps.n≤x.d.ps.n) (.ask (QE 28 x.d.ps.n (fun i=>QA.enc (x.d.ps.get i)) fun i=>QA.enc (x.d.ps.get i)) (.ask (x.scans.n≤x.scans.n)
  (.ask (QE 28 x.scans.n (fun i=>QA.enc (x.scans.get i)) fun i=>QA.enc (x.scans.get i)) (.ask (x.hang.n≤x.hang.n) (.ask (QE 4 x.hang.n (fun i=>QA.enc (x.hang.get
  i)) fun i=>QA.enc (x.hang.get i)) (.both (.asm ((jxO x).isSome=true) (.all (fun(g0:Nat→Value) => .leaf (.int false .i64 (KI (jxO x))) ([])))) (.asm (jxO x=none)
  (.all (fun(g1:Nat→Value) => .leaf (.int true .i64 (-1)) ([])))))))))))))))))))))))))))))))))))))))):=by kernel_rfl
theorem QUc:QO 8 [(AV.int false i64 (KI (jxO x)))] ([]) (JF (jxU x))=(
  some [KI (jxO x)=KI (jxO x)]):=by kernel_rfl
theorem QQY:QO 8 [(AV.int true i64 (-1:Int))] ([]) (JF (jxU x))=(
  some [(-1:Int)=KI (jxO x)]):=by kernel_rfl
theorem QRo(hl:x.hang.n≤1000):QQ Try.prog 107 (uFC (jxU x)):=by
 refine VZ (E:=mkE Try.prog K5) (QR V6) Try.func107 (by kernel_rfl) (by kernel_rfl) (jP (Nat.zero_le _) rfl rfl fun _=>rfl) (QM4 x hl) ⟨?_⟩
 refine KF (QUR x) ?_
 repeat' first|refine Qa (show _=_ by with_reducible rfl) ?_|refine Qa (show _≤_ from qlr _) ?_|refine Qa (show QE _ _ _ _ from qRr) ?_
 refine XQ (KQ fun h=>KN fun g => ?_) (KQ fun h=>KN fun g => ?_)
 ·exact⟨rfl,rfl,_,QUc x,⟨rfl,trivial⟩⟩
 ·refine⟨rfl,rfl,_,QQY x,⟨?_,trivial⟩⟩;rw[h];rfl
def HB:Tab:=Qb K5 107 (VD pb (jxU x))
theorem QNn:Vu (mkE Try.prog (HB pb x)) (hnd (mkE Try.prog (HB pb x)) 1) Try.f94 (cxU x) =
  QB.need (pb ([(0:Nat)=(0:Nat),x.hang.n=x.hang.n,Cap.of (0:Nat)=Cap.of (0:Nat),Fn.func (93:Nat)=Fn.func (93:Nat),(0:Nat)=(0:Nat),(0:Nat)=(0 :
  Nat),Fn.func (92:Nat)=Fn.func (92:Nat),(0:Nat)=(0:Nat),(0:Nat)=(0:Nat),x.d.play.length=x.d.play.length,x.d.play.slack=x.d.play.slack,x.d.play.loose =
  x.d.play.loose,x.d.play.damp.lo=x.d.play.damp.lo,x.d.play.damp.hi=x.d.play.damp.hi,x.d.wide=x.d.wide,x.d.high=x.d.high,x.d.turn=x.d.turn,(0:Nat)=(0:Nat),
  x.d.ps.n=x.d.ps.n,Cap.of (0:Nat)=Cap.of (0:Nat),(0:Nat)=(0:Nat),x.scans.n=x.scans.n,Cap.of (0:Nat)=Cap.of (0:Nat),(0:Nat)=(0:Nat),x.hang.n =
  x.hang.n,Cap.of (0:Nat)=Cap.of (0:Nat),x.lost=x.lost,x.foreign=x.foreign,x.d.ps.n≤x.d.ps.n,QE (28:Nat) x.d.ps.n (fun i=>QA.enc (x.d.ps.get i)) fun i=>
  QA.enc (x.d.ps.get i),x.scans.n≤x.scans.n,QE (28:Nat) x.scans.n (fun i=>QA.enc (x.scans.get i)) fun i=>QA.enc (x.scans.get i),x.hang.n≤x.hang.n,QE (4 :
  Nat) x.hang.n (fun i=>QA.enc (x.hang.get i)) fun i=>QA.enc (x.hang.get i)])) (QB.leaf (AV.bool false (decide (KI (jxO x)≥(0:Int)))) ([])):=by kernel_rfl
theorem QVM:QO 8 [(AV.bool false (decide (KI (jxO x)≥(0:Int))))] ([]) (JF (cxU x))=(
  some [decide (KI (jxO x)≥(0:Int))=decide (KI (jxO x)≥(0:Int))]):=by kernel_rfl
def vF:Tab:=Qb K5 94 (VD pb (cxU x))
theorem QMh :KY (mkE Try.prog (vF pb x)) (hnd (mkE Try.prog (vF pb x)) 1) Try.f74 (QS.vals 0 ((x,()):QD×Unit)) (QS.blks 0 ((x,()):QD×Unit)) 8 = .br (decide
  ((x.scans.n:Int)≤12)) (.br (decide ((x.hang.n:Int)≤12)) (.need (true) (.br (QX x.lost (0:Int) (9:Int)) (.need (true) (.br (QX x.foreign (0:Int) (3:Int))
  (.need (decide (x.d.ps.n≤x.d.ps.n)&&true&&decide (x.d.ps.n≤1000)) (.br (x.d.ok) (.need (true&&(decide (x.scans.n≤x.scans.n)&&true)&&decide (x.scans.n≤1000)) (.br
  (Js x.d.play x.scans) (.need (pb ([0=0,x.hang.n=x.hang.n,cO=cO,Fn.func 93=Fn.func 93,0=0,0=0,Fn.func 92=Fn.func 92,0=0,0=0,x.d.play.length =
  x.d.play.length,x.d.play.slack=x.d.play.slack,x.d.play.loose=x.d.play.loose,x.d.play.damp.lo=x.d.play.damp.lo,x.d.play.damp.hi=x.d.play.damp.hi,x.d.wide=x.d.wide,
  x.d.high=x.d.high,x.d.turn=x.d.turn,0=0,x.d.ps.n=x.d.ps.n,cO=cO,0=0,x.scans.n=x.scans.n,cO=cO,0=0,x.hang.n=x.hang.n,cO =
  cO,x.lost=x.lost,x.foreign=x.foreign,x.d.ps.n≤x.d.ps.n,QE 28 x.d.ps.n (fun i=>QA.enc (x.d.ps.get i)) fun i=>QA.enc (x.d.ps.get i),x.scans.n≤x.scans.n,
  QE 28 x.scans.n (fun i=>QA.enc (x.scans.get i)) fun i=>QA.enc (x.scans.get i),x.hang.n≤x.hang.n,QE 4 x.hang.n (fun i=>QA.enc (x.hang.get i)) fun i=>
  QA.enc (x.hang.get i)])) (.leaf (.bool false !decide (KI (jxO x)≥0)) ([]))) (.leaf (.bool true false) ([])))) (.leaf (.bool true false) ([])))) (.leaf (.bool true false)
  ([])))) (.leaf (.bool true false) ([])))) (.leaf (.bool true false) ([]))) (.leaf (.bool true false) ([])):=by kernel_rfl
theorem QTl(hl:x.hang.n≤1000):QV (HB Qx x):=V6.add (QRo x hl)
theorem QPD(hl:x.hang.n≤1000):QQ Try.prog 94 (uFC (cxU x)):=by
 have hE:=QR (QTl x hl);refine VZ (E:=mkE Try.prog (HB Qx x)) hE (c:=Qq Try.f94) Try.func94 (by kernel_rfl) (by kernel_rfl) (jP (Nat.zero_le _) rfl rfl fun _=>rfl) (fun G h1 _=>Qv hE 1 G _ h1) ⟨?_⟩
 refine KF (QNn Qx x) ?_;refine QF (JS.2 ?_) ⟨rfl,rfl,_,QVM x,⟨rfl,trivial⟩⟩
 repeat' first|exact trivial|with_reducible rfl|exact qlr _|exact qRr|refine And.intro ?_ ?_
theorem QNe(hl:x.hang.n≤1000):QV (vF Qx x):=V6.add (QPD x hl)
def qS:WF (QD×Unit):=fun|(x,_)=>(decide (x.d.ps.n≤1000∧x.scans.n≤1000∧x.hang.n≤1000),.bool false x.ok,[])
def QKK:FC:=wFC qS
theorem QRc(hx:(qS (x,())).1=true):QQ Try.prog 74 (wFC (XA qS (x,()))):=by
 obtain⟨h1,h2,h3⟩:=qdt hx;have hE:=QR (QNe x h3);refine jw (c:=Qq Try.f74) (E:=mkE Try.prog (vF Qx x)) (H:=hnd (mkE Try.prog (vF Qx x)) 1) hE Try.func74 (by kernel_rfl) (by kernel_rfl) (N:=8) (by decide) (x,()) (fun G h1 _=>Qv hE 1 G _ h1) ⟨rfl,by simp[qS],rfl⟩ ?_
 refine KF (QMh Qx x) ?_;have no:x.ok=false→(QB.leaf (AV.bool true false) []).den (XI 8 (qS (x,())).2.1 (qS (x,())).2.2):=fun h=>Ke (show false=x.ok by rw[h]) rfl
 refine QK (fun a1=>QK (fun a2=>QF rfl (QK (fun a3=>QF rfl (QK (fun a4=>QF (by simp;omega) (QK (fun a5=>QF (by simp;omega) (QK (fun a6=>QF (JS.2 ?_) (Ke ?_ rfl)) (fun a6=>no ?_))) (fun a5=>no ?_))) (fun a4=>no ?_))) (fun a3=>no ?_))) (fun a2=>no ?_)) (fun a1=>no ?_)
 ·repeat' first|exact trivial|with_reducible rfl|exact qlr _|exact qRr|refine And.intro ?_ ?_
 ·show(!decide (KI (jxO x)≥0))=x.ok;simp only[QD.ok,QD.sz,a1,a2,a3,a4,a5,a6,Bool.true_and]
 ·simp only[QD.ok,a6,Bool.false_and,Bool.and_false]
 ·simp only[QD.ok,a5,Bool.false_and,Bool.and_false]
 ·simp only[QD.ok,QD.sz,a4,Bool.false_and,Bool.and_false]
 ·simp only[QD.ok,QD.sz,a3,Bool.false_and,Bool.and_false]
 ·simp only[QD.ok,QD.sz,a2,Bool.false_and,Bool.and_false]
 ·simp only[QD.ok,QD.sz,a1,Bool.false_and]
theorem QSB:QQ Try.prog 74 QKK:=QBl (by kernel_rfl) fun|(x,()),h=>QRc x h
def Qy:Tab:=Qb K5 74 QKK
theorem KK:QV Qy:=V6.add QSB
def QN(i:Nat):List QC:=C.getD i []
def Y5(own:Bool)(id:Nat)(C:List (List QC)):Nat×Blk:=(id,.frz2 own 38 [.int .i64,.int .i64] C.length (fun i=>(QN C i).length) fun i j=>QA.enc ((QN C i).getD j ⟨0,0⟩))
def srC:List AV:=JR 0 x++[.slz 4 0 C.length (.of 0)]
def srB:List (Nat×Blk):=[(3,.cellsR 0 125 (srC x C)),Y5 false 4 C]++JP 0 x
def We(j:Jn)(a:QC):Int:=(j.i+a.turn).tmod 4
def VR(j:Jn)(a b:QC):Bool:=cond ((a.cell == -2)||(b.cell == -2)) ((a.cell==b.cell)&&((a.turn==b.turn)&&true)) ((QT x.d.wide x.d.high a.cell (We j a)==b.cell)&&((j.j+b.turn).tmod 4==Gu (We j a)))
def hgU(j:Jn)(a b:QC):UC:=⟨0,⟨4,[(0,.ptr 3 0 0),(1,Enc.enc j),(2,Enc.enc a),(3,Enc.enc b)],srB x C,8⟩,fun _ => .bool false (VR x j a b),fun _=>[]⟩
theorem QRE(j:Jn)(a b:QC):Vu (mkE Try.prog Qy) (hnd (mkE Try.prog Qy) 1) Try.f95 (hgU x C j a b) =
  QB.br (a.cell==(-2:Int)) (QB.leaf (AV.bool false (a.cell==b.cell&&(a.turn==b.turn&&true))) ([])) (QB.br (b.cell==(-2:Int)) (QB.leaf (AV.bool false (a.cell ==
  b.cell&&(a.turn==b.turn&&true))) ([])) (QB.need (decide (x.d.ps.n≤x.d.ps.n)&&(true&&(true&&true))&&decide (((1:Int)≤x.d.wide∧x.d.wide≤(100:Int))∧((1 :
  Int)≤x.d.high∧x.d.high≤(100:Int))∧(0:Int)≤a.cell∧a.cell≤(100:Int))) (QB.br (QT x.d.wide x.d.high a.cell ((i64.wrap (j.i+a.turn)).tmod (4:Int)) ==
  b.cell) (QB.need (decide ((0:Int)≤(i64.wrap (j.i+a.turn)).tmod (4:Int)∧(i64.wrap (j.i+a.turn)).tmod (4:Int)≤(3:Int))) (QB.leaf (AV.bool false
  ((i64.wrap (j.j+b.turn)).tmod (4:Int)==Gu ((i64.wrap (j.i+a.turn)).tmod (4:Int)))) ([]))) (QB.leaf (AV.bool true false) ([]))))):=by kernel_rfl
theorem QWC(j:Jn)(a b:QC)(c v:Bool):QO 8 [.bool c v] [] (JF (hgU x C j a b))=(
  some [v=VR x j a b]):=by kernel_rfl
structure JW (s:QC):Prop where
 cell:s.cell = -2∨0≤s.cell∧s.cell≤100
 turn:0≤s.turn∧s.turn≤3
structure JnB (j:Jn):Prop where
 i:0≤j.i∧j.i≤3
 j:0≤j.j∧j.j≤3
theorem QNg{n:Int}(h:0≤n):0≤n.tmod 4∧n.tmod 4≤3:=by
 have h1:=Int.tmod_nonneg 4 h;have h2:=Int.tmod_lt_of_pos n (show(0:Int)<4 by decide)
 omega
theorem QUY(j:Jn)(a b:QC)(hd:Z6 x.d)(hj:JnB j)(ha:JW a)(hb:JW b):QQ Try.prog 95 (uFC (hgU x C j a b)):=by
 refine VZ (E:=mkE Try.prog Qy) (QR KK) (c:=Qq Try.f95) Try.func95 (by kernel_rfl) (by kernel_rfl) (jP (Nat.zero_le _) rfl rfl fun _=>rfl) (fun G h1 _=>Qv (QR KK) 1 G _ h1) ⟨?_⟩
 refine KF (QRE x C j a b) ?_;have hw:=hd.w1;have hwn:=hd.wn;have hh:=hd.h1;have hhn:=hd.hn;have h9:=hd.n9;have ha2:=ha.turn;have hb2:=hb.turn;have hi:=hj.i;have hjj:=hj.j;have fin:∀(c v:Bool),v=VR x j a b→(QB.leaf (.bool c v) []).den (HF (hgU x C j a b)):=fun c v h=>⟨rfl,rfl,_,QWC x C j a b c v,⟨h,trivial⟩⟩;have w1:i64.wrap (j.i+a.turn)=j.i+a.turn:=w64 (by omega) (by omega)
 have w2:i64.wrap (j.j+b.turn)=j.j+b.turn:=w64 (by omega) (by omega)
 have m:=QNg (n:=j.i+a.turn) (by omega)
 rw[w1,w2];refine QK (fun h=>fin _ _ ?_) (fun h=>QK (fun h2=>fin _ _ ?_) (fun h2=>QF ?_ (QK (fun h3=>QF ?_ (fin _ _ ?_)) (fun h3=>fin _ _ ?_))))
 ·simp only[VR,h,Bool.true_or,cond_true]
 ·simp only[VR,h2,Bool.or_true,cond_true]
 ·have:¬ a.cell = -2:=by simpa using h
  have:=ha.cell;simp only[qlr,decide_true,Bool.true_and,qdE];omega
 ·simp only[qdE];exact m
 ·simp only[VR,h,h2,Bool.or_self,cond_false,We,h3,Bool.true_and]
 ·simp only[VR,h,h2,Bool.or_self,cond_false,We,h3,Bool.false_and]
def frS(id:Nat)(l:List QC):Nat×Blk:=(id,.frz [.int .i64,.int .i64] l.length fun i=>QA.enc (l.getD i ⟨0,0⟩))
def ftB:List (Nat×Blk):=frS 5 l::srB x C
def ftJ:JSt:=⟨45,[(0,.ptr 3 0 0),(1,.slz 5 0 l.length (.of 0)),(5,.int false .i64 ((l.length:Int)-1)),(15,.slz 2 0 x.hang.n (.of 0)),(16,.int false .i64 x.hang.n),(17,.int false .i64 k)],ftB x C l,32⟩
def QKZ:Ex→List Nat
 | .normal=>[0,1,5,15,16,17]
 | .exit _=>[]
 | .ret=>[4]
def QDB:JSt:=⟨45,[(4,.bool false false)],[],32⟩
def QDE:JSt:=⟨45,[],[],32⟩
def QDb:UC:=hgU x C (x.hang.get k) (l.getD (x.hang.get k).a.toNat ⟨0,0⟩) (l.getD (x.hang.get k).b.toNat ⟨0,0⟩)
def QBj(U:UC):Tab:=Qb Qy 95 (VD pb U)
noncomputable abbrev QLV(l:List QC)(x:QD):List AV:=
  [.nilp,.ptr 45 0 0,.ptr 3 0 0,.slz 5 0 l.length cO,vi ((l.length:Int)-1),.slz 2 0 x.hang.n cO,vi (x.hang.n:Int),.int false
  .i64 (i64.wrap ((k:Int)+1))]
abbrev QJI:List CK:=
  [.int .i64,.int .i64,.int .i64,.int .i64,.int .i64,.int .i64,.int .i64,.int .i64,.int .i64,.int .i64,.int .i64,.int .i64,.int .i64,.int .i64,.int .i64,.int .i64,.int
  .i64,.int .i64,.int .i64,.int .i64,.int .i64,.int .i64,.int .i64,.int .i64,.int .i64,.int .i64,.int .i64,.int .i64]
noncomputable abbrev QAp(x:QD):List (Nat×Blk):=
  [(3,.cellsR 0 125 [vi x.d.play.length,vi x.d.play.slack,vi x.d.play.loose,vi x.d.play.damp.lo,.int false .i64
  x.d.play.damp.hi,vi x.d.wide,vi x.d.high,.bool false x.d.turn,.slz 0 0 x.d.ps.n cO,.slz 1 0 x.scans.n cO,.slz 2 0 x.hang.n (Cap.of
  0),vi x.lost,vi x.foreign,.slz 4 0 C.length cO]),(5,.frz [.int .i64,.int .i64] l.length fun i=>QA.enc (l.getD i ⟨0,0⟩)),(2,.frz [.int
  .i64,.int .i64,.int .i64,.int .i64] x.hang.n fun i=>QA.enc (x.hang.get i)),(0,.frz QJI x.d.ps.n fun i=>QA.enc (x.d.ps.get i)),(1,.frz QJI x.scans.n fun i=>
  QA.enc (x.scans.get i)),(4,.frz2 false 38 [.int .i64,.int .i64] C.length (fun i=>(QN C i).length) fun i j=>QA.enc ((QN C i).getD j ⟨0,0⟩))]
theorem QRJ(g:Nat→Value):exec (mkE Try.prog (QBj pb (QDb x C l k))) (hnd (mkE Try.prog (QBj pb (QDb x C l k))) 0) (QZ Try.f78 0) (JSt.inst (ftJ x C l k) g) (KW [] QKZ) = .br (decide ((k :
  Int)<(x.hang.n:Int))) (.need (decide ((0:Int)≤(k:Int)∧(k:Int)<(x.hang.n:Int))&&decide (x.hang.n≤x.hang.n)) (.need (decide (k<x.hang.n)) (.br (max (x.hang.get
  k).a (x.hang.get k).b==(l.length:Int)-1) (.need (decide ((0:Int)≤(x.hang.get k).a∧(x.hang.get k).a<(l.length:Int))&&decide (l.length≤l.length)) (.need (decide
  ((x.hang.get k).a.toNat<l.length)) (.need (decide ((0:Int)≤(x.hang.get k).b∧(x.hang.get k).b<(l.length:Int))&&decide (l.length≤l.length)) (.need (decide ((x.hang.get
  k).b.toNat<l.length)) (.need (pb ([0=0,0=0,(x.hang.get k).a=(x.hang.get k).a,(x.hang.get k).i=(x.hang.get k).i,(x.hang.get k).b=(x.hang.get k).b,(x.hang.get k).j =
  (x.hang.get k).j,(l.getD (x.hang.get k).a.toNat ⟨0,0⟩).cell=(l.getD (x.hang.get k).a.toNat ⟨0,0⟩).cell,(l.getD (x.hang.get k).a.toNat ⟨0,0⟩).turn=(l.getD (x.hang.get
  k).a.toNat ⟨0,0⟩).turn,(l.getD (x.hang.get k).b.toNat ⟨0,0⟩).cell=(l.getD (x.hang.get k).b.toNat ⟨0,0⟩).cell,(l.getD (x.hang.get k).b.toNat ⟨0,0⟩).turn=(l.getD (x.hang.get
  k).b.toNat ⟨0,0⟩).turn,x.d.play.length=x.d.play.length,x.d.play.slack=x.d.play.slack,x.d.play.loose=x.d.play.loose,x.d.play.damp.lo=x.d.play.damp.lo,x.d.play.damp.hi =
  x.d.play.damp.hi,x.d.wide=x.d.wide,x.d.high=x.d.high,x.d.turn=x.d.turn,0=0,x.d.ps.n=x.d.ps.n,cO=cO,0=0,x.scans.n=x.scans.n,cO=cO,
  0=0,x.hang.n=x.hang.n,cO=cO,x.lost=x.lost,x.foreign=x.foreign,0=0,C.length=C.length,cO=cO,C.length=C.length,Ku 2 C.length
  (fun i=>(QN C i).length) (fun i=>(QN C i).length) (fun i j=>QA.enc ((QN C i).getD j ⟨0,0⟩)) fun i j=>QA.enc ((QN C i).getD j ⟨0,0⟩),x.d.ps.n≤x.d.ps.n,
  QE 28 x.d.ps.n (fun i=>QA.enc (x.d.ps.get i)) fun i=>QA.enc (x.d.ps.get i),x.scans.n≤x.scans.n,QE 28 x.scans.n (fun i=>QA.enc (x.scans.get i)) fun i=>
  QA.enc (x.scans.get i),x.hang.n≤x.hang.n,QE 4 x.hang.n (fun i=>QA.enc (x.hang.get i)) fun i=>QA.enc (x.hang.get i)])) (.br (!VR x (x.hang.get k) (l.getD
  (x.hang.get k).a.toNat ⟨0,0⟩) (l.getD (x.hang.get k).b.toNat ⟨0,0⟩)) (.leaf (.tup [.nili,.ptr 45 0 0,.bool true false]) ([])) (.leaf (.tup (QLV k l x)) ((QAp C l x)))))))))
  (.leaf (.tup (QLV k l x)) ((QAp C l x)))))) (.leaf (.tup [.ptr 0 0 0,.ptr 45 0 0]) ([])):=by kernel_rfl
theorem QPv :QO 8 [AV.bool true false] ([]) QDB=(
  some [false=false]):=by kernel_rfl
noncomputable abbrev QIf(l:List QC)(x:QD):List AV:=
  [.ptr 3 0 0,.slz 5 0 l.length cO,vi ((l.length:Int)-1),.slz 2 0 x.hang.n cO,vi (x.hang.n:Int),vi (i64.wrap
  ((k:Int)+1))]
abbrev QLi(k':Nat)(l:List QC)(x:QD):List Prop:=
  [0=0,0=0,0=0,l.length=l.length,cO=cO,(l.length:Int)-1=(l.length:Int)-1,0=0,x.hang.n=x.hang.n,cO=cO,(x.hang.n:Int) =
  (x.hang.n:Int),i64.wrap ((k:Int)+1)=(k':Int),l.length≤l.length,QE 2 l.length (fun i=>QA.enc (l.getD i ⟨0,0⟩)) fun i=>QA.enc (l.getD i ⟨0,0⟩),
  x.d.play.length=x.d.play.length,x.d.play.slack=x.d.play.slack,x.d.play.loose=x.d.play.loose,x.d.play.damp.lo=x.d.play.damp.lo,x.d.play.damp.hi=x.d.play.damp.hi,
  x.d.wide=x.d.wide,x.d.high=x.d.high,x.d.turn=x.d.turn,0=0,x.d.ps.n=x.d.ps.n,cO=cO,0=0,x.scans.n=x.scans.n,cO=cO,0=0,x.hang.n =
  x.hang.n,cO=cO,x.lost=x.lost,x.foreign=x.foreign,0=0,C.length=C.length,cO=cO,C.length=C.length,Ku 2 C.length (fun i=>(QN C
  i).length) (fun i=>(QN C i).length) (fun i j=>QA.enc ((QN C i).getD j ⟨0,0⟩)) fun i j=>QA.enc ((QN C i).getD j ⟨0,0⟩),x.d.ps.n≤x.d.ps.n,QE 28 x.d.ps.n (fun
  i=>QA.enc (x.d.ps.get i)) fun i=>QA.enc (x.d.ps.get i),x.scans.n≤x.scans.n,QE 28 x.scans.n (fun i=>QA.enc (x.scans.get i)) fun i=>QA.enc (x.scans.get i),
  x.hang.n≤x.hang.n,QE 4 x.hang.n (fun i=>QA.enc (x.hang.get i)) fun i=>QA.enc (x.hang.get i)]
theorem QOJ(k k':Nat):QO 8 (QIf k l x) ((QAp C l x)) (ftJ x C l k')=(some (QLi C k k' l x)):=by kernel_rfl
theorem QNT(k k':Nat):QO 8 (QIf k l x) ((QAp C l x)) (ftJ x C l k')=(some (QLi C k k' l x)):=by kernel_rfl
theorem QPX :QO 8 [] ([]) QDE=(
  some []):=by kernel_rfl
theorem Q0(m:Nat)(n:Nat)(ln:Nat→Nat)(g:Nat→Nat→Nat→Int):Ku m n ln ln g g:=fun _ _=>⟨rfl,qRr⟩
def X4:Bool:=max (x.hang.get k).a (x.hang.get k).b==(l.length:Int)-1
def Jz:Bool:=X4 x l k && !VR x (x.hang.get k) (l.getD (x.hang.get k).a.toNat ⟨0,0⟩) (l.getD (x.hang.get k).b.toNat ⟨0,0⟩)
def JB:Bool:=(QL (Jz x l) x.hang.n 0).isNone
structure K6 (x:QD):Prop where
 d:Z6 x.d
 n:x.hang.n≤12
 s:x.scans.n≤12
 j:∀ k,k<x.hang.n→JnB (x.hang.get k)∧(0≤(x.hang.get k).a∧(x.hang.get k).a<x.scans.n)∧0≤(x.hang.get k).b∧(x.hang.get k).b<x.scans.n
structure qb (l:List QC):Prop where
 pos:0<l.length
 le:l.length≤1000
 s:∀ i,i<l.length→JW (l.getD i ⟨0,0⟩)
noncomputable def jV:List Prop→Bool:=match decide (k<x.hang.n)&&X4 x l k with
 | true=>Qx
 | false=>fun _=>false
noncomputable def WD(P:Program)(x:QD)(C:List (List QC))(l:List QC)(k:Nat):Env:=mkE P (QBj (jV x l k) (QDb x C l k))
theorem QJc{x:QD}{l:List QC}(hx:K6 x)(hl:qb l){k:Nat}(hk:k<x.hang.n)(hm:X4 x l k=true):(0≤(x.hang.get k).a∧(x.hang.get k).a<l.length)∧0≤(x.hang.get k).b∧(x.hang.get k).b<l.length:=by
 obtain⟨_,h1,h2⟩:=hx.j k hk;have:=hl.pos;simp only[X4,beq_iff_eq]at hm;omega
theorem QHc{x:QD}{C:List (List QC)}{l:List QC}(hx:K6 x)(hl:qb l)(k:Nat):(WD Try.prog x C l k).Sound:=by
 unfold WD jV;split
 ·rename_i hc;simp only[qbA,qdE]at hc;obtain⟨h1,h2⟩:=QJc hx hl hc.1 hc.2;exact QR (KK.add (QUY x C _ _ _ hx.d (hx.j k hc.1).1 (hl.s _ (by omega)) (hl.s _ (by omega))))
 ·exact QR (KK.add (vm (by kernel_rfl) _))
def ftR(e:Ex)(J:JSt):Prop:=(e = .ret∧(QL (Jz x l) (x.hang.n-k) k).isNone=false∧J=QDB)∨(e = .exit 0∧(QL (Jz x l) (x.hang.n-k) k).isNone=true∧J=QDE)
theorem QT6(hx:K6 x)(hl:qb l):za (ftJ x C l) (fun k=>k≤x.hang.n) (fun k=>x.hang.n-k) (ftR x l) 8 QKZ [] (WD Try.prog x C l) (fun k=>hnd (WD Try.prog x C l k) 0) (QZ Try.f78 0):=by
 refine⟨fun k g hk => ?_⟩;unfold WD;refine KF (QRJ (jV x l k) x C l k g) ?_;have h12:=hx.n;refine QK (fun h => ?_) (fun h => ?_)
 ·have h:k<x.hang.n:=by have:=qdt h;omega
  obtain⟨m,hm⟩:∃ m,x.hang.n-k=m+1:=⟨x.hang.n-k-1,by omega⟩
  have hm':x.hang.n-(k+1)=m:=by omega
  have hw:i64.wrap ((k:Int)+1)=((k+1:Nat):Int):=(w64 (by omega) (by omega)).trans (by omega)
  have go:Jz x l k=false→∀ e J,ftR x l (k+1) e J→ftR x l k e J:=fun q e J h=>by
   have hf:QL (Jz x l) (x.hang.n-k) k=QL (Jz x l) (x.hang.n-(k+1)) (k+1):=by rw[hm,hm',QL,q]
   unfold ftR at h ⊢;rw[hf];exact h
  refine QF (by simp;omega) (QF (by simp;omega) (QK (fun hb => ?_) (fun hb => ?_)))
  ·have hb:X4 x l k=true:=hb;obtain⟨i1,i2⟩:=QJc hx hl h hb;have hpb:jV x l k=Qx:=by simp only[jV,hb,decide_eq_true h,Bool.and_self]
   rw[hpb];refine QF (by simp;omega) (QF (by simp;omega) (QF (by simp;omega) (QF (by simp;omega) (QF (JS.2 ?_) (QK (fun hq => ?_) (fun hq => ?_))))))
   ·repeat' first|exact trivial|with_reducible rfl|exact qlr _|exact qRr|exact Q0 _ _ _ _|refine And.intro ?_ ?_
   ·have q:Jz x l k=true:=by simp only[Jz,hb,Bool.true_and];exact hq
    have hf:QL (Jz x l) (x.hang.n-k) k=some k:=by rw[hm,QL,q]
    exact⟨_,.inl ⟨rfl,by rw[hf];rfl,rfl⟩,rfl,rfl,_,QPv,⟨rfl,trivial⟩⟩
   ·have q:Jz x l k=false:=by simp only[Jz,hb,Bool.true_and];exact hq
    refine⟨k+1,by show k+1≤x.hang.n;omega,by show x.hang.n-(k+1)<x.hang.n-k;omega,go q,rfl,rfl,_,QOJ x C l k (k+1),?_⟩
    repeat' first|exact trivial|with_reducible rfl|exact qlr _|exact qRr|exact Q0 _ _ _ _|exact hw|refine And.intro ?_ ?_
  ·have hb:X4 x l k=false:=hb;have q:Jz x l k=false:=by simp only[Jz,hb,Bool.false_and]
   refine⟨k+1,by show k+1≤x.hang.n;omega,by show x.hang.n-(k+1)<x.hang.n-k;omega,go q,rfl,rfl,_,QNT x C l k (k+1),?_⟩
   repeat' first|exact trivial|with_reducible rfl|exact qlr _|exact qRr|exact Q0 _ _ _ _|exact hw|refine And.intro ?_ ?_
 ·have h:x.hang.n≤k:=by have:=of_decide_eq_false h;omega
  have hf:QL (Jz x l) (x.hang.n-k) k=none:=by rw[show x.hang.n-k=0 by omega];rfl
  exact⟨_,.inr ⟨rfl,by rw[hf];rfl,rfl⟩,rfl,rfl,_,QPX,trivial⟩
def ftX:List (Prop×Ex×JSt):=[(JB x l=false,.ret,QDB),(JB x l=true,.exit 0,QDE)]
abbrev ftH(P:Program)(x:QD)(C:List (List QC))(l:List QC):Hnd:={ hnd (mkE P Qy) 1 with loop:=fun _=>KE 8 [] (ftJ x C l (0:Nat)) (ftX x l) }
theorem QNc(hx:K6 x)(hl:qb l)(G:Ctx)(hrd:G.rd=none)(hG:G.n=8):Q5 (mkE Try.prog Qy) G (ftH Try.prog x C l) (Qq Try.f78):=by
 refine JT (body:=QZ Try.f78 0) (QR KK) hrd (by kernel_rfl) ?_
 refine QBX (E0:=mkE Try.prog Qy) (E:=WD Try.prog x C l) (H:=fun k=>hnd (WD Try.prog x C l k) 0) (n0:=8) (s0:=0) (fun _=>rfl) (QHc hx hl) (by omega) (fun k _=>Qv (QHc hx hl k) 0 G _ hrd) (fun k _=>(by decide:8≤32)) ?_ (QT6 x C l hx hl) (Nat.zero_le _) ?_
 ·rintro s e J (⟨_,_,rfl⟩|⟨_,_,rfl⟩)<;>exact(by decide:8≤32)
 ·rintro e J (⟨rfl,h,rfl⟩|⟨rfl,h,rfl⟩)
  ·exact⟨_,List.mem_cons_self,h,rfl,rfl⟩
  ·exact⟨_,List.mem_cons_of_mem _ List.mem_cons_self,h,rfl,rfl⟩
def ftU:UC:=⟨0,⟨2,[(0,.ptr 3 0 0),(1,.slz 5 0 l.length (.of 0))],ftB x C l,8⟩,fun _ => .bool false (JB x l),fun _=>[]⟩
theorem QQw :Vu (mkE Try.prog Qy) (ftH Try.prog x C l) Try.f78 (ftU x C l) = .ask (0=0) (.ask (0=0) (.ask (0=0) (.ask (l.length=l.length) (.ask (cO=cO) (.ask
  (i64.wrap ((l.length:Int)-1)=(l.length:Int)-1) (.ask (0=0) (.ask (x.hang.n=x.hang.n) (.ask (cO=cO) (.ask ((x.hang.n:Int)=(x.hang.n:Int))
  (.ask ((0:Int)=0) (.ask (l.length≤l.length) (.ask (QE 2 l.length (fun i=>QA.enc (l.getD i ⟨0,0⟩)) fun i=>QA.enc (l.getD i ⟨0,0⟩)) (.ask (x.d.play.length =
  x.d.play.length) (.ask (x.d.play.slack=x.d.play.slack) (.ask (x.d.play.loose=x.d.play.loose) (.ask (x.d.play.damp.lo=x.d.play.damp.lo) (.ask (x.d.play.damp.hi =
  x.d.play.damp.hi) (.ask (x.d.wide=x.d.wide) (.ask (x.d.high=x.d.high) (.ask (x.d.turn=x.d.turn) (.ask (0=0) (.ask (x.d.ps.n=x.d.ps.n) (.ask (cO=cO) (.ask (0
  = 0) (.ask (x.scans.n=x.scans.n) (.ask (cO=cO) (.ask (0=0) (.ask (x.hang.n=x.hang.n) (.ask (cO=cO) (.ask (x.lost=x.lost) (.ask (x.foreign =
  x.foreign) (.ask (0=0) (.ask (C.length=C.length) (.ask (cO=cO) (.ask (C.length=C.length) (.ask (Ku 2 C.length (fun i=>(QN C i).length) (fun i=>(QN C
  i).length) (fun i j=>QA.enc ((QN C i).getD j ⟨0,0⟩)) fun i j=>QA.enc ((QN C i).getD j ⟨0,0⟩)) (.ask (x.d.ps.n≤x.d.ps.n) (.ask (QE 28 x.d.ps.n (fun i=>QA.enc
  (x.d.ps.get i)) fun i=>QA.enc (x.d.ps.get i)) (.ask (x.scans.n≤x.scans.n) (.ask (QE 28 x.scans.n (fun i=>QA.enc (x.scans.get i)) fun i=>QA.enc (x.scans.get i))
  (.ask (x.hang.n≤x.hang.n) (.ask (QE 4 x.hang.n (fun i=>QA.enc (x.hang.get i)) fun i=>QA.enc (x.hang.get i)) (.both (.asm (JB x l=false) (.all (fun(g0:Nat →
  Value) => .leaf (.bool false false) ([])))) (.asm (JB x l=true) (.all (fun(g1:Nat→Value) => .leaf (.bool true true) ([]))))))))))))))))))))))))))))))))))))))))))))))):=by kernel_rfl
theorem QGZ(c v:Bool):QO 8 [.bool c v] [] (JF (ftU x C l))=(
  some [v=JB x l]):=by kernel_rfl
theorem QGe(hx:K6 x)(hl:qb l):QQ Try.prog 78 (uFC (ftU x C l)):=by
 refine VZ (E:=mkE Try.prog Qy) (QR KK) Try.func78 (by kernel_rfl) (by kernel_rfl) (jP (Nat.zero_le _) rfl rfl fun _=>rfl) (QNc x C l hx hl) ⟨?_⟩
 refine KF (QQw x C l) ?_;have hp:=hl.pos;have hle:=hl.le;have hw:i64.wrap ((l.length:Int)-1)=(l.length:Int)-1:=w64 (by omega) (by omega)
 repeat' first|refine QF rfl ?_|refine Qa (show _=_ by with_reducible rfl) ?_|refine Qa (show _≤_ from qlr _) ?_|refine Qa (show QE _ _ _ _ from qRr) ?_|refine Qa (show Ku _ _ _ _ _ _ from Q0 _ _ _ _) ?_|refine Qa (p:=i64.wrap ((l.length:Int)-1)=(l.length:Int)-1) hw ?_
 refine XQ (KQ fun h=>KN fun g => ?_) (KQ fun h=>KN fun g => ?_)
 ·exact⟨rfl,rfl,_,QGZ x C l _ _,⟨h.symm,trivial⟩⟩
 ·exact⟨rfl,rfl,_,QGZ x C l _ _,⟨h.symm,trivial⟩⟩
end Go.Proofs.Ytbpffdkemeoajaa
namespace Go.SX
open Go Go.RowKit Go.Proofs.Ytbpffdkemeoajaa
def zZ(fc:FC):FC:=fun args nid _=>fc args nid (Vl (AV.idsFromL 0 args) [])
theorem HH{P:Program}{f:FuncId}{fc:FC}(h:QQ P f fc):QQ P f (zZ fc):=
 ⟨h.1,fun args nid _ r w lk blks eff hH ha hv he hp=>h.2 args nid (Vl (AV.idsFromL 0 args) []) r w lk blks eff hH ha hv he hp⟩
end Go.SX
namespace Go.Proofs.Ytbpffdkemeoajaa
open Go.SX
def VN:Tab:=Qb Qy 43 (zZ QCw)
theorem qJ:QV VN:=KK.add (HH QKH)
def qO:QC:=⟨-2,0⟩
variable (x:QD)(C:List (List QC))(l:List QC)(k:Nat)
def YM:List QC:=qO::Q8 x.d (x.scans.get k) x.d.ps.n
def Qw(x:QD):Nat→List (List QC)
 | 0=>[]
 | k+1=>Qw x k++[YM x k]
def srO(id c:Nat)(x:QD)(C:List (List QC)):List (Nat×Blk):=[(id,.cells 0 125 (JR 0 x++[.slz c 0 C.length (.of 0)])),Y5 true c C]
def nsJ:JSt:=⟨34,[(1,.ptr 8 0 0),(3,.ptr 16 0 0),(10,.slz 1 0 x.scans.n (.of 0)),(11,.int false .i64 x.scans.n),(12,.int false .i64 k)],[(8,.cells 0 50 (JR 0 x))]++srO 16 24 x C++JP 0 x,40⟩
def QMW:Ex→List Nat
 | .normal=>[1,3,10,11,12]
 | .exit _=>[3]
 | .ret=>[]
def nsE:JSt:=⟨34,[(3,.ptr 16 0 0)],srO 16 24 x C++JP 0 x,40⟩
abbrev zw:List CK:=
  [.int .i64,.int .i64,.int .i64,.int .i64,.int .i64,.int .i64,.int .i64,.int .i64,.int .i64,.int .i64,.int .i64,.int .i64,.int .i64,.int .i64,.int .i64,.int .i64,.int
  .i64,.int .i64,.int .i64,.int .i64,.int .i64,.int .i64,.int .i64,.int .i64,.int .i64,.int .i64,.int .i64,.int .i64]
noncomputable abbrev QFE(x:QD):List (Nat×Blk):=
  [(8,.cells 0 50 [vi x.d.play.length,vi x.d.play.slack,vi x.d.play.loose,vi x.d.play.damp.lo,.int false .i64
  x.d.play.damp.hi,vi x.d.wide,vi x.d.high,.bool false x.d.turn,.slz 0 0 x.d.ps.n cO,.slz 1 0 x.scans.n cO,.slz 2 0 x.hang.n (Cap.of
  0),vi x.lost,vi x.foreign]),(16,.cells 0 125 [vi x.d.play.length,vi x.d.play.slack,vi x.d.play.loose,.int
  false .i64 x.d.play.damp.lo,vi x.d.play.damp.hi,vi x.d.wide,vi x.d.high,.bool false x.d.turn,.slz 0 0 x.d.ps.n cO,.slz 1 0
  x.scans.n cO,.slz 2 0 x.hang.n cO,vi x.lost,vi x.foreign,.slz 184 0 (C.length+1) cO]),(1,.frz zw x.scans.n fun i=>
  QA.enc (x.scans.get i)),(0,.frz zw x.d.ps.n fun i=>QA.enc (x.d.ps.get i)),(2,.frz [.int .i64,.int .i64,.int .i64,.int .i64] x.hang.n fun i=>QA.enc (x.hang.get
  i)),(184,.frz2 true 38 [.int .i64,.int .i64] (C.length+1) (XJ C.length (fun i=>(QN C i).length) (1+(Q8 x.d (x.scans.get k) x.d.ps.n).length)) (Xy C.length (fun i
  j=>QA.enc ((QN C i).getD j ⟨0,0⟩)) (QP 1 (QJ [[vj (-2),vj 0]] 0) fun i=>QA.enc ((Q8 x.d (x.scans.get k) x.d.ps.n).getD i ⟨0,0⟩))))]
noncomputable abbrev QFu(x:QD):List (Nat×Blk):=
  [(16,.cells 0 125 [vi x.d.play.length,vi x.d.play.slack,vi x.d.play.loose,vi x.d.play.damp.lo,.int false .i64
  x.d.play.damp.hi,vi x.d.wide,vi x.d.high,.bool false x.d.turn,.slz 0 0 x.d.ps.n cO,.slz 1 0 x.scans.n cO,.slz 2 0 x.hang.n (Cap.of
  0),vi x.lost,vi x.foreign,.slz 24 0 C.length cO]),(0,.frz zw x.d.ps.n fun i=>QA.enc (x.d.ps.get i)),(1,.frz zw x.scans.n fun i=>
  QA.enc (x.scans.get i)),(2,.frz [.int .i64,.int .i64,.int .i64,.int .i64] x.hang.n fun i=>QA.enc (x.hang.get i)),(24,.frz2 true 38 [.int .i64,.int .i64] C.length (fun
  i=>(QN C i).length) fun i j=>QA.enc ((QN C i).getD j ⟨0,0⟩))]
theorem QVa(g:Nat→Value):exec (mkE Try.prog VN) (hnd (mkE Try.prog VN) 0) (QZ Try.f75 0) (JSt.inst (nsJ x C k) g) (KW [] QMW) = .br (decide ((k:Int)<(x.scans.n:Int))) (.need (decide ((0
  : Int)≤(k:Int)∧(k:Int)<(x.scans.n:Int))&&decide (x.scans.n≤x.scans.n)) (.need (decide (k<x.scans.n)) (.need (decide (x.d.ps.n≤x.d.ps.n)&&(true&&true) &&
  decide (x.d.ps.n≤900)) (.need (true&&(decide ((Q8 x.d (x.scans.get k) x.d.ps.n).length≤(Q8 x.d (x.scans.get k) x.d.ps.n).length)&&decide ((1+(Q8 x.d (x.scans.get
  k) x.d.ps.n).length+(1+(Q8 x.d (x.scans.get k) x.d.ps.n).length) / 4+192)*16≤281474976710656∧1+(Q8 x.d (x.scans.get k) x.d.ps.n).length≤9223372036854775807)))
  (.need (decide (C.length=C.length)&&(decide (1+(Q8 x.d (x.scans.get k) x.d.ps.n).length≤1+(Q8 x.d (x.scans.get k) x.d.ps.n).length)&&decide ((C.length+1 +
  (C.length+1) / 4+192)*24≤281474976710656∧C.length+1≤9223372036854775807))) (.leaf (.tup [.nilp,.ptr 34 0 0,.ptr 8 0 0,.ptr 16 0 0,.slz 1 0 x.scans.n cO,
  .int false .i64 (x.scans.n:Int),vi (i64.wrap ((k:Int)+1))]) ((QFE C k x)))))))) (.leaf (.tup [.ptr 0 0 0,.ptr 34 0 0,.ptr 16 0 0]) ((QFu C x))):=by kernel_rfl
abbrev QCB:List Prop:=
  [x.d.play.slack=x.d.play.slack,x.d.play.loose=x.d.play.loose,x.d.play.damp.lo=x.d.play.damp.lo,x.d.play.damp.hi=x.d.play.damp.hi,x.d.wide=x.d.wide,x.d.high =
  x.d.high,x.d.turn=x.d.turn,0=0,x.d.ps.n=x.d.ps.n,cO=cO,0=0,x.scans.n=x.scans.n,cO=cO,0=0,x.hang.n=x.hang.n,cO=cO]
abbrev QGi:List Prop:=
  [x.d.ps.n≤x.d.ps.n,QE 28 x.d.ps.n (fun i=>QA.enc (x.d.ps.get i)) fun i=>QA.enc (x.d.ps.get i),x.scans.n≤x.scans.n,QE 28 x.scans.n (fun i=>QA.enc
  (x.scans.get i)) fun i=>QA.enc (x.scans.get i),x.hang.n≤x.hang.n,QE 4 x.hang.n (fun i=>QA.enc (x.hang.get i)) fun i=>QA.enc (x.hang.get i)]
theorem QNa(C C':List (List QC))(k k':Nat):QO 8 [.ptr 8 0 0,.ptr 16 0 0,.slz 1 0 x.scans.n cO,vi (x.scans.n:Int),vi (i64.wrap ((k:Int)+1))] ((QFE C k x)) (nsJ x C' k') =
  (some ([0=0,0=0,0=0,0=0,0=0,x.scans.n=x.scans.n,cO=cO,(x.scans.n:Int)=(x.scans.n:Int),i64.wrap ((k:Int)+1)=(k':Int),
  x.d.play.length=x.d.play.length]++(QCB x)++[x.lost=x.lost,x.foreign=x.foreign,x.d.play.length=x.d.play.length]++(QCB x)++[x.lost=x.lost,x.foreign=x.foreign,
  0=0,C.length+1=C'.length,cO=cO,C.length+1=C'.length,Ku 2 C'.length (XJ C.length (fun i=>(QN C i).length) (1+(Q8 x.d (x.scans.get k)
  x.d.ps.n).length)) (fun i=>(QN C' i).length) (Xy C.length (fun i j=>QA.enc ((QN C i).getD j ⟨0,0⟩)) (QP 1 (QJ [[vj (-2),vj 0]] 0) fun i
  => QA.enc ((Q8 x.d (x.scans.get k) x.d.ps.n).getD i ⟨0,0⟩))) fun i j=>QA.enc ((QN C' i).getD j ⟨0,0⟩)]++(QGi x))):=by kernel_rfl
theorem QUl(C C':List (List QC)):QO 8 [.ptr 16 0 0] ((QFu C x)) (nsE x C')=(some ([0=0,0=0,x.d.play.length=x.d.play.length]++(QCB x)++[x.lost=x.lost,x.foreign=x.foreign,0=0,C.length =
  C'.length,cO=cO,C.length=C'.length,Ku 2 C'.length (fun i=>(QN C i).length) (fun i=>(QN C' i).length) (fun i j=>QA.enc ((QN C i).getD j ⟨0,0⟩))
  fun i j=>QA.enc ((QN C' i).getD j ⟨0,0⟩)]++(QGi x))):=by kernel_rfl
theorem QDh(w:List QC)(i:Nat):QN (C++[w]) i=if i<C.length then QN C i else if i=C.length then w else []:=by
 unfold QN;rw[List.getD_eq_getElem?_getD,List.getD_eq_getElem?_getD]
 by_cases h:i<C.length
 ·rw[if_pos h,List.getElem?_append_left h]
 ·rw[if_neg h,List.getElem?_append_right (by omega)]
  by_cases h2:i=C.length
  ·subst h2;simp
  ·rw[if_neg h2,List.getElem?_eq_none (by simp;omega)];rfl
theorem QNm:QE 2 (1+l.length) (QP 1 (QJ [[AV.int true .i64 (-2),AV.int true .i64 0]] 0) fun i=>QA.enc (l.getD i ⟨0,0⟩)) fun i=>QA.enc ((qO::l).getD i ⟨0,0⟩):=by
 intro i hi;cases i with
 | zero=>exact⟨rfl,rfl,trivial⟩
 | succ i=>
  refine⟨?_,?_,trivial⟩ <;>
   (show QP 1 _ _ (i+1) _=_
    rw[VC,if_neg (by omega)]
    simp)
theorem QSM:Ku 2 (C++[qO::l]).length (XJ C.length (fun i=>(QN C i).length) (1+l.length)) (fun i=>(QN (C++[qO::l]) i).length)
  (Xy C.length (fun i j=>QA.enc ((QN C i).getD j ⟨0,0⟩)) (QP 1 (QJ [[AV.int true .i64 (-2),AV.int true .i64 0]] 0) fun i=>QA.enc (l.getD i ⟨0,0⟩))) (fun i j=>QA.enc ((QN (C++[qO::l]) i).getD j ⟨0,0⟩)):=by
 intro i hi;rw[List.length_append,List.length_singleton]at hi
 by_cases h:i<C.length
 ·simp only[XJ,Xy,jp h,QDh,if_pos h];exact⟨trivial,qRr⟩
 ·have e:i=C.length:=by omega
  simp only[XJ,Xy,qr h,QDh,if_neg h,if_pos e];refine⟨by simp;omega,?_⟩
  have:=QNm l;rw[show(qO::l).length=1+l.length by simp;omega]
  exact this
theorem Yd(x:QD):∀ k,(Qw x k).length=k
 | 0=>rfl
 | k+1=>by simp[Qw,Yd x k]
theorem QVk(hn:x.d.ps.n≤900)(hs:x.scans.n≤1000):JD (fun k=>nsJ x (Qw x k) k) (fun k=>k≤x.scans.n) (fun k=>x.scans.n-k) (fun _ e J=>e = .exit 0∧J=nsE x (Qw x x.scans.n)) 8 QMW [] (mkE Try.prog VN) (fun _=>hnd (mkE Try.prog VN) 0) (QZ Try.f75 0):=by
 refine⟨fun k g hk=>KF (QVa x _ k g) ?_⟩;have hlen:=Yd x k;refine QK (fun h => ?_) (fun h => ?_)
 ·have h:k<x.scans.n:=by have:=qdt h;omega
  have hw:i64.wrap ((k:Int)+1)=((k+1:Nat):Int):=(w64 (by omega) (by omega)).trans (by omega)
  have hl:=jv x.d (x.scans.get k) x.d.ps.n;refine QF (by simp;omega) (QF (by simp;omega) (QF (by simp;omega) (QF (by simp;omega) (QF (by simp;omega) ?_))))
  refine⟨k+1,h,by show x.scans.n-(k+1)<x.scans.n-k;omega,fun _ _ h=>h,rfl,rfl,_,QNa x (Qw x k) (Qw x (k+1)) k (k+1),?_⟩
  have e2:(Qw x k).length+1=(Qw x (k+1)).length:=by rw[Yd,Yd]
  repeat' first|exact trivial|with_reducible rfl|exact qlr _|exact qRr|exact hw|exact e2|exact QSM _ _|refine And.intro ?_ ?_
 ·have:k=x.scans.n:=by have:=of_decide_eq_false h;omega
  subst this;refine⟨_,⟨rfl,rfl⟩,rfl,rfl,_,QUl x _ _,?_⟩
  repeat' first|exact trivial|with_reducible rfl|exact qlr _|exact qRr|exact Q0 _ _ _ _|refine And.intro ?_ ?_
abbrev nsH(P:Program)(x:QD)(C:List (List QC)):Hnd:={ hnd (mkE P VN) 1 with loop:=fun _=>KE 8 [] (nsJ x [] (0:Nat)) [(True,.exit 0,nsE x C)] }
theorem QNA(hn:x.d.ps.n≤900)(hs:x.scans.n≤1000)(G:Ctx)(hrd:G.rd=none)(hG:G.n=8):Q5 (mkE Try.prog VN) G (nsH Try.prog x (Qw x x.scans.n)) (Qq Try.f75):=by
 refine JT (body:=QZ Try.f75 0) (QR qJ) hrd (by kernel_rfl) ?_
 refine JX (n0:=8) (QR qJ) (by omega) (fun s hs=>Qv (QR qJ) 0 G _ hrd) (fun s hs=>(by decide:8≤40)) ?_ (QVk x hn hs) (s0:=0) (Nat.zero_le _) ?_
 ·rintro s e J ⟨_,rfl⟩;exact(by decide:8≤40)
 ·rintro e J ⟨rfl,rfl⟩;exact⟨_,List.mem_cons_self,trivial,rfl,rfl⟩
def nsU:UC:=⟨8,⟨1,[(0,.agg (JR 0 x))],JP 0 x,8⟩,fun m => .ptr m 0 0,fun m=>srO m (m+1) x C⟩
abbrev QE3:List CK:=
  [.int .i64,.int .i64,.int .i64,.int .i64,.int .i64,.int .i64,.int .i64,.int .i64,.int .i64,.int .i64,.int .i64,.int .i64,.int .i64,.int .i64,.int .i64,.int .i64,.int
  .i64,.int .i64,.int .i64,.int .i64,.int .i64,.int .i64,.int .i64,.int .i64,.int .i64,.int .i64,.int .i64,.int .i64]
noncomputable abbrev QES(x:QD):List (Nat×Blk):=
  [(16,.cells 0 125 [vi x.d.play.length,vi x.d.play.slack,vi x.d.play.loose,vi x.d.play.damp.lo,.int false .i64
  x.d.play.damp.hi,vi x.d.wide,vi x.d.high,.bool false x.d.turn,.slz 0 0 x.d.ps.n cO,.slz 1 0 x.scans.n cO,.slz 2 0 x.hang.n (Cap.of
  0),vi x.lost,vi x.foreign,.slz 24 0 C.length cO]),(0,.frz QE3 x.d.ps.n fun i=>QA.enc (x.d.ps.get i)),(1,.frz QE3 x.scans.n fun i=>
  QA.enc (x.scans.get i)),(2,.frz [.int .i64,.int .i64,.int .i64,.int .i64] x.hang.n fun i=>QA.enc (x.hang.get i)),(24,.frz2 true 38 [.int .i64,.int .i64] C.length (fun
  i=>(QN C i).length) fun i j=>QA.enc ((QN C i).getD j ⟨0,0⟩))]
theorem QTr :Vu (mkE Try.prog VN) (nsH Try.prog x C) Try.f75 (nsU x C) = .ask (0=0) (.ask (0=0) (.ask (0=0) (.ask (0=0) (.ask (0=0) (.ask (x.scans.n=x.scans.n) (.ask (cO
  = cO) (.ask ((x.scans.n:Int)=(x.scans.n:Int)) (.ask ((0:Int)=0) (.ask (x.d.play.length=x.d.play.length) (.ask (x.d.play.slack=x.d.play.slack) (.ask
  (x.d.play.loose=x.d.play.loose) (.ask (x.d.play.damp.lo=x.d.play.damp.lo) (.ask (x.d.play.damp.hi=x.d.play.damp.hi) (.ask (x.d.wide=x.d.wide) (.ask (x.d.high=x.d.high)
  (.ask (x.d.turn=x.d.turn) (.ask (0=0) (.ask (x.d.ps.n=x.d.ps.n) (.ask (cO=cO) (.ask (0=0) (.ask (x.scans.n=x.scans.n) (.ask (cO=cO) (.ask (0 =
  0) (.ask (x.hang.n=x.hang.n) (.ask (cO=cO) (.ask (x.lost=x.lost) (.ask (x.foreign=x.foreign) (.ask (x.d.play.length=x.d.play.length) (.ask (x.d.play.slack =
  x.d.play.slack) (.ask (x.d.play.loose=x.d.play.loose) (.ask (x.d.play.damp.lo=x.d.play.damp.lo) (.ask (x.d.play.damp.hi=x.d.play.damp.hi) (.ask (x.d.wide=x.d.wide) (.ask
  (x.d.high=x.d.high) (.ask (x.d.turn=x.d.turn) (.ask (0=0) (.ask (x.d.ps.n=x.d.ps.n) (.ask (cO=cO) (.ask (0=0) (.ask (x.scans.n=x.scans.n) (.ask (cO =
  cO) (.ask (0=0) (.ask (x.hang.n=x.hang.n) (.ask (cO=cO) (.ask (x.lost=x.lost) (.ask (x.foreign=x.foreign) (.ask (0=0) (.ask (0=0) (.ask (x.d.ps.n ≤
  x.d.ps.n) (.ask (QE 28 x.d.ps.n (fun i=>QA.enc (x.d.ps.get i)) fun i=>QA.enc (x.d.ps.get i)) (.ask (x.scans.n≤x.scans.n) (.ask (QE 28 x.scans.n (fun i=>QA.enc
  (x.scans.get i)) fun i=>QA.enc (x.scans.get i)) (.ask (x.hang.n≤x.hang.n) (.ask (QE 4 x.hang.n (fun i=>QA.enc (x.hang.get i)) fun i=>QA.enc (x.hang.get i)) (.asm
  (True) (.all (fun(g0:Nat→Value) => .leaf (.ptr 16 0 0) ((QES C x))))))))))))))))))))))))))))))))))))))))))))))))))))))))))):=by kernel_rfl
theorem QOp :QO 8 [(.ptr 16 0 0)] ((QES C x)) (JF (nsU x C))=(some [0=0,0=0,x.d.play.length=x.d.play.length,x.d.play.slack=x.d.play.slack,x.d.play.loose=x.d.play.loose,
  x.d.play.damp.lo=x.d.play.damp.lo,x.d.play.damp.hi=x.d.play.damp.hi,x.d.wide=x.d.wide,x.d.high=x.d.high,x.d.turn=x.d.turn,0=0,x.d.ps.n=x.d.ps.n,cO =
  cO,0=0,x.scans.n=x.scans.n,cO=cO,0=0,x.hang.n=x.hang.n,cO=cO,x.lost=x.lost,x.foreign=x.foreign,0=0,C.length=C.length,
  cO=cO,C.length=C.length,Ku 2 C.length (fun i=>(QN C i).length) (fun i=>(QN C i).length) (fun i j=>QA.enc ((QN C i).getD j ⟨0,0⟩)) fun i j=>
  QA.enc ((QN C i).getD j ⟨0,0⟩)]):=by kernel_rfl
theorem Ws(nid:Nat):JC 8 8 nid (8+k)=nid+k:=by
 have:Nat.blt (8+k) 8=false:=qr (by omega)
 simp only[JC,this];omega
theorem qd{i:Nat}(h:i<8)(nid:Nat):JC 8 8 nid i=i:=by
 simp only[JC,jp h]
theorem QRp:(nsU x C).Ok:=by
 refine⟨(by decide:8≤8),rfl,rfl,?_,rfl,fun nid h => ?_,fun nid h => ?_⟩
 ·intro q hq;simp only[UC.po,nsU,srO,Y5,List.mem_cons,List.not_mem_nil,or_false]at hq;rcases hq with rfl|rfl
  ·exact⟨rfl,rfl,rfl,fun h=>absurd (show 8<8 from h) (by decide)⟩
  ·exact⟨rfl,rfl,rfl,fun h=>absurd (show 9<8 from h) (by decide)⟩
 ·have e0:=Ws 0 nid;simp only[UC.va,nsU,AV.mapId,Nat.add_zero]at e0 ⊢;rw[e0]
 ·have e0:=Ws 0 nid;have e1:=Ws 1 nid;have l0:=qd (i:=0) (by decide) nid
  have l1:=qd (i:=1) (by decide) nid
  have l2:=qd (i:=2) (by decide) nid
  simp only[UC.po,nsU,srO,Y5,JR,Qz.val,List.cons_append,List.nil_append,List.map_cons,List.map_nil,Blk.mapId,AV.mapId,AV.mapIdL,Nat.add_zero,Nat.zero_add]at e0 e1 l0 l1 l2 ⊢;rw[e0,e1,l0,l1,l2]
theorem QR6(hn:x.d.ps.n≤900)(hs:x.scans.n≤1000):QQ Try.prog 75 (uFC (nsU x (Qw x x.scans.n))):=by
 refine VZ (E:=mkE Try.prog VN) (QR qJ) Try.func75 (by kernel_rfl) (by kernel_rfl) (QRp ..) (QNA x hn hs) ⟨?_⟩
 generalize Qw x x.scans.n=C;refine KF (QTr x C) ?_
 repeat' first|refine QF rfl ?_|refine Qa (p:=_=_) rfl ?_|refine Qa (p:=_≤_) (qlr _) ?_|refine Qa (p:=QE _ _ _ _) (qRr) ?_|refine Qa (p:=Ku _ _ _ _ _ _) (Q0 _ _ _ _) ?_
 refine KQ fun _=>KN fun g=>⟨rfl,rfl,_,QOp x C,?_⟩
 repeat' first|exact trivial|with_reducible rfl|exact qlr _|exact qRr|exact Q0 _ _ _ _|refine And.intro ?_ ?_
end Go.Proofs.Ytbpffdkemeoajaa
