/- Is a pile valid? The contract (layer 7). -/
import Derived.Test.YtbpffdkemeoajaaMmw
import Derived.Test.YtbpffdkemeoajaaMmx
set_option maxRecDepth 100000
namespace Go.Proofs.Ytbpffdkemeoajaa
open Go.SX
def QE.sz (x:QE):Bool:=decide ((x.scans.n:Int)≤12)&&(decide ((x.hang.n:Int)≤12)&&(QW x.lost 0 9&&QW x.foreign 0 3))
def QE.ok (x:QE):Bool:=x.sz&&(x.d.ok&&(Jg x.d.play x.scans && !decide (KH (jxO x)≥0)))
def jxR (x:QE) (k:Nat) (e:Ex) (J:JSt):Prop:=(e = .ret∧(QK (Km x) (x.hang.n - k) k).isSome=true∧J=⟨19,[(4,.int false .i64 (KH (QK (Km x) (x.hang.n - k) k)))],[],8⟩)∨(e = .exit 0∧QK (Km x) (x.hang.n - k) k=none∧J=⟨19,[],[],8⟩)
theorem QLv (x:QE) (hl:x.hang.n≤1000):JK (jxJ x) (fun k=>k≤x.hang.n) (fun k=>x.hang.n - k) (jxR x) 8 Wg [] (mkE Try.prog VO) (fun _=>hnd (mkE Try.prog VO) 4) (Qf Try.f107 0):=by
 refine ⟨fun k g hk=>KF (QMU x k g) ?_⟩
 refine QL (fun h => ?_) (fun h => ?_)
 ·have h:k < x.hang.n:=by have:=of_decide_eq_true h;omega
  obtain ⟨n,hm⟩:∃ n,x.hang.n - k=n + 1:=⟨x.hang.n - k - 1,by omega⟩
  have hm':x.hang.n - (k + 1)=n:=by omega
  have bad:Km x k=true→jxR x k .ret ⟨19,[(4,.int false .i64 k)],[],8⟩:=fun q=>by
   have hf:QK (Km x) (x.hang.n - k) k=some k:=by rw [hm,QK,q]
   exact .inl ⟨rfl,by rw [hf];rfl,by rw [hf];rfl⟩
  refine QF (by simp;omega) (QF (by simp;omega) (QF rfl (QL (fun h1 => ?_) (fun h1=>QF rfl (QL (fun h2 => ?_) (fun h2=>QL (fun h3 => ?_) (fun h3=>QF rfl (QL (fun h4 => ?_) (fun h4=>QF rfl (QL (fun h5 => ?_) (fun h5 => ?_)))))))))))
  ·exact ⟨_,bad (by simp only [Km,YL,h1,Bool.true_or]),rfl,rfl,_,Zk _ _,⟨rfl,trivial⟩⟩
  ·exact ⟨_,bad (by simp only [Km,YL,h2,Bool.true_or,Bool.or_true]),rfl,rfl,_,Zk _ _,⟨rfl,trivial⟩⟩
  ·exact ⟨_,bad (by simp only [Km,YL,h3,Bool.true_or,Bool.or_true]),rfl,rfl,_,Zk _ _,⟨rfl,trivial⟩⟩
  ·exact ⟨_,bad (by simp only [Km,YL,h4,Bool.true_or,Bool.or_true]),rfl,rfl,_,Zk _ _,⟨rfl,trivial⟩⟩
  ·exact ⟨_,bad (by simp only [Km,YL,h5,Bool.or_true]),rfl,rfl,_,Zk _ _,⟨rfl,trivial⟩⟩
  ·have q:Km x k=false:=by simp only [Km,YL,h1,h2,h3,h4,h5,Bool.or_self]
   have hf:QK (Km x) (x.hang.n - k) k=QK (Km x) (x.hang.n - (k + 1)) (k + 1):=by rw [hm,hm',QK,q]
   refine ⟨k + 1,by omega,by show x.hang.n - (k + 1) < x.hang.n - k;omega,fun e J h=>by unfold jxR at h ⊢;rw [hf];exact h,rfl,rfl,_,QQj x k (k + 1),?_⟩
   have hw:IntKind.i64.wrap ((k:Int) + 1)=((k + 1:Nat):Int):=(w64 (by omega) (by omega)).trans (by omega)
   repeat' first|exact trivial|with_reducible rfl|exact Nat.le_refl _|exact QD.refl _ _ _|exact hw|refine And.intro ?_ ?_
 ·have h:x.hang.n≤k:=by have:=of_decide_eq_false h;omega
  have hf:QK (Km x) (x.hang.n - k) k=none:=by rw [show x.hang.n - k=0 by omega];rfl
  exact ⟨_,.inr ⟨rfl,hf,rfl⟩,rfl,rfl,_,QAw,trivial⟩
def jxX (x:QE):List (Prop×Ex×JSt):=[((jxO x).isSome=true,.ret,⟨19,[(4,.int false .i64 (KH (jxO x)))],[],8⟩),(jxO x=none,.exit 0,⟨19,[],[],8⟩)]
abbrev jxH (P:Program) (x:QE):Hnd:={ hnd (mkE P VO) 1 with loop:=fun _=>KC 8 [] (jxJ x (0:Nat)) (jxX x) }
theorem QNl (x:QE) (hl:x.hang.n≤1000) (G:Ctx) (hrd:G.rd=none) (hG:G.n=8):Q4 (mkE Try.prog VO) G (jxH Try.prog x) (Qm Try.f107):=by
 refine JR (body:=Qf Try.f107 0) (QN Y0) hrd (by kernel_rfl) ?_
 refine Je (n0:=8) (QN Y0) (by omega) (fun s hs=>Qt (QN Y0) 4 G _ hrd) (fun s hs=>Nat.le_refl _) ?_ (QLv x hl) (s0:=0) (Nat.zero_le _) ?_
 ·rintro s e J (⟨_,_,rfl⟩|⟨_,_,rfl⟩)<;>exact Nat.le_refl _
 ·rintro e J (⟨rfl,h,rfl⟩|⟨rfl,h,rfl⟩)
  ·exact ⟨_,List.mem_cons_self,h,rfl,rfl⟩
  ·exact ⟨_,List.mem_cons_of_mem _ List.mem_cons_self,h,rfl,rfl⟩
theorem QTk (x:QE) :VG (mkE Try.prog VO) (jxH Try.prog x) Try.f107 (jxU x) = .ask (0=0) (.ask (x.hang.n=x.hang.n) (.ask (Cap.of 0=Cap.of 0) (.ask (Fn.func (93:FuncId)=Fn.func (93 :
  FuncId)) (.ask (0=0) (.ask (0=0) (.ask ((↑x.hang.n:Int)=(↑x.hang.n:Int)) (.ask ((0:Int)=(0:Int)) (.ask (Fn.func (92:FuncId)=Fn.func (92:FuncId)) (.ask (0=0)
  (.ask (0=0) (.ask (x.d.play.length=x.d.play.length) (.ask (x.d.play.slack=x.d.play.slack) (.ask (x.d.play.loose=x.d.play.loose) (.ask (x.d.play.damp.lo=x.d.play.damp.lo)
  (.ask (x.d.play.damp.hi=x.d.play.damp.hi) (.ask (x.d.wide=x.d.wide) (.ask (x.d.high=x.d.high) (.ask (x.d.turn=x.d.turn) (.ask (0=0) (.ask (x.d.ps.n=x.d.ps.n) (.ask
  (Cap.of 0=Cap.of 0) (.ask (0=0) (.ask (x.scans.n=x.scans.n) (.ask (Cap.of 0=Cap.of 0) (.ask (0=0) (.ask (x.hang.n=x.hang.n) (.ask (Cap.of 0=Cap.of 0) (.ask (x.lost =
  x.lost) (.ask (x.foreign=x.foreign) (.ask (x.d.ps.n≤x.d.ps.n) (.ask (QD 28 x.d.ps.n (fun i=>QB.enc (x.d.ps.get i)) fun i=>QB.enc (x.d.ps.get i)) (.ask (x.scans.n ≤
  x.scans.n) (.ask (QD 28 x.scans.n (fun i=>QB.enc (x.scans.get i)) fun i=>QB.enc (x.scans.get i)) (.ask (x.hang.n≤x.hang.n) (.ask (QD 4 x.hang.n (fun i=>QB.enc
  (x.hang.get i)) fun i=>QB.enc (x.hang.get i)) (.both (.asm ((jxO x).isSome=true) (.all (fun (g0:Nat→Value) => .leaf (.int false .i64 (KH (jxO x))) ([])))) (.asm (jxO x
  = none) (.all (fun (g1:Nat→Value) => .leaf (.int true .i64 (-1:Int)) ([])))))))))))))))))))))))))))))))))))))))):=by kernel_rfl
theorem QQi (x:QE):QO 8 [(AV.int false IntKind.i64 (KH (jxO x)))] ([]) (K2 (jxU x))=(
  some [KH (jxO x)=KH (jxO x)]):=by kernel_rfl
theorem QTe (x:QE):QO 8 [(AV.int true IntKind.i64 (-1:Int))] ([]) (K2 (jxU x))=(
  some [(-1:Int)=KH (jxO x)]):=by kernel_rfl
theorem QSU (x:QE) (hl:x.hang.n≤1000):QM Try.prog 107 (uFC (jxU x)):=by
 refine Jz (E:=mkE Try.prog VO) (QN Y0) Try.func107 (by kernel_rfl) (by kernel_rfl) (G7 (Nat.zero_le _) rfl rfl fun _=>rfl) (QNl x hl) ⟨?_⟩
 refine KF (QTk x) ?_
 repeat' first|refine Qc (show _=_ by with_reducible rfl) ?_|refine Qc (show _≤_ from Nat.le_refl _) ?_|refine Qc (show QD _ _ _ _ from QD.refl _ _ _) ?_
 refine Xc (KQ fun h=>KX fun g => ?_) (KQ fun h=>KX fun g => ?_)
 ·exact ⟨rfl,rfl,_,QQi x,⟨rfl,trivial⟩⟩
 ·refine ⟨rfl,rfl,_,QTe x,⟨?_,trivial⟩⟩
  rw [h];rfl
def zZ (pb:List Prop→Bool) (x:QE):Tab:=QX VO 107 (Ji pb (jxU x))
theorem QTo (pb:List Prop→Bool) (x:QE):VG (mkE Try.prog (zZ pb x)) (hnd (mkE Try.prog (zZ pb x)) 1) Try.f94 (cxU x) =
  QC.need (pb ([(0:Nat)=(0:Nat),x.hang.n=x.hang.n,Cap.of (0:Nat)=Cap.of (0:Nat),Fn.func (93:Nat)=Fn.func (93:Nat),(0:Nat)=(0:Nat),(0:Nat)=(0 :
  Nat),Fn.func (92:Nat)=Fn.func (92:Nat),(0:Nat)=(0:Nat),(0:Nat)=(0:Nat),x.d.play.length=x.d.play.length,x.d.play.slack=x.d.play.slack,x.d.play.loose =
  x.d.play.loose,x.d.play.damp.lo=x.d.play.damp.lo,x.d.play.damp.hi=x.d.play.damp.hi,x.d.wide=x.d.wide,x.d.high=x.d.high,x.d.turn=x.d.turn,(0:Nat)=(0:Nat),
  x.d.ps.n=x.d.ps.n,Cap.of (0:Nat)=Cap.of (0:Nat),(0:Nat)=(0:Nat),x.scans.n=x.scans.n,Cap.of (0:Nat)=Cap.of (0:Nat),(0:Nat)=(0:Nat),x.hang.n =
  x.hang.n,Cap.of (0:Nat)=Cap.of (0:Nat),x.lost=x.lost,x.foreign=x.foreign,x.d.ps.n≤x.d.ps.n,QD (28:Nat) x.d.ps.n (fun i=>QB.enc (x.d.ps.get i)) fun i=>
  QB.enc (x.d.ps.get i),x.scans.n≤x.scans.n,QD (28:Nat) x.scans.n (fun i=>QB.enc (x.scans.get i)) fun i=>QB.enc (x.scans.get i),x.hang.n≤x.hang.n,QD (4 :
  Nat) x.hang.n (fun i=>QB.enc (x.hang.get i)) fun i=>QB.enc (x.hang.get i)])) (QC.leaf (AV.bool false (decide (KH (jxO x)≥(0:Int)))) ([])):=by kernel_rfl
theorem QMI (x:QE):QO 8 [(AV.bool false (decide (KH (jxO x)≥(0:Int))))] ([]) (K2 (cxU x))=(
  some [decide (KH (jxO x)≥(0:Int))=decide (KH (jxO x)≥(0:Int))]):=by kernel_rfl
def jL (pb:List Prop→Bool) (x:QE):Tab:=QX VO 94 (Ji pb (cxU x))
theorem QNJ (pb:List Prop→Bool) (x:QE) :KY (mkE Try.prog (jL pb x)) (hnd (mkE Try.prog (jL pb x)) 1) Try.f74 (QS.vals 0 ((x,()):QE×Unit)) (QS.blks 0 ((x,()):QE×Unit)) 8 = .br (decide
  ((↑x.scans.n:Int)≤(12:Int))) (.br (decide ((↑x.hang.n:Int)≤(12:Int))) (.need (true) (.br (QW x.lost (0:Int) (9:Int)) (.need (true) (.br (QW x.foreign (0 :
  Int) (3:Int)) (.need (decide (x.d.ps.n≤x.d.ps.n)&&true&&decide (x.d.ps.n≤1000)) (.br (x.d.ok) (.need (true&&(decide (x.scans.n≤x.scans.n)&&true)&&decide (x.scans.n
  ≤ 1000)) (.br (Jg x.d.play x.scans) (.need (pb ([0=0,x.hang.n=x.hang.n,Cap.of 0=Cap.of 0,Fn.func 93=Fn.func 93,0=0,0=0,Fn.func 92=Fn.func 92,0=0,0=0,
  x.d.play.length=x.d.play.length,x.d.play.slack=x.d.play.slack,x.d.play.loose=x.d.play.loose,x.d.play.damp.lo=x.d.play.damp.lo,x.d.play.damp.hi=x.d.play.damp.hi,
  x.d.wide=x.d.wide,x.d.high=x.d.high,x.d.turn=x.d.turn,0=0,x.d.ps.n=x.d.ps.n,Cap.of 0=Cap.of 0,0=0,x.scans.n=x.scans.n,Cap.of 0=Cap.of 0,0=0,x.hang.n =
  x.hang.n,Cap.of 0=Cap.of 0,x.lost=x.lost,x.foreign=x.foreign,x.d.ps.n≤x.d.ps.n,QD 28 x.d.ps.n (fun i=>QB.enc (x.d.ps.get i)) fun i=>QB.enc (x.d.ps.get i),
  x.scans.n≤x.scans.n,QD 28 x.scans.n (fun i=>QB.enc (x.scans.get i)) fun i=>QB.enc (x.scans.get i),x.hang.n≤x.hang.n,QD 4 x.hang.n (fun i=>QB.enc
  (x.hang.get i)) fun i=>QB.enc (x.hang.get i)])) (.leaf (.bool false !decide (KH (jxO x)≥(0:Int))) ([]))) (.leaf (.bool true false) ([])))) (.leaf (.bool true false)
  ([])))) (.leaf (.bool true false) ([])))) (.leaf (.bool true false) ([])))) (.leaf (.bool true false) ([]))) (.leaf (.bool true false) ([])):=by kernel_rfl
theorem QOj (x:QE) (hl:x.hang.n≤1000):QU (zZ Qo x):=Y0.add (QSU x hl)
theorem QTE (x:QE) (hl:x.hang.n≤1000):QM Try.prog 94 (uFC (cxU x)):=by
 have hE:=QN (QOj x hl)
 refine Jz (E:=mkE Try.prog (zZ Qo x)) hE (c:=Qm Try.f94) Try.func94 (by kernel_rfl) (by kernel_rfl) (G7 (Nat.zero_le _) rfl rfl fun _=>rfl) (fun G h1 _=>Qt hE 1 G _ h1) ⟨?_⟩
 refine KF (QTo Qo x) ?_
 refine QF (Kr.2 ?_) ⟨rfl,rfl,_,QMI x,⟨rfl,trivial⟩⟩
 repeat' first|exact trivial|with_reducible rfl|exact Nat.le_refl _|exact QD.refl _ _ _|refine And.intro ?_ ?_
theorem QRj (x:QE) (hl:x.hang.n≤1000):QU (jL Qo x):=Y0.add (QTE x hl)
def qD:WF (QE×Unit):=fun|(x,_)=>(decide (x.d.ps.n≤1000∧x.scans.n≤1000∧x.hang.n≤1000),.bool false x.ok,[])
def QGo:FC:=wFC qD
theorem QR7 (x:QE) (hx:(qD (x,())).1=true):QM Try.prog 74 (wFC (VZ qD (x,()))):=by
 obtain ⟨h1,h2,h3⟩:=of_decide_eq_true hx
 have hE:=QN (QRj x h3)
 refine Wx (c:=Qm Try.f74) (E:=mkE Try.prog (jL Qo x)) (H:=hnd (mkE Try.prog (jL Qo x)) 1) hE Try.func74 (by kernel_rfl) (by kernel_rfl) (N:=8) (by decide) (x,()) (fun G h1 _=>Qt hE 1 G _ h1) ⟨rfl,by simp [qD],rfl⟩ ?_
 refine KF (QNJ Qo x) ?_
 have no:x.ok=false→(QC.leaf (AV.bool true false) []).den (Vm 8 (qD (x,())).2.1 (qD (x,())).2.2):=fun h=>Ki (show false=x.ok by rw [h]) rfl
 refine QL (fun a1=>QL (fun a2=>QF rfl (QL (fun a3=>QF rfl (QL (fun a4=>QF (by simp;omega) (QL (fun a5=>QF (by simp;omega) (QL (fun a6=>QF (Kr.2 ?_) (Ki ?_ rfl)) (fun a6=>no ?_))) (fun a5=>no ?_))) (fun a4=>no ?_))) (fun a3=>no ?_))) (fun a2=>no ?_)) (fun a1=>no ?_)
 ·repeat' first|exact trivial|with_reducible rfl|exact Nat.le_refl _|exact QD.refl _ _ _|refine And.intro ?_ ?_
 ·show (!decide (KH (jxO x)≥0))=x.ok
  simp only [QE.ok,QE.sz,a1,a2,a3,a4,a5,a6,Bool.true_and]
 ·simp only [QE.ok,a6,Bool.false_and,Bool.and_false]
 ·simp only [QE.ok,a5,Bool.false_and,Bool.and_false]
 ·simp only [QE.ok,QE.sz,a4,Bool.false_and,Bool.and_false]
 ·simp only [QE.ok,QE.sz,a3,Bool.false_and,Bool.and_false]
 ·simp only [QE.ok,QE.sz,a2,Bool.false_and,Bool.and_false]
 ·simp only [QE.ok,QE.sz,a1,Bool.false_and]
theorem QNF:QM Try.prog 74 QGo:=QB7 (by kernel_rfl) fun|(x,()),h=>QR7 x h
def Qu:Tab:=QX VO 74 QGo
theorem KD:QU Qu:=Y0.add QNF
end Go.Proofs.Ytbpffdkemeoajaa
namespace Go.Proofs.Ytbpffdkemeoajaa
open Go.SX
def QJ (C:List (List QA)) (i:Nat):List QA:=C.getD i []
def Yl (own:Bool) (id:Nat) (C:List (List QA)):Nat×Blk:=(id,.frz2 own 38 [.int .i64,.int .i64] C.length (fun i=>(QJ C i).length) fun i j=>QB.enc ((QJ C i).getD j ⟨0,0⟩))
def srC (x:QE) (C:List (List QA)):List AV:=JG 0 x++[.slz 4 0 C.length (.of 0)]
def srB (x:QE) (C:List (List QA)):List (Nat×Blk):=[(3,.cellsR 0 125 (srC x C)),Yl false 4 C]++K9 0 x
def GS (j:Jn) (a:QA):Int:=(j.i + a.turn).tmod 4
def XG (x:QE) (j:Jn) (a b:QA):Bool:=cond ((a.cell == -2)||(b.cell == -2)) ((a.cell == b.cell)&&((a.turn == b.turn)&&true)) ((QR x.d.wide x.d.high a.cell (GS j a) == b.cell)&&((j.j + b.turn).tmod 4 == GD (GS j a)))
def hgU (x:QE) (C:List (List QA)) (j:Jn) (a b:QA):UC:=⟨0,⟨4,[(0,.ptr 3 0 0),(1,Enc.enc j),(2,Enc.enc a),(3,Enc.enc b)],srB x C,8⟩,fun _ => .bool false (XG x j a b),fun _=>[]⟩
theorem QQQ (x:QE) (C:List (List QA)) (j:Jn) (a b:QA):VG (mkE Try.prog Qu) (hnd (mkE Try.prog Qu) 1) Try.f95 (hgU x C j a b) =
  QC.br (a.cell == (-2:Int)) (QC.leaf (AV.bool false (a.cell == b.cell&&(a.turn == b.turn&&true))) ([])) (QC.br (b.cell == (-2:Int)) (QC.leaf (AV.bool false (a.cell ==
  b.cell&&(a.turn == b.turn&&true))) ([])) (QC.need (decide (x.d.ps.n≤x.d.ps.n)&&(true&&(true&&true))&&decide (((1:Int)≤x.d.wide∧x.d.wide≤(100:Int))∧((1 :
  Int)≤x.d.high∧x.d.high≤(100:Int))∧(0:Int)≤a.cell∧a.cell≤(100:Int))) (QC.br (QR x.d.wide x.d.high a.cell ((IntKind.i64.wrap (j.i + a.turn)).tmod (4:Int)) ==
  b.cell) (QC.need (decide ((0:Int)≤(IntKind.i64.wrap (j.i + a.turn)).tmod (4:Int)∧(IntKind.i64.wrap (j.i + a.turn)).tmod (4:Int)≤(3:Int))) (QC.leaf (AV.bool false
  ((IntKind.i64.wrap (j.j + b.turn)).tmod (4:Int) == GD ((IntKind.i64.wrap (j.i + a.turn)).tmod (4:Int)))) ([]))) (QC.leaf (AV.bool true false) ([]))))):=by kernel_rfl
theorem QTv (x:QE) (C:List (List QA)) (j:Jn) (a b:QA) (c v:Bool):QO 8 [.bool c v] [] (K2 (hgU x C j a b))=(
  some [v=XG x j a b]):=by kernel_rfl
structure JF (s:QA):Prop where
 cell:s.cell = -2∨0≤s.cell∧s.cell≤100
 turn:0≤s.turn∧s.turn≤3
structure JnB (j:Jn):Prop where
 i:0≤j.i∧j.i≤3
 j:0≤j.j∧j.j≤3
theorem QLl {n:Int} (h:0≤n):0≤n.tmod 4∧n.tmod 4≤3:=by
 have h1:=Int.tmod_nonneg 4 h
 have h2:=Int.tmod_lt_of_pos n (show (0:Int) < 4 by decide)
 omega
theorem QQe (x:QE) (C:List (List QA)) (j:Jn) (a b:QA) (hd:Zo x.d) (hj:JnB j) (ha:JF a) (hb:JF b):QM Try.prog 95 (uFC (hgU x C j a b)):=by
 refine Jz (E:=mkE Try.prog Qu) (QN KD) (c:=Qm Try.f95) Try.func95 (by kernel_rfl) (by kernel_rfl) (G7 (Nat.zero_le _) rfl rfl fun _=>rfl) (fun G h1 _=>Qt (QN KD) 1 G _ h1) ⟨?_⟩
 refine KF (QQQ x C j a b) ?_
 have hw:=hd.w1
 have hwn:=hd.wn
 have hh:=hd.h1
 have hhn:=hd.hn
 have h9:=hd.n9
 have ha2:=ha.turn
 have hb2:=hb.turn
 have hi:=hj.i
 have hjj:=hj.j
 have fin:∀ (c v:Bool),v=XG x j a b→(QC.leaf (.bool c v) []).den (zd (hgU x C j a b)):=fun c v h=>⟨rfl,rfl,_,QTv x C j a b c v,⟨h,trivial⟩⟩
 have w1:IntKind.i64.wrap (j.i + a.turn)=j.i + a.turn:=w64 (by omega) (by omega)
 have w2:IntKind.i64.wrap (j.j + b.turn)=j.j + b.turn:=w64 (by omega) (by omega)
 have m:=QLl (n:=j.i + a.turn) (by omega)
 rw [w1,w2]
 refine QL (fun h=>fin _ _ ?_) (fun h=>QL (fun h2=>fin _ _ ?_) (fun h2=>QF ?_ (QL (fun h3=>QF ?_ (fin _ _ ?_)) (fun h3=>fin _ _ ?_))))
 ·simp only [XG,h,Bool.true_or,cond_true]
 ·simp only [XG,h2,Bool.or_true,cond_true]
 ·have:¬ a.cell = -2:=by simpa using h
  have:=ha.cell
  simp only [Nat.le_refl,decide_true,Bool.true_and,decide_eq_true_eq];omega
 ·simp only [decide_eq_true_eq];exact m
 ·simp only [XG,h,h2,Bool.or_self,cond_false,GS,h3,Bool.true_and]
 ·simp only [XG,h,h2,Bool.or_self,cond_false,GS,h3,Bool.false_and]
end Go.Proofs.Ytbpffdkemeoajaa
namespace Go.Proofs.Ytbpffdkemeoajaa
open Go.SX
def frS (id:Nat) (l:List QA):Nat×Blk:=(id,.frz [.int .i64,.int .i64] l.length fun i=>QB.enc (l.getD i ⟨0,0⟩))
def ftB (x:QE) (C:List (List QA)) (l:List QA):List (Nat×Blk):=frS 5 l::srB x C
def ftJ (x:QE) (C:List (List QA)) (l:List QA) (k:Nat):JSt:=⟨45,[(0,.ptr 3 0 0),(1,.slz 5 0 l.length (.of 0)),(5,.int false .i64 ((l.length:Int) - 1)),(15,.slz 2 0 x.hang.n (.of 0)),(16,.int false .i64 x.hang.n),(17,.int false .i64 k)],ftB x C l,32⟩
def QEx:Ex→List Nat
 | .normal=>[0,1,5,15,16,17]
 | .exit _=>[]
 | .ret=>[4]
def QAo:JSt:=⟨45,[(4,.bool false false)],[],32⟩
def QB3:JSt:=⟨45,[],[],32⟩
def QAp (x:QE) (C:List (List QA)) (l:List QA) (k:Nat):UC:=hgU x C (x.hang.get k) (l.getD (x.hang.get k).a.toNat ⟨0,0⟩) (l.getD (x.hang.get k).b.toNat ⟨0,0⟩)
def QC8 (pb:List Prop→Bool) (U:UC):Tab:=QX Qu 95 (Ji pb U)
abbrev QHh (k:Nat) (l:List QA) (x:QE):List AV:=
  [.nilp,.ptr 45 0 0,.ptr 3 0 0,.slz 5 0 l.length (Cap.of 0),.int false .i64 ((↑l.length:Int) - (1:Int)),.slz 2 0 x.hang.n (Cap.of 0),.int false .i64 (↑x.hang.n:Int),.int
  false .i64 (IntKind.i64.wrap ((↑k:Int) + (1:Int)))]
abbrev QDI:List CK:=
  [.int .i64,.int .i64,.int .i64,.int .i64,.int .i64,.int .i64,.int .i64,.int .i64,.int .i64,.int .i64,.int .i64,.int .i64,.int .i64,.int .i64,.int .i64,.int .i64,.int
  .i64,.int .i64,.int .i64,.int .i64,.int .i64,.int .i64,.int .i64,.int .i64,.int .i64,.int .i64,.int .i64,.int .i64]
abbrev HT (C:List (List QA)) (l:List QA) (x:QE):List (Nat×Blk):=
  [(3,.cellsR 0 125 [.int false .i64 x.d.play.length,.int false .i64 x.d.play.slack,.int false .i64 x.d.play.loose,.int false .i64 x.d.play.damp.lo,.int false .i64
  x.d.play.damp.hi,.int false .i64 x.d.wide,.int false .i64 x.d.high,.bool false x.d.turn,.slz 0 0 x.d.ps.n (Cap.of 0),.slz 1 0 x.scans.n (Cap.of 0),.slz 2 0 x.hang.n (Cap.of
  0),.int false .i64 x.lost,.int false .i64 x.foreign,.slz 4 0 C.length (Cap.of 0)]),(5,.frz [.int .i64,.int .i64] l.length fun i=>QB.enc (l.getD i (QA.mk (0:Int) (0 :
  Int)))),(2,.frz [.int .i64,.int .i64,.int .i64,.int .i64] x.hang.n fun i=>QB.enc (x.hang.get i)),(0,.frz QDI x.d.ps.n fun i=>QB.enc (x.d.ps.get i)),(1,.frz QDI
  x.scans.n fun i=>QB.enc (x.scans.get i)),(4,.frz2 false 38 [.int .i64,.int .i64] C.length (fun i=>(QJ C i).length) fun i j=>QB.enc ((QJ C i).getD j (QA.mk (0 :
  Int) (0:Int))))]
theorem QOA (pb:List Prop→Bool) (x:QE) (C:List (List QA)) (l:List QA) (k:Nat) (g:Nat→Value) :exec (mkE Try.prog (QC8 pb (QAp x C l k))) (hnd (mkE Try.prog (QC8 pb (QAp x C l k))) 0) (Qf Try.f78 0) (JSt.inst (ftJ x C l k) g) (KT [] QEx) = .br (decide ((↑k :
  Int) < (↑x.hang.n:Int))) (.need (decide ((0:Int)≤(↑k:Int)∧(↑k:Int) < (↑x.hang.n:Int))&&decide (x.hang.n≤x.hang.n)) (.need (decide (k < x.hang.n)) (.br (max
  (x.hang.get k).a (x.hang.get k).b == (↑l.length:Int) - (1:Int)) (.need (decide ((0:Int)≤(x.hang.get k).a∧(x.hang.get k).a < (↑l.length:Int))&&decide (l.length ≤
  l.length)) (.need (decide ((x.hang.get k).a.toNat < l.length)) (.need (decide ((0:Int)≤(x.hang.get k).b∧(x.hang.get k).b < (↑l.length:Int))&&decide (l.length≤l.length))
  (.need (decide ((x.hang.get k).b.toNat < l.length)) (.need (pb ([0=0,0=0,(x.hang.get k).a=(x.hang.get k).a,(x.hang.get k).i=(x.hang.get k).i,(x.hang.get k).b =
  (x.hang.get k).b,(x.hang.get k).j=(x.hang.get k).j,(l.getD (x.hang.get k).a.toNat (QA.mk (0:Int) (0:Int))).cell=(l.getD (x.hang.get k).a.toNat (QA.mk (0:Int) (0 :
  Int))).cell,(l.getD (x.hang.get k).a.toNat (QA.mk (0:Int) (0:Int))).turn=(l.getD (x.hang.get k).a.toNat (QA.mk (0:Int) (0:Int))).turn,(l.getD (x.hang.get k).b.toNat
  (QA.mk (0:Int) (0:Int))).cell=(l.getD (x.hang.get k).b.toNat (QA.mk (0:Int) (0:Int))).cell,(l.getD (x.hang.get k).b.toNat (QA.mk (0:Int) (0:Int))).turn =
  (l.getD (x.hang.get k).b.toNat (QA.mk (0:Int) (0:Int))).turn,x.d.play.length=x.d.play.length,x.d.play.slack=x.d.play.slack,x.d.play.loose=x.d.play.loose,
  x.d.play.damp.lo=x.d.play.damp.lo,x.d.play.damp.hi=x.d.play.damp.hi,x.d.wide=x.d.wide,x.d.high=x.d.high,x.d.turn=x.d.turn,0=0,x.d.ps.n=x.d.ps.n,Cap.of 0 =
  Cap.of 0,0=0,x.scans.n=x.scans.n,Cap.of 0=Cap.of 0,0=0,x.hang.n=x.hang.n,Cap.of 0=Cap.of 0,x.lost=x.lost,x.foreign=x.foreign,0=0,C.length=C.length,
  Cap.of 0=Cap.of 0,C.length=C.length,Kd 2 C.length (fun i=>(QJ C i).length) (fun i=>(QJ C i).length) (fun i j=>QB.enc ((QJ C i).getD j (QA.mk (0:Int) (0
  : Int)))) fun i j=>QB.enc ((QJ C i).getD j (QA.mk (0:Int) (0:Int))),x.d.ps.n≤x.d.ps.n,QD 28 x.d.ps.n (fun i=>QB.enc (x.d.ps.get i)) fun i=>QB.enc
  (x.d.ps.get i),x.scans.n≤x.scans.n,QD 28 x.scans.n (fun i=>QB.enc (x.scans.get i)) fun i=>QB.enc (x.scans.get i),x.hang.n≤x.hang.n,QD 4 x.hang.n (fun i=>
  QB.enc (x.hang.get i)) fun i=>QB.enc (x.hang.get i)])) (.br (!XG x (x.hang.get k) (l.getD (x.hang.get k).a.toNat (QA.mk (0:Int) (0:Int))) (l.getD (x.hang.get
  k).b.toNat (QA.mk (0:Int) (0:Int)))) (.leaf (.tup [.nili,.ptr 45 0 0,.bool true false]) ([])) (.leaf (.tup (QHh k l x)) ((HT C l x))))))))) (.leaf (.tup (QHh k l x))
  ((HT C l x)))))) (.leaf (.tup [.ptr 0 0 0,.ptr 45 0 0]) ([])):=by kernel_rfl
theorem QSk :QO 8 [AV.bool true false] ([]) QAo=(
  some [false=false]):=by kernel_rfl
abbrev QE7 (k:Nat) (l:List QA) (x:QE):List AV:=
  [.ptr 3 0 0,.slz 5 0 l.length (Cap.of 0),.int false .i64 ((↑l.length:Int) - (1:Int)),.slz 2 0 x.hang.n (Cap.of 0),.int false .i64 (↑x.hang.n:Int),.int false .i64
  (IntKind.i64.wrap ((↑k:Int) + (1:Int)))]
abbrev QF7 (C:List (List QA)) (k:Nat) (k':Nat) (l:List QA) (x:QE):List Prop:=
  [0=0,0=0,0=0,l.length=l.length,Cap.of 0=Cap.of 0,(↑l.length:Int) - (1:Int)=(↑l.length:Int) - (1:Int),0=0,x.hang.n=x.hang.n,Cap.of 0=Cap.of 0,
  (↑x.hang.n:Int)=(↑x.hang.n:Int),IntKind.i64.wrap ((↑k:Int) + (1:Int))=(↑k':Int),l.length≤l.length,QD 2 l.length (fun i=>QB.enc (l.getD i (QA.mk (0 :
  Int) (0:Int)))) fun i=>QB.enc (l.getD i (QA.mk (0:Int) (0:Int))),x.d.play.length=x.d.play.length,x.d.play.slack=x.d.play.slack,x.d.play.loose=x.d.play.loose,
  x.d.play.damp.lo=x.d.play.damp.lo,x.d.play.damp.hi=x.d.play.damp.hi,x.d.wide=x.d.wide,x.d.high=x.d.high,x.d.turn=x.d.turn,0=0,x.d.ps.n=x.d.ps.n,Cap.of 0 =
  Cap.of 0,0=0,x.scans.n=x.scans.n,Cap.of 0=Cap.of 0,0=0,x.hang.n=x.hang.n,Cap.of 0=Cap.of 0,x.lost=x.lost,x.foreign=x.foreign,0=0,C.length=C.length,
  Cap.of 0=Cap.of 0,C.length=C.length,Kd 2 C.length (fun i=>(QJ C i).length) (fun i=>(QJ C i).length) (fun i j=>QB.enc ((QJ C i).getD j (QA.mk (0:Int) (0
  : Int)))) fun i j=>QB.enc ((QJ C i).getD j (QA.mk (0:Int) (0:Int))),x.d.ps.n≤x.d.ps.n,QD 28 x.d.ps.n (fun i=>QB.enc (x.d.ps.get i)) fun i=>QB.enc
  (x.d.ps.get i),x.scans.n≤x.scans.n,QD 28 x.scans.n (fun i=>QB.enc (x.scans.get i)) fun i=>QB.enc (x.scans.get i),x.hang.n≤x.hang.n,QD 4 x.hang.n (fun i=>
  QB.enc (x.hang.get i)) fun i=>QB.enc (x.hang.get i)]
theorem QQd (x:QE) (C:List (List QA)) (l:List QA) (k k':Nat) :QO 8 (QE7 k l x) ((HT C l x)) (ftJ x C l k')=( some (QF7 C k k' l x)):=by kernel_rfl
theorem QMj (x:QE) (C:List (List QA)) (l:List QA) (k k':Nat) :QO 8 (QE7 k l x) ((HT C l x)) (ftJ x C l k')=( some (QF7 C k k' l x)):=by kernel_rfl
theorem QSq :QO 8 [] ([]) QB3=(
  some []):=by kernel_rfl
end Go.Proofs.Ytbpffdkemeoajaa
namespace Go.Proofs.Ytbpffdkemeoajaa
open Go.SX
theorem Qp (m:Nat) (n:Nat) (ln:Nat→Nat) (g:Nat→Nat→Nat→Int):Kd m n ln ln g g:=fun _ _=>⟨rfl,QD.refl _ _ _⟩
def XL (x:QE) (l:List QA) (k:Nat):Bool:=max (x.hang.get k).a (x.hang.get k).b == (l.length:Int) - 1
def Jk (x:QE) (l:List QA) (k:Nat):Bool:=XL x l k && !XG x (x.hang.get k) (l.getD (x.hang.get k).a.toNat ⟨0,0⟩) (l.getD (x.hang.get k).b.toNat ⟨0,0⟩)
def Kk (x:QE) (l:List QA):Bool:=(QK (Jk x l) x.hang.n 0).isNone
structure JI (x:QE):Prop where
 d:Zo x.d
 n:x.hang.n≤12
 s:x.scans.n≤12
 j:∀ k,k < x.hang.n→JnB (x.hang.get k)∧(0≤(x.hang.get k).a∧(x.hang.get k).a < x.scans.n)∧0≤(x.hang.get k).b∧(x.hang.get k).b < x.scans.n
structure Z8 (l:List QA):Prop where
 pos:0 < l.length
 le:l.length≤1000
 s:∀ i,i < l.length→JF (l.getD i ⟨0,0⟩)
noncomputable def vS (x:QE) (l:List QA) (k:Nat):List Prop→Bool:=match decide (k < x.hang.n)&&XL x l k with
 | true=>Qo
 | false=>fun _=>false
noncomputable def Z2 (P:Program) (x:QE) (C:List (List QA)) (l:List QA) (k:Nat):Env:=mkE P (QC8 (vS x l k) (QAp x C l k))
theorem QHj {x:QE} {l:List QA} (hx:JI x) (hl:Z8 l) {k:Nat} (hk:k < x.hang.n) (hm:XL x l k=true):(0≤(x.hang.get k).a∧(x.hang.get k).a < l.length)∧0≤(x.hang.get k).b∧(x.hang.get k).b < l.length:=by
 obtain ⟨_,h1,h2⟩:=hx.j k hk
 have:=hl.pos
 simp only [XL,beq_iff_eq] at hm
 omega
theorem QGS {x:QE} {C:List (List QA)} {l:List QA} (hx:JI x) (hl:Z8 l) (k:Nat):(Z2 Try.prog x C l k).Sound:=by
 unfold Z2 vS
 split
 ·rename_i hc
  simp only [Bool.and_eq_true,decide_eq_true_eq] at hc
  obtain ⟨h1,h2⟩:=QHj hx hl hc.1 hc.2
  exact QN (KD.add (QQe x C _ _ _ hx.d (hx.j k hc.1).1 (hl.s _ (by omega)) (hl.s _ (by omega))))
 ·exact QN (KD.add (qq (by kernel_rfl) _))
def ftR (x:QE) (l:List QA) (k:Nat) (e:Ex) (J:JSt):Prop:=(e = .ret∧(QK (Jk x l) (x.hang.n - k) k).isNone=false∧J=QAo)∨(e = .exit 0∧(QK (Jk x l) (x.hang.n - k) k).isNone=true∧J=QB3)
theorem QMz (x:QE) (C:List (List QA)) (l:List QA) (hx:JI x) (hl:Z8 l):vF (ftJ x C l) (fun k=>k≤x.hang.n) (fun k=>x.hang.n - k) (ftR x l) 8 QEx [] (Z2 Try.prog x C l) (fun k=>hnd (Z2 Try.prog x C l k) 0) (Qf Try.f78 0):=by
 refine ⟨fun k g hk => ?_⟩
 unfold Z2
 refine KF (QOA (vS x l k) x C l k g) ?_
 have h12:=hx.n
 refine QL (fun h => ?_) (fun h => ?_)
 ·have h:k < x.hang.n:=by have:=of_decide_eq_true h;omega
  obtain ⟨m,hm⟩:∃ m,x.hang.n - k=m + 1:=⟨x.hang.n - k - 1,by omega⟩
  have hm':x.hang.n - (k + 1)=m:=by omega
  have hw:IntKind.i64.wrap ((k:Int) + 1)=((k + 1:Nat):Int):=(w64 (by omega) (by omega)).trans (by omega)
  have go:Jk x l k=false→∀ e J,ftR x l (k + 1) e J→ftR x l k e J:=fun q e J h=>by
   have hf:QK (Jk x l) (x.hang.n - k) k=QK (Jk x l) (x.hang.n - (k + 1)) (k + 1):=by rw [hm,hm',QK,q]
   unfold ftR at h ⊢;rw [hf];exact h
  refine QF (by simp;omega) (QF (by simp;omega) (QL (fun hb => ?_) (fun hb => ?_)))
  ·have hb:XL x l k=true:=hb
   obtain ⟨i1,i2⟩:=QHj hx hl h hb
   have hpb:vS x l k=Qo:=by simp only [vS,hb,decide_eq_true h,Bool.and_self]
   rw [hpb]
   refine QF (by simp;omega) (QF (by simp;omega) (QF (by simp;omega) (QF (by simp;omega) (QF (Kr.2 ?_) (QL (fun hq => ?_) (fun hq => ?_))))))
   ·repeat' first|exact trivial|with_reducible rfl|exact Nat.le_refl _|exact QD.refl _ _ _|exact Qp _ _ _ _|refine And.intro ?_ ?_
   ·have q:Jk x l k=true:=by simp only [Jk,hb,Bool.true_and];exact hq
    have hf:QK (Jk x l) (x.hang.n - k) k=some k:=by rw [hm,QK,q]
    exact ⟨_,.inl ⟨rfl,by rw [hf];rfl,rfl⟩,rfl,rfl,_,QSk,⟨rfl,trivial⟩⟩
   ·have q:Jk x l k=false:=by simp only [Jk,hb,Bool.true_and];exact hq
    refine ⟨k + 1,by show k + 1≤x.hang.n;omega,by show x.hang.n - (k + 1) < x.hang.n - k;omega,go q,rfl,rfl,_,QQd x C l k (k + 1),?_⟩
    repeat' first|exact trivial|with_reducible rfl|exact Nat.le_refl _|exact QD.refl _ _ _|exact Qp _ _ _ _|exact hw|refine And.intro ?_ ?_
  ·have hb:XL x l k=false:=hb
   have q:Jk x l k=false:=by simp only [Jk,hb,Bool.false_and]
   refine ⟨k + 1,by show k + 1≤x.hang.n;omega,by show x.hang.n - (k + 1) < x.hang.n - k;omega,go q,rfl,rfl,_,QMj x C l k (k + 1),?_⟩
   repeat' first|exact trivial|with_reducible rfl|exact Nat.le_refl _|exact QD.refl _ _ _|exact Qp _ _ _ _|exact hw|refine And.intro ?_ ?_
 ·have h:x.hang.n≤k:=by have:=of_decide_eq_false h;omega
  have hf:QK (Jk x l) (x.hang.n - k) k=none:=by rw [show x.hang.n - k=0 by omega];rfl
  exact ⟨_,.inr ⟨rfl,by rw [hf];rfl,rfl⟩,rfl,rfl,_,QSq,trivial⟩
def ftX (x:QE) (l:List QA):List (Prop×Ex×JSt):=[(Kk x l=false,.ret,QAo),(Kk x l=true,.exit 0,QB3)]
abbrev ftH (P:Program) (x:QE) (C:List (List QA)) (l:List QA):Hnd:={ hnd (mkE P Qu) 1 with loop:=fun _=>KC 8 [] (ftJ x C l (0:Nat)) (ftX x l) }
theorem QQE (x:QE) (C:List (List QA)) (l:List QA) (hx:JI x) (hl:Z8 l) (G:Ctx) (hrd:G.rd=none) (hG:G.n=8):Q4 (mkE Try.prog Qu) G (ftH Try.prog x C l) (Qm Try.f78):=by
 refine JR (body:=Qf Try.f78 0) (QN KD) hrd (by kernel_rfl) ?_
 refine QCI (E0:=mkE Try.prog Qu) (E:=Z2 Try.prog x C l) (H:=fun k=>hnd (Z2 Try.prog x C l k) 0) (n0:=8) (s0:=0) (fun _=>rfl) (QGS hx hl) (by omega) (fun k _=>Qt (QGS hx hl k) 0 G _ hrd) (fun k _=>(by decide:8≤32)) ?_ (QMz x C l hx hl) (Nat.zero_le _) ?_
 ·rintro s e J (⟨_,_,rfl⟩|⟨_,_,rfl⟩)<;>exact (by decide:8≤32)
 ·rintro e J (⟨rfl,h,rfl⟩|⟨rfl,h,rfl⟩)
  ·exact ⟨_,List.mem_cons_self,h,rfl,rfl⟩
  ·exact ⟨_,List.mem_cons_of_mem _ List.mem_cons_self,h,rfl,rfl⟩
def ftU (x:QE) (C:List (List QA)) (l:List QA):UC:=⟨0,⟨2,[(0,.ptr 3 0 0),(1,.slz 5 0 l.length (.of 0))],ftB x C l,8⟩,fun _ => .bool false (Kk x l),fun _=>[]⟩
theorem QSb (x:QE) (C:List (List QA)) (l:List QA) :VG (mkE Try.prog Qu) (ftH Try.prog x C l) Try.f78 (ftU x C l) = .ask (0=0) (.ask (0=0) (.ask (0=0) (.ask (l.length=l.length) (.ask (Cap.of 0=Cap.of 0) (.ask
  (IntKind.i64.wrap ((↑l.length:Int) - (1:Int))=(↑l.length:Int) - (1:Int)) (.ask (0=0) (.ask (x.hang.n=x.hang.n) (.ask (Cap.of 0=Cap.of 0) (.ask ((↑x.hang.n:Int) =
  (↑x.hang.n:Int)) (.ask ((0:Int)=(0:Int)) (.ask (l.length≤l.length) (.ask (QD 2 l.length (fun i=>QB.enc (l.getD i (QA.mk (0:Int) (0:Int)))) fun i=>QB.enc
  (l.getD i (QA.mk (0:Int) (0:Int)))) (.ask (x.d.play.length=x.d.play.length) (.ask (x.d.play.slack=x.d.play.slack) (.ask (x.d.play.loose=x.d.play.loose) (.ask
  (x.d.play.damp.lo=x.d.play.damp.lo) (.ask (x.d.play.damp.hi=x.d.play.damp.hi) (.ask (x.d.wide=x.d.wide) (.ask (x.d.high=x.d.high) (.ask (x.d.turn=x.d.turn) (.ask (0=0)
  (.ask (x.d.ps.n=x.d.ps.n) (.ask (Cap.of 0=Cap.of 0) (.ask (0=0) (.ask (x.scans.n=x.scans.n) (.ask (Cap.of 0=Cap.of 0) (.ask (0=0) (.ask (x.hang.n=x.hang.n) (.ask
  (Cap.of 0=Cap.of 0) (.ask (x.lost=x.lost) (.ask (x.foreign=x.foreign) (.ask (0=0) (.ask (C.length=C.length) (.ask (Cap.of 0=Cap.of 0) (.ask (C.length=C.length) (.ask
  (Kd 2 C.length (fun i=>(QJ C i).length) (fun i=>(QJ C i).length) (fun i j=>QB.enc ((QJ C i).getD j (QA.mk (0:Int) (0:Int)))) fun i j=>QB.enc ((QJ C
  i).getD j (QA.mk (0:Int) (0:Int)))) (.ask (x.d.ps.n≤x.d.ps.n) (.ask (QD 28 x.d.ps.n (fun i=>QB.enc (x.d.ps.get i)) fun i=>QB.enc (x.d.ps.get i)) (.ask (x.scans.n
  ≤ x.scans.n) (.ask (QD 28 x.scans.n (fun i=>QB.enc (x.scans.get i)) fun i=>QB.enc (x.scans.get i)) (.ask (x.hang.n≤x.hang.n) (.ask (QD 4 x.hang.n (fun i=>
  QB.enc (x.hang.get i)) fun i=>QB.enc (x.hang.get i)) (.both (.asm (Kk x l=false) (.all (fun (g0:Nat→Value) => .leaf (.bool false false) ([])))) (.asm (Kk x l =
  true) (.all (fun (g1:Nat→Value) => .leaf (.bool true true) ([]))))))))))))))))))))))))))))))))))))))))))))))):=by kernel_rfl
theorem QJw (x:QE) (C:List (List QA)) (l:List QA) (c v:Bool):QO 8 [.bool c v] [] (K2 (ftU x C l))=(
  some [v=Kk x l]):=by kernel_rfl
theorem QKY (x:QE) (C:List (List QA)) (l:List QA) (hx:JI x) (hl:Z8 l):QM Try.prog 78 (uFC (ftU x C l)):=by
 refine Jz (E:=mkE Try.prog Qu) (QN KD) Try.func78 (by kernel_rfl) (by kernel_rfl) (G7 (Nat.zero_le _) rfl rfl fun _=>rfl) (QQE x C l hx hl) ⟨?_⟩
 refine KF (QSb x C l) ?_
 have hp:=hl.pos
 have hle:=hl.le
 have hw:IntKind.i64.wrap ((l.length:Int) - 1)=(l.length:Int) - 1:=w64 (by omega) (by omega)
 repeat' first|refine QF rfl ?_|refine Qc (show _=_ by with_reducible rfl) ?_|refine Qc (show _≤_ from Nat.le_refl _) ?_|refine Qc (show QD _ _ _ _ from QD.refl _ _ _) ?_|refine Qc (show Kd _ _ _ _ _ _ from Qp _ _ _ _) ?_|refine Qc (p:=IntKind.i64.wrap ((l.length:Int) - 1)=(l.length:Int) - 1) hw ?_
 refine Xc (KQ fun h=>KX fun g => ?_) (KQ fun h=>KX fun g => ?_)
 ·exact ⟨rfl,rfl,_,QJw x C l _ _,⟨h.symm,trivial⟩⟩
 ·exact ⟨rfl,rfl,_,QJw x C l _ _,⟨h.symm,trivial⟩⟩
end Go.Proofs.Ytbpffdkemeoajaa
namespace Go.SX
open Go Go.RowKit Go.Proofs.Ytbpffdkemeoajaa
def Gx (fc:FC):FC:=fun args nid _=>fc args nid (Vb (AV.idsFromL 0 args) [])
theorem QAi {P:Program} {f:FuncId} {fc:FC} (h:QM P f fc):QM P f (Gx fc):=
 ⟨h.1,fun args nid _ r w lk blks eff hH ha hv he hp=>h.2 args nid (Vb (AV.idsFromL 0 args) []) r w lk blks eff hH ha hv he hp⟩
end Go.SX
namespace Go.Proofs.Ytbpffdkemeoajaa
open Go.SX
def VL:Tab:=QX Qu 43 (Gx QCO)
theorem qS:QU VL:=KD.add (QAi QKA)
def WA:QA:=⟨-2,0⟩
def Yu (x:QE) (k:Nat):List QA:=WA::KB x.d (x.scans.get k) x.d.ps.n
def Qr (x:QE):Nat→List (List QA)
 | 0=>[]
 | k + 1=>Qr x k++[Yu x k]
def srO (id c:Nat) (x:QE) (C:List (List QA)):List (Nat×Blk):=[(id,.cells 0 125 (JG 0 x++[.slz c 0 C.length (.of 0)])),Yl true c C]
def nsJ (x:QE) (C:List (List QA)) (k:Nat):JSt:=⟨34,[(1,.ptr 8 0 0),(3,.ptr 16 0 0),(10,.slz 1 0 x.scans.n (.of 0)),(11,.int false .i64 x.scans.n),(12,.int false .i64 k)],[(8,.cells 0 50 (JG 0 x))]++srO 16 24 x C++K9 0 x,40⟩
def QHv:Ex→List Nat
 | .normal=>[1,3,10,11,12]
 | .exit _=>[3]
 | .ret=>[]
def nsE (x:QE) (C:List (List QA)):JSt:=⟨34,[(3,.ptr 16 0 0)],srO 16 24 x C++K9 0 x,40⟩
abbrev GQ:List CK:=
  [.int .i64,.int .i64,.int .i64,.int .i64,.int .i64,.int .i64,.int .i64,.int .i64,.int .i64,.int .i64,.int .i64,.int .i64,.int .i64,.int .i64,.int .i64,.int .i64,.int
  .i64,.int .i64,.int .i64,.int .i64,.int .i64,.int .i64,.int .i64,.int .i64,.int .i64,.int .i64,.int .i64,.int .i64]
abbrev QFV (C:List (List QA)) (k:Nat) (x:QE):List (Nat×Blk):=
  [(8,.cells 0 50 [.int false .i64 x.d.play.length,.int false .i64 x.d.play.slack,.int false .i64 x.d.play.loose,.int false .i64 x.d.play.damp.lo,.int false .i64
  x.d.play.damp.hi,.int false .i64 x.d.wide,.int false .i64 x.d.high,.bool false x.d.turn,.slz 0 0 x.d.ps.n (Cap.of 0),.slz 1 0 x.scans.n (Cap.of 0),.slz 2 0 x.hang.n (Cap.of
  0),.int false .i64 x.lost,.int false .i64 x.foreign]),(16,.cells 0 125 [.int false .i64 x.d.play.length,.int false .i64 x.d.play.slack,.int false .i64 x.d.play.loose,.int
  false .i64 x.d.play.damp.lo,.int false .i64 x.d.play.damp.hi,.int false .i64 x.d.wide,.int false .i64 x.d.high,.bool false x.d.turn,.slz 0 0 x.d.ps.n (Cap.of 0),.slz 1 0
  x.scans.n (Cap.of 0),.slz 2 0 x.hang.n (Cap.of 0),.int false .i64 x.lost,.int false .i64 x.foreign,.slz 184 0 (C.length + 1) (Cap.of 0)]),(1,.frz GQ x.scans.n fun i=>
  QB.enc (x.scans.get i)),(0,.frz GQ x.d.ps.n fun i=>QB.enc (x.d.ps.get i)),(2,.frz [.int .i64,.int .i64,.int .i64,.int .i64] x.hang.n fun i=>QB.enc (x.hang.get
  i)),(184,.frz2 true 38 [.int .i64,.int .i64] (C.length + 1) (Vj C.length (fun i=>(QJ C i).length) (1 + (KB x.d (x.scans.get k) x.d.ps.n).length)) (XT C.length (fun i
  j=>QB.enc ((QJ C i).getD j (QA.mk (0:Int) (0:Int)))) (Q1 1 (Qb [[.int true .i64 (-2:Int),.int true .i64 (0:Int)]] 0) fun i=>QB.enc ((KB x.d (x.scans.get
  k) x.d.ps.n).getD i (QA.mk (0:Int) (0:Int))))))]
abbrev QJ5 (C:List (List QA)) (x:QE):List (Nat×Blk):=
  [(16,.cells 0 125 [.int false .i64 x.d.play.length,.int false .i64 x.d.play.slack,.int false .i64 x.d.play.loose,.int false .i64 x.d.play.damp.lo,.int false .i64
  x.d.play.damp.hi,.int false .i64 x.d.wide,.int false .i64 x.d.high,.bool false x.d.turn,.slz 0 0 x.d.ps.n (Cap.of 0),.slz 1 0 x.scans.n (Cap.of 0),.slz 2 0 x.hang.n (Cap.of
  0),.int false .i64 x.lost,.int false .i64 x.foreign,.slz 24 0 C.length (Cap.of 0)]),(0,.frz GQ x.d.ps.n fun i=>QB.enc (x.d.ps.get i)),(1,.frz GQ x.scans.n fun i=>
  QB.enc (x.scans.get i)),(2,.frz [.int .i64,.int .i64,.int .i64,.int .i64] x.hang.n fun i=>QB.enc (x.hang.get i)),(24,.frz2 true 38 [.int .i64,.int .i64] C.length (fun
  i=>(QJ C i).length) fun i j=>QB.enc ((QJ C i).getD j (QA.mk (0:Int) (0:Int))))]
theorem QRe (x:QE) (C:List (List QA)) (k:Nat) (g:Nat→Value) :exec (mkE Try.prog VL) (hnd (mkE Try.prog VL) 0) (Qf Try.f75 0) (JSt.inst (nsJ x C k) g) (KT [] QHv) = .br (decide ((↑k:Int) < (↑x.scans.n:Int))) (.need (decide
  ((0:Int)≤(↑k:Int)∧(↑k:Int) < (↑x.scans.n:Int))&&decide (x.scans.n≤x.scans.n)) (.need (decide (k < x.scans.n)) (.need (decide (x.d.ps.n≤x.d.ps.n)&&(true&&true)
  && decide (x.d.ps.n≤900)) (.need (true&&(decide ((KB x.d (x.scans.get k) x.d.ps.n).length≤(KB x.d (x.scans.get k) x.d.ps.n).length)&&decide ((1 + (KB x.d
  (x.scans.get k) x.d.ps.n).length + (1 + (KB x.d (x.scans.get k) x.d.ps.n).length) / 4 + 192) * 16≤281474976710656∧1 + (KB x.d (x.scans.get k) x.d.ps.n).length ≤
  9223372036854775807))) (.need (decide (C.length=C.length)&&(decide (1 + (KB x.d (x.scans.get k) x.d.ps.n).length≤1 + (KB x.d (x.scans.get k) x.d.ps.n).length)&&decide
  ((C.length + 1 + (C.length + 1) / 4 + 192) * 24≤281474976710656∧C.length + 1≤9223372036854775807))) (.leaf (.tup [.nilp,.ptr 34 0 0,.ptr 8 0 0,.ptr 16 0 0,.slz 1 0
  x.scans.n (Cap.of 0),.int false .i64 (↑x.scans.n:Int),.int false .i64 (IntKind.i64.wrap ((↑k:Int) + (1:Int)))]) ((QFV C k x)))))))) (.leaf (.tup [.ptr 0 0 0,.ptr 34 0 0,
  .ptr 16 0 0]) ((QJ5 C x))):=by kernel_rfl
theorem QK8 (x:QE) (C C':List (List QA)) (k k':Nat) :QO 8 [.ptr 8 0 0,.ptr 16 0 0,.slz 1 0 x.scans.n (Cap.of 0),.int false .i64 (↑x.scans.n:Int),.int false .i64 (IntKind.i64.wrap ((↑k:Int) + (1:Int)))] ((QFV C k x)) (nsJ
  x C' k')=( some [0=0,0=0,0=0,0=0,0=0,x.scans.n=x.scans.n,Cap.of 0=Cap.of 0,(↑x.scans.n:Int)=(↑x.scans.n:Int),IntKind.i64.wrap ((↑k:Int) + (1:Int))
  = (↑k':Int),x.d.play.length=x.d.play.length,x.d.play.slack=x.d.play.slack,x.d.play.loose=x.d.play.loose,x.d.play.damp.lo=x.d.play.damp.lo,x.d.play.damp.hi =
  x.d.play.damp.hi,x.d.wide=x.d.wide,x.d.high=x.d.high,x.d.turn=x.d.turn,0=0,x.d.ps.n=x.d.ps.n,Cap.of 0=Cap.of 0,0=0,x.scans.n=x.scans.n,Cap.of 0=Cap.of 0,
  0=0,x.hang.n=x.hang.n,Cap.of 0=Cap.of 0,x.lost=x.lost,x.foreign=x.foreign,x.d.play.length=x.d.play.length,x.d.play.slack=x.d.play.slack,x.d.play.loose =
  x.d.play.loose,x.d.play.damp.lo=x.d.play.damp.lo,x.d.play.damp.hi=x.d.play.damp.hi,x.d.wide=x.d.wide,x.d.high=x.d.high,x.d.turn=x.d.turn,0=0,x.d.ps.n=x.d.ps.n,
  Cap.of 0=Cap.of 0,0=0,x.scans.n=x.scans.n,Cap.of 0=Cap.of 0,0=0,x.hang.n=x.hang.n,Cap.of 0=Cap.of 0,x.lost=x.lost,x.foreign=x.foreign,0=0,C.length + 1
  = C'.length,Cap.of 0=Cap.of 0,C.length + 1=C'.length,Kd 2 C'.length (Vj C.length (fun i=>(QJ C i).length) (1 + (KB x.d (x.scans.get k) x.d.ps.n).length)) (fun
  i=>(QJ C' i).length) (XT C.length (fun i j=>QB.enc ((QJ C i).getD j (QA.mk (0:Int) (0:Int)))) (Q1 1 (Qb [[.int true .i64 (-2:Int),.int true .i64 (0 :
  Int)]] 0) fun i=>QB.enc ((KB x.d (x.scans.get k) x.d.ps.n).getD i (QA.mk (0:Int) (0:Int))))) fun i j=>QB.enc ((QJ C' i).getD j (QA.mk (0:Int) (0:Int))),
  x.d.ps.n≤x.d.ps.n,QD 28 x.d.ps.n (fun i=>QB.enc (x.d.ps.get i)) fun i=>QB.enc (x.d.ps.get i),x.scans.n≤x.scans.n,QD 28 x.scans.n (fun i=>QB.enc
  (x.scans.get i)) fun i=>QB.enc (x.scans.get i),x.hang.n≤x.hang.n,QD 4 x.hang.n (fun i=>QB.enc (x.hang.get i)) fun i=>QB.enc (x.hang.get i)]):=by kernel_rfl
theorem QQa (x:QE) (C C':List (List QA)) :QO 8 [.ptr 16 0 0] ((QJ5 C x)) (nsE x C')=( some [0=0,0=0,x.d.play.length=x.d.play.length,x.d.play.slack=x.d.play.slack,x.d.play.loose=x.d.play.loose,
  x.d.play.damp.lo=x.d.play.damp.lo,x.d.play.damp.hi=x.d.play.damp.hi,x.d.wide=x.d.wide,x.d.high=x.d.high,x.d.turn=x.d.turn,0=0,x.d.ps.n=x.d.ps.n,Cap.of 0 =
  Cap.of 0,0=0,x.scans.n=x.scans.n,Cap.of 0=Cap.of 0,0=0,x.hang.n=x.hang.n,Cap.of 0=Cap.of 0,x.lost=x.lost,x.foreign=x.foreign,0=0,C.length=C'.length,
  Cap.of 0=Cap.of 0,C.length=C'.length,Kd 2 C'.length (fun i=>(QJ C i).length) (fun i=>(QJ C' i).length) (fun i j=>QB.enc ((QJ C i).getD j (QA.mk (0:Int)
  (0:Int)))) fun i j=>QB.enc ((QJ C' i).getD j (QA.mk (0:Int) (0:Int))),x.d.ps.n≤x.d.ps.n,QD 28 x.d.ps.n (fun i=>QB.enc (x.d.ps.get i)) fun i=>QB.enc
  (x.d.ps.get i),x.scans.n≤x.scans.n,QD 28 x.scans.n (fun i=>QB.enc (x.scans.get i)) fun i=>QB.enc (x.scans.get i),x.hang.n≤x.hang.n,QD 4 x.hang.n (fun i=>
  QB.enc (x.hang.get i)) fun i=>QB.enc (x.hang.get i)]):=by kernel_rfl
end Go.Proofs.Ytbpffdkemeoajaa
namespace Go.Proofs.Ytbpffdkemeoajaa
open Go.SX
theorem QAM (C:List (List QA)) (w:List QA) (i:Nat):QJ (C++[w]) i=if i < C.length then QJ C i else if i=C.length then w else []:=by
 unfold QJ
 rw [List.getD_eq_getElem?_getD,List.getD_eq_getElem?_getD]
 by_cases h:i < C.length
 ·rw [if_pos h,List.getElem?_append_left h]
 ·rw [if_neg h,List.getElem?_append_right (by omega)]
  by_cases h2:i=C.length
  ·subst h2;simp
  ·rw [if_neg h2,List.getElem?_eq_none (by simp;omega)];rfl
theorem QRD (l:List QA):QD 2 (1 + l.length) (Q1 1 (Qb [[AV.int true .i64 (-2),AV.int true .i64 0]] 0) fun i=>QB.enc (l.getD i ⟨0,0⟩)) fun i=>QB.enc ((WA::l).getD i ⟨0,0⟩):=by
 intro i hi
 cases i with
 | zero=>exact ⟨rfl,rfl,trivial⟩
 | succ i=>
  refine ⟨?_,?_,trivial⟩ <;>
   (show Q1 1 _ _ (i + 1) _=_
    rw [Xf, if_neg (by omega)]
    simp)
theorem QKw (C:List (List QA)) (l:List QA):Kd 2 (C++[WA::l]).length (Vj C.length (fun i=>(QJ C i).length) (1 + l.length)) (fun i=>(QJ (C++[WA::l]) i).length)
  (XT C.length (fun i j=>QB.enc ((QJ C i).getD j ⟨0,0⟩)) (Q1 1 (Qb [[AV.int true .i64 (-2),AV.int true .i64 0]] 0) fun i=>QB.enc (l.getD i ⟨0,0⟩))) (fun i j=>QB.enc ((QJ (C++[WA::l]) i).getD j ⟨0,0⟩)):=by
 intro i hi
 rw [List.length_append,List.length_singleton] at hi
 by_cases h:i < C.length
 ·simp only [Vj,XT,js h,QAM,if_pos h]
  exact ⟨trivial,QD.refl _ _ _⟩
 ·have e:i=C.length:=by omega
  simp only [Vj,XT,WD h,QAM,if_neg h,if_pos e]
  refine ⟨by simp;omega,?_⟩
  have:=QRD l
  rw [show (WA::l).length=1 + l.length by simp;omega]
  exact this
theorem Xx (x:QE):∀ k,(Qr x k).length=k
 | 0=>rfl
 | k + 1=>by simp [Qr,Xx x k]
theorem QL1 (x:QE) (hn:x.d.ps.n≤900) (hs:x.scans.n≤1000):JK (fun k=>nsJ x (Qr x k) k) (fun k=>k≤x.scans.n) (fun k=>x.scans.n - k) (fun _ e J=>e = .exit 0∧J=nsE x (Qr x x.scans.n)) 8 QHv [] (mkE Try.prog VL) (fun _=>hnd (mkE Try.prog VL) 0) (Qf Try.f75 0):=by
 refine ⟨fun k g hk=>KF (QRe x _ k g) ?_⟩
 have hlen:=Xx x k
 refine QL (fun h => ?_) (fun h => ?_)
 ·have h:k < x.scans.n:=by have:=of_decide_eq_true h;omega
  have hw:IntKind.i64.wrap ((k:Int) + 1)=((k + 1:Nat):Int):=(w64 (by omega) (by omega)).trans (by omega)
  have hl:=vY x.d (x.scans.get k) x.d.ps.n
  refine QF (by simp;omega) (QF (by simp;omega) (QF (by simp;omega) (QF (by simp;omega) (QF (by simp;omega) ?_))))
  refine ⟨k + 1,h,by show x.scans.n - (k + 1) < x.scans.n - k;omega,fun _ _ h=>h,rfl,rfl,_,QK8 x (Qr x k) (Qr x (k + 1)) k (k + 1),?_⟩
  have e2:(Qr x k).length + 1=(Qr x (k + 1)).length:=by rw [Xx,Xx]
  repeat' first|exact trivial|with_reducible rfl|exact Nat.le_refl _|exact QD.refl _ _ _|exact hw|exact e2|exact QKw _ _|refine And.intro ?_ ?_
 ·have:k=x.scans.n:=by have:=of_decide_eq_false h;omega
  subst this
  refine ⟨_,⟨rfl,rfl⟩,rfl,rfl,_,QQa x _ _,?_⟩
  repeat' first|exact trivial|with_reducible rfl|exact Nat.le_refl _|exact QD.refl _ _ _|exact Qp _ _ _ _|refine And.intro ?_ ?_
abbrev nsH (P:Program) (x:QE) (C:List (List QA)):Hnd:={ hnd (mkE P VL) 1 with loop:=fun _=>KC 8 [] (nsJ x [] (0:Nat)) [(True,.exit 0,nsE x C)] }
theorem QSh (x:QE) (hn:x.d.ps.n≤900) (hs:x.scans.n≤1000) (G:Ctx) (hrd:G.rd=none) (hG:G.n=8):Q4 (mkE Try.prog VL) G (nsH Try.prog x (Qr x x.scans.n)) (Qm Try.f75):=by
 refine JR (body:=Qf Try.f75 0) (QN qS) hrd (by kernel_rfl) ?_
 refine Je (n0:=8) (QN qS) (by omega) (fun s hs=>Qt (QN qS) 0 G _ hrd) (fun s hs=>(by decide:8≤40)) ?_ (QL1 x hn hs) (s0:=0) (Nat.zero_le _) ?_
 ·rintro s e J ⟨_,rfl⟩;exact (by decide:8≤40)
 ·rintro e J ⟨rfl,rfl⟩
  exact ⟨_,List.mem_cons_self,trivial,rfl,rfl⟩
def nsU (x:QE) (C:List (List QA)):UC:=⟨8,⟨1,[(0,.agg (JG 0 x))],K9 0 x,8⟩,fun m => .ptr m 0 0,fun m=>srO m (m + 1) x C⟩
abbrev QKP:List CK:=
  [.int .i64,.int .i64,.int .i64,.int .i64,.int .i64,.int .i64,.int .i64,.int .i64,.int .i64,.int .i64,.int .i64,.int .i64,.int .i64,.int .i64,.int .i64,.int .i64,.int
  .i64,.int .i64,.int .i64,.int .i64,.int .i64,.int .i64,.int .i64,.int .i64,.int .i64,.int .i64,.int .i64,.int .i64]
abbrev QJj (C:List (List QA)) (x:QE):List (Nat×Blk):=
  [(16,.cells 0 125 [.int false .i64 x.d.play.length,.int false .i64 x.d.play.slack,.int false .i64 x.d.play.loose,.int false .i64 x.d.play.damp.lo,.int false .i64
  x.d.play.damp.hi,.int false .i64 x.d.wide,.int false .i64 x.d.high,.bool false x.d.turn,.slz 0 0 x.d.ps.n (Cap.of 0),.slz 1 0 x.scans.n (Cap.of 0),.slz 2 0 x.hang.n (Cap.of
  0),.int false .i64 x.lost,.int false .i64 x.foreign,.slz 24 0 C.length (Cap.of 0)]),(0,.frz QKP x.d.ps.n fun i=>QB.enc (x.d.ps.get i)),(1,.frz QKP x.scans.n fun i=>
  QB.enc (x.scans.get i)),(2,.frz [.int .i64,.int .i64,.int .i64,.int .i64] x.hang.n fun i=>QB.enc (x.hang.get i)),(24,.frz2 true 38 [.int .i64,.int .i64] C.length (fun
  i=>(QJ C i).length) fun i j=>QB.enc ((QJ C i).getD j (QA.mk (0:Int) (0:Int))))]
theorem QL0 (x:QE) (C:List (List QA)) :VG (mkE Try.prog VL) (nsH Try.prog x C) Try.f75 (nsU x C) = .ask (0=0) (.ask (0=0) (.ask (0=0) (.ask (0=0) (.ask (0=0) (.ask (x.scans.n=x.scans.n) (.ask (Cap.of 0
  = Cap.of 0) (.ask ((↑x.scans.n:Int)=(↑x.scans.n:Int)) (.ask ((0:Int)=(0:Int)) (.ask (x.d.play.length=x.d.play.length) (.ask (x.d.play.slack=x.d.play.slack) (.ask
  (x.d.play.loose=x.d.play.loose) (.ask (x.d.play.damp.lo=x.d.play.damp.lo) (.ask (x.d.play.damp.hi=x.d.play.damp.hi) (.ask (x.d.wide=x.d.wide) (.ask (x.d.high=x.d.high)
  (.ask (x.d.turn=x.d.turn) (.ask (0=0) (.ask (x.d.ps.n=x.d.ps.n) (.ask (Cap.of 0=Cap.of 0) (.ask (0=0) (.ask (x.scans.n=x.scans.n) (.ask (Cap.of 0=Cap.of 0) (.ask (0 =
  0) (.ask (x.hang.n=x.hang.n) (.ask (Cap.of 0=Cap.of 0) (.ask (x.lost=x.lost) (.ask (x.foreign=x.foreign) (.ask (x.d.play.length=x.d.play.length) (.ask (x.d.play.slack =
  x.d.play.slack) (.ask (x.d.play.loose=x.d.play.loose) (.ask (x.d.play.damp.lo=x.d.play.damp.lo) (.ask (x.d.play.damp.hi=x.d.play.damp.hi) (.ask (x.d.wide=x.d.wide) (.ask
  (x.d.high=x.d.high) (.ask (x.d.turn=x.d.turn) (.ask (0=0) (.ask (x.d.ps.n=x.d.ps.n) (.ask (Cap.of 0=Cap.of 0) (.ask (0=0) (.ask (x.scans.n=x.scans.n) (.ask (Cap.of 0 =
  Cap.of 0) (.ask (0=0) (.ask (x.hang.n=x.hang.n) (.ask (Cap.of 0=Cap.of 0) (.ask (x.lost=x.lost) (.ask (x.foreign=x.foreign) (.ask (0=0) (.ask (0=0) (.ask (x.d.ps.n ≤
  x.d.ps.n) (.ask (QD 28 x.d.ps.n (fun i=>QB.enc (x.d.ps.get i)) fun i=>QB.enc (x.d.ps.get i)) (.ask (x.scans.n≤x.scans.n) (.ask (QD 28 x.scans.n (fun i=>QB.enc
  (x.scans.get i)) fun i=>QB.enc (x.scans.get i)) (.ask (x.hang.n≤x.hang.n) (.ask (QD 4 x.hang.n (fun i=>QB.enc (x.hang.get i)) fun i=>QB.enc (x.hang.get i)) (.asm
  (True) (.all (fun (g0:Nat→Value) => .leaf (.ptr 16 0 0) ((QJj C x))))))))))))))))))))))))))))))))))))))))))))))))))))))))))):=by kernel_rfl
theorem QLq (x:QE) (C:List (List QA)) :QO 8 [(.ptr 16 0 0)] ((QJj C x)) (K2 (nsU x C))=( some [0=0,0=0,x.d.play.length=x.d.play.length,x.d.play.slack=x.d.play.slack,x.d.play.loose=x.d.play.loose,
  x.d.play.damp.lo=x.d.play.damp.lo,x.d.play.damp.hi=x.d.play.damp.hi,x.d.wide=x.d.wide,x.d.high=x.d.high,x.d.turn=x.d.turn,0=0,x.d.ps.n=x.d.ps.n,Cap.of 0 =
  Cap.of 0,0=0,x.scans.n=x.scans.n,Cap.of 0=Cap.of 0,0=0,x.hang.n=x.hang.n,Cap.of 0=Cap.of 0,x.lost=x.lost,x.foreign=x.foreign,0=0,C.length=C.length,
  Cap.of 0=Cap.of 0,C.length=C.length,Kd 2 C.length (fun i=>(QJ C i).length) (fun i=>(QJ C i).length) (fun i j=>QB.enc ((QJ C i).getD j (QA.mk (0:Int) (0
  : Int)))) fun i j=>QB.enc ((QJ C i).getD j (QA.mk (0:Int) (0:Int)))]):=by kernel_rfl
theorem Z9 (k:Nat) (nid:Nat):K4 8 8 nid (8 + k)=nid + k:=by
 have:Nat.blt (8 + k) 8=false:=WD (by omega)
 simp only [K4,this];omega
theorem W4 {i:Nat} (h:i < 8) (nid:Nat):K4 8 8 nid i=i:=by
 simp only [K4,js h]
theorem QSw (x:QE) (C:List (List QA)):(nsU x C).Ok:=by
 refine ⟨(by decide:8≤8),rfl,rfl,?_,rfl,fun nid h => ?_,fun nid h => ?_⟩
 ·intro q hq
  simp only [UC.po,nsU,srO,Yl,List.mem_cons,List.not_mem_nil,or_false] at hq
  rcases hq with rfl|rfl
  ·exact ⟨rfl,rfl,rfl,fun h=>absurd (show 8 < 8 from h) (by decide)⟩
  ·exact ⟨rfl,rfl,rfl,fun h=>absurd (show 9 < 8 from h) (by decide)⟩
 ·have e0:=Z9 0 nid
  simp only [UC.va,nsU,AV.mapId,Nat.add_zero] at e0 ⊢
  rw [e0]
 ·have e0:=Z9 0 nid
  have e1:=Z9 1 nid
  have l0:=W4 (i:=0) (by decide) nid
  have l1:=W4 (i:=1) (by decide) nid
  have l2:=W4 (i:=2) (by decide) nid
  simp only [UC.po,nsU,srO,Yl,JG,Qy.val,List.cons_append,List.nil_append,List.map_cons,List.map_nil,Blk.mapId,AV.mapId,AV.mapIdL,Nat.add_zero,Nat.zero_add] at e0 e1 l0 l1 l2 ⊢
  rw [e0,e1,l0,l1,l2]
theorem QT2 (x:QE) (hn:x.d.ps.n≤900) (hs:x.scans.n≤1000):QM Try.prog 75 (uFC (nsU x (Qr x x.scans.n))):=by
 refine Jz (E:=mkE Try.prog VL) (QN qS) Try.func75 (by kernel_rfl) (by kernel_rfl) (QSw ..) (QSh x hn hs) ⟨?_⟩
 generalize Qr x x.scans.n=C
 refine KF (QL0 x C) ?_
 repeat' first|refine QF rfl ?_|refine Qc (p:=_=_) rfl ?_|refine Qc (p:=_≤_) (Nat.le_refl _) ?_|refine Qc (p:=QD _ _ _ _) (QD.refl _ _ _) ?_|refine Qc (p:=Kd _ _ _ _ _ _) (Qp _ _ _ _) ?_
 refine KQ fun _=>KX fun g=>⟨rfl,rfl,_,QLq x C,?_⟩
 repeat' first|exact trivial|with_reducible rfl|exact Nat.le_refl _|exact QD.refl _ _ _|exact Qp _ _ _ _|refine And.intro ?_ ?_
end Go.Proofs.Ytbpffdkemeoajaa
