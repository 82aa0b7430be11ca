/- - -/
import Derived.Test.YtbpffdkemeoajaaMov
import Derived.Test.YtbpffdkemeoajaaMow
open Go.IntKind (i64)
set_option maxRecDepth 100000
namespace Go.Proofs.Ytbpffdkemeoajaa
open Go.SX
variable (pb:List Prop→Bool)(x:QB)(C:List (List QC))(l:List QC)(k:Nat)
def QB.sz:Bool:=decide ((x.scans.n:Int)≤12)&&(decide ((x.hang.n:Int)≤12)&&(Qa x.lost 0 9&&Qa x.foreign 0 3))
def QB.ok(x:QB):Bool:=x.sz&&(x.d.ok&&(J3 x.d.play x.scans && !decide (KR (jxO x)≥0)))
def jxR(e:Ex)(J:JSt):Prop:=(e = .ret∧(QO (Km x) (x.hang.n-k) k).isSome=true∧J=⟨19,[(4,.int false .i64 (KR (QO (Km x) (x.hang.n-k) k)))],[],8⟩)∨(e = .exit 0∧QO (Km x) (x.hang.n-k) k=none∧J=⟨19,[],[],8⟩)
theorem QPg(hl:x.hang.n≤1000):Kz (jxJ x) (fun k=>k≤x.hang.n) (fun k=>x.hang.n-k) (jxR x) 8 jH [] (mkE Try.prog VX) (fun _=>hnd (mkE Try.prog VX) 4) (QV Try.f107 0):=by
 refine⟨fun k g hk=>Q5 (QN7 x k g) ?_⟩;refine QI (fun h => ?_) (fun h => ?_)
 ·have h:k<x.hang.n:=by have:=qdt h;omega
  obtain⟨n,hm⟩:∃ n,x.hang.n-k=n+1:=⟨x.hang.n-k-1,by omega⟩
  have hm':x.hang.n-(k+1)=n:=by omega
  have bad:Km x k=true→jxR x k .ret ⟨19,[(4,.int false .i64 k)],[],8⟩:=fun q=>by
   have hf:QO (Km x) (x.hang.n-k) k=some k:=by rw[hm,QO,q]
   exact .inl ⟨rfl,by rw[hf];rfl,by rw[hf];rfl⟩
  refine QG (by simp;omega) (QG (by simp;omega) (QG rfl (QI (fun h1 => ?_) (fun h1=>QG rfl (QI (fun h2 => ?_) (fun h2=>QI (fun h3 => ?_) (fun h3=>QG rfl (QI (fun h4 => ?_) (fun h4=>QG rfl (QI (fun h5 => ?_) (fun h5 => ?_)))))))))))
  ·exact⟨_,bad (by simp only[Km,ZW,h1,Bool.true_or]),rfl,rfl,_,WE _ _,⟨rfl,trivial⟩⟩
  ·exact⟨_,bad (by simp only[Km,ZW,h2,Bool.true_or,Bool.or_true]),rfl,rfl,_,WE _ _,⟨rfl,trivial⟩⟩
  ·exact⟨_,bad (by simp only[Km,ZW,h3,Bool.true_or,Bool.or_true]),rfl,rfl,_,WE _ _,⟨rfl,trivial⟩⟩
  ·exact⟨_,bad (by simp only[Km,ZW,h4,Bool.true_or,Bool.or_true]),rfl,rfl,_,WE _ _,⟨rfl,trivial⟩⟩
  ·exact⟨_,bad (by simp only[Km,ZW,h5,Bool.or_true]),rfl,rfl,_,WE _ _,⟨rfl,trivial⟩⟩
  ·have q:Km x k=false:=by simp only[Km,ZW,h1,h2,h3,h4,h5,Bool.or_self]
   have hf:QO (Km x) (x.hang.n-k) k=QO (Km x) (x.hang.n-(k+1)) (k+1):=by rw[hm,hm',QO,q]
   refine⟨k+1,by omega,by show x.hang.n-(k+1)<x.hang.n-k;omega,fun e J h=>by unfold jxR at h ⊢;rw[hf];exact h,rfl,rfl,_,QPr x k (k+1),?_⟩
   have hw:i64.wrap ((k:Int)+1)=((k+1:Nat):Int):=(w64 (by omega) (by omega)).trans (by omega)
   repeat' first|exact trivial|with_reducible rfl|exact qlr _|exact qRr|exact hw|refine And.intro ?_ ?_
 ·have h:x.hang.n≤k:=by have:=of_decide_eq_false h;omega
  have hf:QO (Km x) (x.hang.n-k) k=none:=by rw[show x.hang.n-k=0 by omega];rfl
  exact⟨_,.inr ⟨rfl,hf,rfl⟩,rfl,rfl,_,QBI,trivial⟩
def jxX:List (Prop×Ex×JSt):=[((jxO x).isSome=true,.ret,⟨19,[(4,.int false .i64 (KR (jxO x)))],[],8⟩),(jxO x=none,.exit 0,⟨19,[],[],8⟩)]
abbrev jxH(P:Program)(x:QB):Hnd:={ hnd (mkE P VX) 1 with loop:=fun _=>KD 8 [] (jxJ x (0:Nat)) (jxX x) }
theorem QNn(hl:x.hang.n≤1000)(G:Ctx)(hrd:G.rd=none)(hG:G.n=8):Q9 (mkE Try.prog VX) G (jxH Try.prog x) (Qr Try.f107):=by
 refine JM (body:=QV Try.f107 0) (QT Y8) hrd (by kernel_rfl) ?_
 refine JE (n0:=8) (QT Y8) (by omega) (fun s hs=>Q0 (QT Y8) 4 G _ hrd) (fun s hs=>qlr _) ?_ (QPg x hl) (s0:=0) (Nat.zero_le _) ?_
 ·rintro s e J (⟨_,_,rfl⟩|⟨_,_,rfl⟩)<;>exact qlr _
 ·rintro e J (⟨rfl,h,rfl⟩|⟨rfl,h,rfl⟩)
  ·exact⟨_,List.mem_cons_self,h,rfl,rfl⟩
  ·exact⟨_,List.mem_cons_of_mem _ List.mem_cons_self,h,rfl,rfl⟩
theorem QVQ :VY (mkE Try.prog VX) (jxH Try.prog x) Try.f107 (jxU x) = .ask (0=0) (.ask (x.hang.n=x.hang.n) (.ask (cO=cO) (.ask (Fn.func (93:FuncId)=Fn.func (93 :
  FuncId)) (.ask (0=0) (.ask (0=0) (.ask ((x.hang.n:Int)=(x.hang.n:Int)) (.ask ((0:Int)=0) (.ask (Fn.func (92:FuncId)=Fn.func (92:FuncId)) (.ask (0=0) (.ask (0 =
  0) (.ask (x.d.play.length=x.d.play.length) (.ask (x.d.play.slack=x.d.play.slack) (.ask (x.d.play.loose=x.d.play.loose) (.ask (x.d.play.damp.lo=x.d.play.damp.lo) (.ask
  (x.d.play.damp.hi=x.d.play.damp.hi) (.ask (x.d.wide=x.d.wide) (.ask (x.d.high=x.d.high) (.ask (x.d.turn=x.d.turn) (.ask (0=0) (.ask (x.d.ps.n=x.d.ps.n) (.ask (cO =
  cO) (.ask (0=0) (.ask (x.scans.n=x.scans.n) (.ask (cO=cO) (.ask (0=0) (.ask (x.hang.n=x.hang.n) (.ask (cO=cO) (.ask (x.lost=x.lost) (.ask
  (x.foreign=x.foreign) (.ask (x.d.ps.n≤x.d.ps.n) (.ask (QE 28 x.d.ps.n (fun i=>QA.enc (x.d.ps.get i)) fun i=>QA.enc (x.d.ps.get i)) (.ask (x.scans.n≤x.scans.n)
  (.ask (QE 28 x.scans.n (fun i=>QA.enc (x.scans.get i)) fun i=>QA.enc (x.scans.get i)) (.ask (x.hang.n≤x.hang.n) (.ask (QE 4 x.hang.n (fun i=>QA.enc (x.hang.get
  i)) fun i=>QA.enc (x.hang.get i)) (.both (.asm ((jxO x).isSome=true) (.all (fun(g0:Nat→Value) => .leaf (.int false .i64 (KR (jxO x))) ([])))) (.asm (jxO x=none)
  (.all (fun(g1:Nat→Value) => .leaf (.int true .i64 (-1)) ([])))))))))))))))))))))))))))))))))))))))):=by kernel_rfl
theorem QPS:QM 8 [(AV.int false i64 (KR (jxO x)))] ([]) (K8 (jxU x))=(
  some [KR (jxO x)=KR (jxO x)]):=by kernel_rfl
theorem QN2:QM 8 [(AV.int true i64 (-1:Int))] ([]) (K8 (jxU x))=(
  some [(-1:Int)=KR (jxO x)]):=by kernel_rfl
theorem QNN(hl:x.hang.n≤1000):QQ Try.prog 107 (uFC (jxU x)):=by
 refine VL (E:=mkE Try.prog VX) (QT Y8) Try.func107 (by kernel_rfl) (by kernel_rfl) (vW (Nat.zero_le _) rfl rfl fun _=>rfl) (QNn x hl) ⟨?_⟩
 refine Q5 (QVQ x) ?_
 repeat' first|refine QU (show _=_ by with_reducible rfl) ?_|refine QU (show _≤_ from qlr _) ?_|refine QU (show QE _ _ _ _ from qRr) ?_
 refine X0 (KB fun h=>KE fun g => ?_) (KB fun h=>KE fun g => ?_)
 ·exact⟨rfl,rfl,_,QPS x,⟨rfl,trivial⟩⟩
 ·refine⟨rfl,rfl,_,QN2 x,⟨?_,trivial⟩⟩;rw[h];rfl
def Gc:Tab:=Qh VX 107 (J1 pb (jxU x))
theorem QVG:VY (mkE Try.prog (Gc pb x)) (hnd (mkE Try.prog (Gc pb x)) 1) Try.f94 (cxU x) =
  QD.need (pb ([(0:Nat)=(0:Nat),x.hang.n=x.hang.n,Cap.of (0:Nat)=Cap.of (0:Nat),Fn.func (93:Nat)=Fn.func (93:Nat),(0:Nat)=(0:Nat),(0:Nat)=(0 :
  Nat),Fn.func (92:Nat)=Fn.func (92:Nat),(0:Nat)=(0:Nat),(0:Nat)=(0:Nat),x.d.play.length=x.d.play.length,x.d.play.slack=x.d.play.slack,x.d.play.loose =
  x.d.play.loose,x.d.play.damp.lo=x.d.play.damp.lo,x.d.play.damp.hi=x.d.play.damp.hi,x.d.wide=x.d.wide,x.d.high=x.d.high,x.d.turn=x.d.turn,(0:Nat)=(0:Nat),
  x.d.ps.n=x.d.ps.n,Cap.of (0:Nat)=Cap.of (0:Nat),(0:Nat)=(0:Nat),x.scans.n=x.scans.n,Cap.of (0:Nat)=Cap.of (0:Nat),(0:Nat)=(0:Nat),x.hang.n =
  x.hang.n,Cap.of (0:Nat)=Cap.of (0:Nat),x.lost=x.lost,x.foreign=x.foreign,x.d.ps.n≤x.d.ps.n,QE (28:Nat) x.d.ps.n (fun i=>QA.enc (x.d.ps.get i)) fun i=>
  QA.enc (x.d.ps.get i),x.scans.n≤x.scans.n,QE (28:Nat) x.scans.n (fun i=>QA.enc (x.scans.get i)) fun i=>QA.enc (x.scans.get i),x.hang.n≤x.hang.n,QE (4 :
  Nat) x.hang.n (fun i=>QA.enc (x.hang.get i)) fun i=>QA.enc (x.hang.get i)])) (QD.leaf (AV.bool false (decide (KR (jxO x)≥(0:Int)))) ([])):=by kernel_rfl
theorem QU7:QM 8 [(AV.bool false (decide (KR (jxO x)≥(0:Int))))] ([]) (K8 (cxU x))=(
  some [decide (KR (jxO x)≥(0:Int))=decide (KR (jxO x)≥(0:Int))]):=by kernel_rfl
def ve:Tab:=Qh VX 94 (J1 pb (cxU x))
theorem QOY :Ka (mkE Try.prog (ve pb x)) (hnd (mkE Try.prog (ve pb x)) 1) Try.f74 (QY.vals 0 ((x,()):QB×Unit)) (QY.blks 0 ((x,()):QB×Unit)) 8 = .br (decide
  ((x.scans.n:Int)≤12)) (.br (decide ((x.hang.n:Int)≤12)) (.need (true) (.br (Qa x.lost (0:Int) (9:Int)) (.need (true) (.br (Qa x.foreign (0:Int) (3:Int))
  (.need (decide (x.d.ps.n≤x.d.ps.n)&&true&&decide (x.d.ps.n≤1000)) (.br (x.d.ok) (.need (true&&(decide (x.scans.n≤x.scans.n)&&true)&&decide (x.scans.n≤1000)) (.br
  (J3 x.d.play x.scans) (.need (pb ([0=0,x.hang.n=x.hang.n,cO=cO,Fn.func 93=Fn.func 93,0=0,0=0,Fn.func 92=Fn.func 92,0=0,0=0,x.d.play.length =
  x.d.play.length,x.d.play.slack=x.d.play.slack,x.d.play.loose=x.d.play.loose,x.d.play.damp.lo=x.d.play.damp.lo,x.d.play.damp.hi=x.d.play.damp.hi,x.d.wide=x.d.wide,
  x.d.high=x.d.high,x.d.turn=x.d.turn,0=0,x.d.ps.n=x.d.ps.n,cO=cO,0=0,x.scans.n=x.scans.n,cO=cO,0=0,x.hang.n=x.hang.n,cO =
  cO,x.lost=x.lost,x.foreign=x.foreign,x.d.ps.n≤x.d.ps.n,QE 28 x.d.ps.n (fun i=>QA.enc (x.d.ps.get i)) fun i=>QA.enc (x.d.ps.get i),x.scans.n≤x.scans.n,
  QE 28 x.scans.n (fun i=>QA.enc (x.scans.get i)) fun i=>QA.enc (x.scans.get i),x.hang.n≤x.hang.n,QE 4 x.hang.n (fun i=>QA.enc (x.hang.get i)) fun i=>
  QA.enc (x.hang.get i)])) (.leaf (.bool false !decide (KR (jxO x)≥0)) ([]))) (.leaf (.bool true false) ([])))) (.leaf (.bool true false) ([])))) (.leaf (.bool true false)
  ([])))) (.leaf (.bool true false) ([])))) (.leaf (.bool true false) ([]))) (.leaf (.bool true false) ([])):=by kernel_rfl
theorem QR7(hl:x.hang.n≤1000):QW (Gc Qt x):=Y8.add (QNN x hl)
theorem QT7(hl:x.hang.n≤1000):QQ Try.prog 94 (uFC (cxU x)):=by
 have hE:=QT (QR7 x hl);refine VL (E:=mkE Try.prog (Gc Qt x)) hE (c:=Qr Try.f94) Try.func94 (by kernel_rfl) (by kernel_rfl) (vW (Nat.zero_le _) rfl rfl fun _=>rfl) (fun G h1 _=>Q0 hE 1 G _ h1) ⟨?_⟩
 refine Q5 (QVG Qt x) ?_;refine QG (JA.2 ?_) ⟨rfl,rfl,_,QU7 x,⟨rfl,trivial⟩⟩
 repeat' first|exact trivial|with_reducible rfl|exact qlr _|exact qRr|refine And.intro ?_ ?_
theorem QPf(hl:x.hang.n≤1000):QW (ve Qt x):=Y8.add (QT7 x hl)
def qT:WF (QB×Unit):=fun|(x,_)=>(decide (x.d.ps.n≤1000∧x.scans.n≤1000∧x.hang.n≤1000),.bool false x.ok,[])
def QI6:FC:=wFC qT
theorem QOB(hx:(qT (x,())).1=true):QQ Try.prog 74 (wFC (Vl qT (x,()))):=by
 obtain⟨h1,h2,h3⟩:=qdt hx;have hE:=QT (QPf x h3);refine qm (c:=Qr Try.f74) (E:=mkE Try.prog (ve Qt x)) (H:=hnd (mkE Try.prog (ve Qt x)) 1) hE Try.func74 (by kernel_rfl) (by kernel_rfl) (N:=8) (by decide) (x,()) (fun G h1 _=>Q0 hE 1 G _ h1) ⟨rfl,by simp[qT],rfl⟩ ?_
 refine Q5 (QOY Qt x) ?_;have no:x.ok=false→(QD.leaf (AV.bool true false) []).den (XS 8 (qT (x,())).2.1 (qT (x,())).2.2):=fun h=>Kg (show false=x.ok by rw[h]) rfl
 refine QI (fun a1=>QI (fun a2=>QG rfl (QI (fun a3=>QG rfl (QI (fun a4=>QG (by simp;omega) (QI (fun a5=>QG (by simp;omega) (QI (fun a6=>QG (JA.2 ?_) (Kg ?_ rfl)) (fun a6=>no ?_))) (fun a5=>no ?_))) (fun a4=>no ?_))) (fun a3=>no ?_))) (fun a2=>no ?_)) (fun a1=>no ?_)
 ·repeat' first|exact trivial|with_reducible rfl|exact qlr _|exact qRr|refine And.intro ?_ ?_
 ·show(!decide (KR (jxO x)≥0))=x.ok;simp only[QB.ok,QB.sz,a1,a2,a3,a4,a5,a6,Bool.true_and]
 ·simp only[QB.ok,a6,Bool.false_and,Bool.and_false]
 ·simp only[QB.ok,a5,Bool.false_and,Bool.and_false]
 ·simp only[QB.ok,QB.sz,a4,Bool.false_and,Bool.and_false]
 ·simp only[QB.ok,QB.sz,a3,Bool.false_and,Bool.and_false]
 ·simp only[QB.ok,QB.sz,a2,Bool.false_and,Bool.and_false]
 ·simp only[QB.ok,QB.sz,a1,Bool.false_and]
theorem QWo:QQ Try.prog 74 QI6:=QC0 (by kernel_rfl) fun|(x,()),h=>QOB x h
def Qu:Tab:=Qh VX 74 QI6
theorem KL:QW Qu:=Y8.add QWo
def QN(i:Nat):List QC:=C.getD i []
def ZY(own:Bool)(id:Nat)(C:List (List QC)):Nat×Blk:=(id,.frz2 own 38 [.int .i64,.int .i64] C.length (fun i=>(QN C i).length) fun i j=>QA.enc ((QN C i).getD j ⟨0,0⟩))
def srC:List AV:=JQ 0 x++[.slz 4 0 C.length (.of 0)]
def srB:List (Nat×Blk):=[(3,.cellsR 0 125 (srC x C)),ZY false 4 C]++JN 0 x
def H7(j:Jn)(a:QC):Int:=(j.i+a.turn).tmod 4
def Vi(j:Jn)(a b:QC):Bool:=cond ((a.cell == -2)||(b.cell == -2)) ((a.cell==b.cell)&&((a.turn==b.turn)&&true)) ((QX x.d.wide x.d.high a.cell (H7 j a)==b.cell)&&((j.j+b.turn).tmod 4==HW (H7 j a)))
def hgU(j:Jn)(a b:QC):UC:=⟨0,⟨4,[(0,.ptr 3 0 0),(1,Enc.enc j),(2,Enc.enc a),(3,Enc.enc b)],srB x C,8⟩,fun _ => .bool false (Vi x j a b),fun _=>[]⟩
theorem QUA(j:Jn)(a b:QC):VY (mkE Try.prog Qu) (hnd (mkE Try.prog Qu) 1) Try.f95 (hgU x C j a b) =
  QD.br (a.cell==(-2:Int)) (QD.leaf (AV.bool false (a.cell==b.cell&&(a.turn==b.turn&&true))) ([])) (QD.br (b.cell==(-2:Int)) (QD.leaf (AV.bool false (a.cell ==
  b.cell&&(a.turn==b.turn&&true))) ([])) (QD.need (decide (x.d.ps.n≤x.d.ps.n)&&(true&&(true&&true))&&decide (((1:Int)≤x.d.wide∧x.d.wide≤(100:Int))∧((1 :
  Int)≤x.d.high∧x.d.high≤(100:Int))∧(0:Int)≤a.cell∧a.cell≤(100:Int))) (QD.br (QX x.d.wide x.d.high a.cell ((i64.wrap (j.i+a.turn)).tmod (4:Int)) ==
  b.cell) (QD.need (decide ((0:Int)≤(i64.wrap (j.i+a.turn)).tmod (4:Int)∧(i64.wrap (j.i+a.turn)).tmod (4:Int)≤(3:Int))) (QD.leaf (AV.bool false
  ((i64.wrap (j.j+b.turn)).tmod (4:Int)==HW ((i64.wrap (j.i+a.turn)).tmod (4:Int)))) ([]))) (QD.leaf (AV.bool true false) ([]))))):=by kernel_rfl
theorem QPz(j:Jn)(a b:QC)(c v:Bool):QM 8 [.bool c v] [] (K8 (hgU x C j a b))=(
  some [v=Vi x j a b]):=by kernel_rfl
structure JV (s:QC):Prop where
 cell:s.cell = -2∨0≤s.cell∧s.cell≤100
 turn:0≤s.turn∧s.turn≤3
structure JnB (j:Jn):Prop where
 i:0≤j.i∧j.i≤3
 j:0≤j.j∧j.j≤3
theorem QOL{n:Int}(h:0≤n):0≤n.tmod 4∧n.tmod 4≤3:=by
 have h1:=Int.tmod_nonneg 4 h;have h2:=Int.tmod_lt_of_pos n (show(0:Int)<4 by decide)
 omega
theorem QPa(j:Jn)(a b:QC)(hd:WY x.d)(hj:JnB j)(ha:JV a)(hb:JV b):QQ Try.prog 95 (uFC (hgU x C j a b)):=by
 refine VL (E:=mkE Try.prog Qu) (QT KL) (c:=Qr Try.f95) Try.func95 (by kernel_rfl) (by kernel_rfl) (vW (Nat.zero_le _) rfl rfl fun _=>rfl) (fun G h1 _=>Q0 (QT KL) 1 G _ h1) ⟨?_⟩
 refine Q5 (QUA x C j a b) ?_;have hw:=hd.w1;have hwn:=hd.wn;have hh:=hd.h1;have hhn:=hd.hn;have h9:=hd.n9;have ha2:=ha.turn;have hb2:=hb.turn;have hi:=hj.i;have hjj:=hj.j;have fin:∀(c v:Bool),v=Vi x j a b→(QD.leaf (.bool c v) []).den (HX (hgU x C j a b)):=fun c v h=>⟨rfl,rfl,_,QPz x C j a b c v,⟨h,trivial⟩⟩;have w1:i64.wrap (j.i+a.turn)=j.i+a.turn:=w64 (by omega) (by omega)
 have w2:i64.wrap (j.j+b.turn)=j.j+b.turn:=w64 (by omega) (by omega)
 have m:=QOL (n:=j.i+a.turn) (by omega)
 rw[w1,w2];refine QI (fun h=>fin _ _ ?_) (fun h=>QI (fun h2=>fin _ _ ?_) (fun h2=>QG ?_ (QI (fun h3=>QG ?_ (fin _ _ ?_)) (fun h3=>fin _ _ ?_))))
 ·simp only[Vi,h,Bool.true_or,cond_true]
 ·simp only[Vi,h2,Bool.or_true,cond_true]
 ·have:¬ a.cell = -2:=by simpa using h
  have:=ha.cell;simp only[qlr,decide_true,Bool.true_and,qdE];omega
 ·simp only[qdE];exact m
 ·simp only[Vi,h,h2,Bool.or_self,cond_false,H7,h3,Bool.true_and]
 ·simp only[Vi,h,h2,Bool.or_self,cond_false,H7,h3,Bool.false_and]
def frS(id:Nat)(l:List QC):Nat×Blk:=(id,.frz [.int .i64,.int .i64] l.length fun i=>QA.enc (l.getD i ⟨0,0⟩))
def ftB:List (Nat×Blk):=frS 5 l::srB x C
def ftJ:JSt:=⟨45,[(0,.ptr 3 0 0),(1,.slz 5 0 l.length (.of 0)),(5,.int false .i64 ((l.length:Int)-1)),(15,.slz 2 0 x.hang.n (.of 0)),(16,.int false .i64 x.hang.n),(17,.int false .i64 k)],ftB x C l,32⟩
def QH6:Ex→List Nat
 | .normal=>[0,1,5,15,16,17]
 | .exit _=>[]
 | .ret=>[4]
def QCn:JSt:=⟨45,[(4,.bool false false)],[],32⟩
def QEF:JSt:=⟨45,[],[],32⟩
def QCd:UC:=hgU x C (x.hang.get k) (l.getD (x.hang.get k).a.toNat ⟨0,0⟩) (l.getD (x.hang.get k).b.toNat ⟨0,0⟩)
def QB6(U:UC):Tab:=Qh Qu 95 (J1 pb U)
noncomputable abbrev QFf(l:List QC)(x:QB):List AV:=
  [.nilp,.ptr 45 0 0,.ptr 3 0 0,.slz 5 0 l.length cO,vi ((l.length:Int)-1),.slz 2 0 x.hang.n cO,vi (x.hang.n:Int),.int false
  .i64 (i64.wrap ((k:Int)+1))]
abbrev QK1:List CK:=
  [.int .i64,.int .i64,.int .i64,.int .i64,.int .i64,.int .i64,.int .i64,.int .i64,.int .i64,.int .i64,.int .i64,.int .i64,.int .i64,.int .i64,.int .i64,.int .i64,.int
  .i64,.int .i64,.int .i64,.int .i64,.int .i64,.int .i64,.int .i64,.int .i64,.int .i64,.int .i64,.int .i64,.int .i64]
noncomputable abbrev H1(x:QB):List (Nat×Blk):=
  [(3,.cellsR 0 125 [vi x.d.play.length,vi x.d.play.slack,vi x.d.play.loose,vi x.d.play.damp.lo,.int false .i64
  x.d.play.damp.hi,vi x.d.wide,vi x.d.high,.bool false x.d.turn,.slz 0 0 x.d.ps.n cO,.slz 1 0 x.scans.n cO,.slz 2 0 x.hang.n (Cap.of
  0),vi x.lost,vi x.foreign,.slz 4 0 C.length cO]),(5,.frz [.int .i64,.int .i64] l.length fun i=>QA.enc (l.getD i ⟨0,0⟩)),(2,.frz [.int
  .i64,.int .i64,.int .i64,.int .i64] x.hang.n fun i=>QA.enc (x.hang.get i)),(0,.frz QK1 x.d.ps.n fun i=>QA.enc (x.d.ps.get i)),(1,.frz QK1 x.scans.n fun i=>
  QA.enc (x.scans.get i)),(4,.frz2 false 38 [.int .i64,.int .i64] C.length (fun i=>(QN C i).length) fun i j=>QA.enc ((QN C i).getD j ⟨0,0⟩))]
theorem QO8(g:Nat→Value):exec (mkE Try.prog (QB6 pb (QCd x C l k))) (hnd (mkE Try.prog (QB6 pb (QCd x C l k))) 0) (QV Try.f78 0) (JSt.inst (ftJ x C l k) g) (KH [] QH6) = .br (decide ((k :
  Int)<(x.hang.n:Int))) (.need (decide ((0:Int)≤(k:Int)∧(k:Int)<(x.hang.n:Int))&&decide (x.hang.n≤x.hang.n)) (.need (decide (k<x.hang.n)) (.br (max (x.hang.get
  k).a (x.hang.get k).b==(l.length:Int)-1) (.need (decide ((0:Int)≤(x.hang.get k).a∧(x.hang.get k).a<(l.length:Int))&&decide (l.length≤l.length)) (.need (decide
  ((x.hang.get k).a.toNat<l.length)) (.need (decide ((0:Int)≤(x.hang.get k).b∧(x.hang.get k).b<(l.length:Int))&&decide (l.length≤l.length)) (.need (decide ((x.hang.get
  k).b.toNat<l.length)) (.need (pb ([0=0,0=0,(x.hang.get k).a=(x.hang.get k).a,(x.hang.get k).i=(x.hang.get k).i,(x.hang.get k).b=(x.hang.get k).b,(x.hang.get k).j =
  (x.hang.get k).j,(l.getD (x.hang.get k).a.toNat ⟨0,0⟩).cell=(l.getD (x.hang.get k).a.toNat ⟨0,0⟩).cell,(l.getD (x.hang.get k).a.toNat ⟨0,0⟩).turn=(l.getD (x.hang.get
  k).a.toNat ⟨0,0⟩).turn,(l.getD (x.hang.get k).b.toNat ⟨0,0⟩).cell=(l.getD (x.hang.get k).b.toNat ⟨0,0⟩).cell,(l.getD (x.hang.get k).b.toNat ⟨0,0⟩).turn=(l.getD (x.hang.get
  k).b.toNat ⟨0,0⟩).turn,x.d.play.length=x.d.play.length,x.d.play.slack=x.d.play.slack,x.d.play.loose=x.d.play.loose,x.d.play.damp.lo=x.d.play.damp.lo,x.d.play.damp.hi =
  x.d.play.damp.hi,x.d.wide=x.d.wide,x.d.high=x.d.high,x.d.turn=x.d.turn,0=0,x.d.ps.n=x.d.ps.n,cO=cO,0=0,x.scans.n=x.scans.n,cO=cO,
  0=0,x.hang.n=x.hang.n,cO=cO,x.lost=x.lost,x.foreign=x.foreign,0=0,C.length=C.length,cO=cO,C.length=C.length,Kv 2 C.length
  (fun i=>(QN C i).length) (fun i=>(QN C i).length) (fun i j=>QA.enc ((QN C i).getD j ⟨0,0⟩)) fun i j=>QA.enc ((QN C i).getD j ⟨0,0⟩),x.d.ps.n≤x.d.ps.n,
  QE 28 x.d.ps.n (fun i=>QA.enc (x.d.ps.get i)) fun i=>QA.enc (x.d.ps.get i),x.scans.n≤x.scans.n,QE 28 x.scans.n (fun i=>QA.enc (x.scans.get i)) fun i=>
  QA.enc (x.scans.get i),x.hang.n≤x.hang.n,QE 4 x.hang.n (fun i=>QA.enc (x.hang.get i)) fun i=>QA.enc (x.hang.get i)])) (.br (!Vi x (x.hang.get k) (l.getD
  (x.hang.get k).a.toNat ⟨0,0⟩) (l.getD (x.hang.get k).b.toNat ⟨0,0⟩)) (.leaf (.tup [.nili,.ptr 45 0 0,.bool true false]) ([])) (.leaf (.tup (QFf k l x)) ((H1 C l x)))))))))
  (.leaf (.tup (QFf k l x)) ((H1 C l x)))))) (.leaf (.tup [.ptr 0 0 0,.ptr 45 0 0]) ([])):=by kernel_rfl
theorem QRJ :QM 8 [AV.bool true false] ([]) QCn=(
  some [false=false]):=by kernel_rfl
noncomputable abbrev QGU(l:List QC)(x:QB):List AV:=
  [.ptr 3 0 0,.slz 5 0 l.length cO,vi ((l.length:Int)-1),.slz 2 0 x.hang.n cO,vi (x.hang.n:Int),vi (i64.wrap
  ((k:Int)+1))]
abbrev QI4(k':Nat)(l:List QC)(x:QB):List Prop:=
  [0=0,0=0,0=0,l.length=l.length,cO=cO,(l.length:Int)-1=(l.length:Int)-1,0=0,x.hang.n=x.hang.n,cO=cO,(x.hang.n:Int) =
  (x.hang.n:Int),i64.wrap ((k:Int)+1)=(k':Int),l.length≤l.length,QE 2 l.length (fun i=>QA.enc (l.getD i ⟨0,0⟩)) fun i=>QA.enc (l.getD i ⟨0,0⟩),
  x.d.play.length=x.d.play.length,x.d.play.slack=x.d.play.slack,x.d.play.loose=x.d.play.loose,x.d.play.damp.lo=x.d.play.damp.lo,x.d.play.damp.hi=x.d.play.damp.hi,
  x.d.wide=x.d.wide,x.d.high=x.d.high,x.d.turn=x.d.turn,0=0,x.d.ps.n=x.d.ps.n,cO=cO,0=0,x.scans.n=x.scans.n,cO=cO,0=0,x.hang.n =
  x.hang.n,cO=cO,x.lost=x.lost,x.foreign=x.foreign,0=0,C.length=C.length,cO=cO,C.length=C.length,Kv 2 C.length (fun i=>(QN C
  i).length) (fun i=>(QN C i).length) (fun i j=>QA.enc ((QN C i).getD j ⟨0,0⟩)) fun i j=>QA.enc ((QN C i).getD j ⟨0,0⟩),x.d.ps.n≤x.d.ps.n,QE 28 x.d.ps.n (fun
  i=>QA.enc (x.d.ps.get i)) fun i=>QA.enc (x.d.ps.get i),x.scans.n≤x.scans.n,QE 28 x.scans.n (fun i=>QA.enc (x.scans.get i)) fun i=>QA.enc (x.scans.get i),
  x.hang.n≤x.hang.n,QE 4 x.hang.n (fun i=>QA.enc (x.hang.get i)) fun i=>QA.enc (x.hang.get i)]
theorem QTF(k k':Nat):QM 8 (QGU k l x) ((H1 C l x)) (ftJ x C l k')=(some (QI4 C k k' l x)):=by kernel_rfl
theorem QN4(k k':Nat):QM 8 (QGU k l x) ((H1 C l x)) (ftJ x C l k')=(some (QI4 C k k' l x)):=by kernel_rfl
theorem QNY :QM 8 [] ([]) QEF=(
  some []):=by kernel_rfl
theorem Qo(m:Nat)(n:Nat)(ln:Nat→Nat)(g:Nat→Nat→Nat→Int):Kv m n ln ln g g:=fun _ _=>⟨rfl,qRr⟩
def YK:Bool:=max (x.hang.get k).a (x.hang.get k).b==(l.length:Int)-1
def Jp:Bool:=YK x l k && !Vi x (x.hang.get k) (l.getD (x.hang.get k).a.toNat ⟨0,0⟩) (l.getD (x.hang.get k).b.toNat ⟨0,0⟩)
def JD:Bool:=(QO (Jp x l) x.hang.n 0).isNone
structure JR (x:QB):Prop where
 d:WY x.d
 n:x.hang.n≤12
 s:x.scans.n≤12
 j:∀ k,k<x.hang.n→JnB (x.hang.get k)∧(0≤(x.hang.get k).a∧(x.hang.get k).a<x.scans.n)∧0≤(x.hang.get k).b∧(x.hang.get k).b<x.scans.n
structure qq (l:List QC):Prop where
 pos:0<l.length
 le:l.length≤1000
 s:∀ i,i<l.length→JV (l.getD i ⟨0,0⟩)
noncomputable def vB:List Prop→Bool:=match decide (k<x.hang.n)&&YK x l k with
 | true=>Qt
 | false=>fun _=>false
noncomputable def WQ(P:Program)(x:QB)(C:List (List QC))(l:List QC)(k:Nat):Env:=mkE P (QB6 (vB x l k) (QCd x C l k))
theorem QJ5{x:QB}{l:List QC}(hx:JR x)(hl:qq l){k:Nat}(hk:k<x.hang.n)(hm:YK x l k=true):(0≤(x.hang.get k).a∧(x.hang.get k).a<l.length)∧0≤(x.hang.get k).b∧(x.hang.get k).b<l.length:=by
 obtain⟨_,h1,h2⟩:=hx.j k hk;have:=hl.pos;simp only[YK,beq_iff_eq]at hm;omega
theorem QJk{x:QB}{C:List (List QC)}{l:List QC}(hx:JR x)(hl:qq l)(k:Nat):(WQ Try.prog x C l k).Sound:=by
 unfold WQ vB;split
 ·rename_i hc;simp only[qbA,qdE]at hc;obtain⟨h1,h2⟩:=QJ5 hx hl hc.1 hc.2;exact QT (KL.add (QPa x C _ _ _ hx.d (hx.j k hc.1).1 (hl.s _ (by omega)) (hl.s _ (by omega))))
 ·exact QT (KL.add (jT (by kernel_rfl) _))
def ftR(e:Ex)(J:JSt):Prop:=(e = .ret∧(QO (Jp x l) (x.hang.n-k) k).isNone=false∧J=QCn)∨(e = .exit 0∧(QO (Jp x l) (x.hang.n-k) k).isNone=true∧J=QEF)
theorem QQw(hx:JR x)(hl:qq l):vC (ftJ x C l) (fun k=>k≤x.hang.n) (fun k=>x.hang.n-k) (ftR x l) 8 QH6 [] (WQ Try.prog x C l) (fun k=>hnd (WQ Try.prog x C l k) 0) (QV Try.f78 0):=by
 refine⟨fun k g hk => ?_⟩;unfold WQ;refine Q5 (QO8 (vB x l k) x C l k g) ?_;have h12:=hx.n;refine QI (fun h => ?_) (fun h => ?_)
 ·have h:k<x.hang.n:=by have:=qdt h;omega
  obtain⟨m,hm⟩:∃ m,x.hang.n-k=m+1:=⟨x.hang.n-k-1,by omega⟩
  have hm':x.hang.n-(k+1)=m:=by omega
  have hw:i64.wrap ((k:Int)+1)=((k+1:Nat):Int):=(w64 (by omega) (by omega)).trans (by omega)
  have go:Jp x l k=false→∀ e J,ftR x l (k+1) e J→ftR x l k e J:=fun q e J h=>by
   have hf:QO (Jp x l) (x.hang.n-k) k=QO (Jp x l) (x.hang.n-(k+1)) (k+1):=by rw[hm,hm',QO,q]
   unfold ftR at h ⊢;rw[hf];exact h
  refine QG (by simp;omega) (QG (by simp;omega) (QI (fun hb => ?_) (fun hb => ?_)))
  ·have hb:YK x l k=true:=hb;obtain⟨i1,i2⟩:=QJ5 hx hl h hb;have hpb:vB x l k=Qt:=by simp only[vB,hb,decide_eq_true h,Bool.and_self]
   rw[hpb];refine QG (by simp;omega) (QG (by simp;omega) (QG (by simp;omega) (QG (by simp;omega) (QG (JA.2 ?_) (QI (fun hq => ?_) (fun hq => ?_))))))
   ·repeat' first|exact trivial|with_reducible rfl|exact qlr _|exact qRr|exact Qo _ _ _ _|refine And.intro ?_ ?_
   ·have q:Jp x l k=true:=by simp only[Jp,hb,Bool.true_and];exact hq
    have hf:QO (Jp x l) (x.hang.n-k) k=some k:=by rw[hm,QO,q]
    exact⟨_,.inl ⟨rfl,by rw[hf];rfl,rfl⟩,rfl,rfl,_,QRJ,⟨rfl,trivial⟩⟩
   ·have q:Jp x l k=false:=by simp only[Jp,hb,Bool.true_and];exact hq
    refine⟨k+1,by show k+1≤x.hang.n;omega,by show x.hang.n-(k+1)<x.hang.n-k;omega,go q,rfl,rfl,_,QTF x C l k (k+1),?_⟩
    repeat' first|exact trivial|with_reducible rfl|exact qlr _|exact qRr|exact Qo _ _ _ _|exact hw|refine And.intro ?_ ?_
  ·have hb:YK x l k=false:=hb;have q:Jp x l k=false:=by simp only[Jp,hb,Bool.false_and]
   refine⟨k+1,by show k+1≤x.hang.n;omega,by show x.hang.n-(k+1)<x.hang.n-k;omega,go q,rfl,rfl,_,QN4 x C l k (k+1),?_⟩
   repeat' first|exact trivial|with_reducible rfl|exact qlr _|exact qRr|exact Qo _ _ _ _|exact hw|refine And.intro ?_ ?_
 ·have h:x.hang.n≤k:=by have:=of_decide_eq_false h;omega
  have hf:QO (Jp x l) (x.hang.n-k) k=none:=by rw[show x.hang.n-k=0 by omega];rfl
  exact⟨_,.inr ⟨rfl,by rw[hf];rfl,rfl⟩,rfl,rfl,_,QNY,trivial⟩
def ftX:List (Prop×Ex×JSt):=[(JD x l=false,.ret,QCn),(JD x l=true,.exit 0,QEF)]
abbrev ftH(P:Program)(x:QB)(C:List (List QC))(l:List QC):Hnd:={ hnd (mkE P Qu) 1 with loop:=fun _=>KD 8 [] (ftJ x C l (0:Nat)) (ftX x l) }
theorem QNP(hx:JR x)(hl:qq l)(G:Ctx)(hrd:G.rd=none)(hG:G.n=8):Q9 (mkE Try.prog Qu) G (ftH Try.prog x C l) (Qr Try.f78):=by
 refine JM (body:=QV Try.f78 0) (QT KL) hrd (by kernel_rfl) ?_
 refine QBC (E0:=mkE Try.prog Qu) (E:=WQ Try.prog x C l) (H:=fun k=>hnd (WQ Try.prog x C l k) 0) (n0:=8) (s0:=0) (fun _=>rfl) (QJk hx hl) (by omega) (fun k _=>Q0 (QJk hx hl k) 0 G _ hrd) (fun k _=>(by decide:8≤32)) ?_ (QQw x C l hx hl) (Nat.zero_le _) ?_
 ·rintro s e J (⟨_,_,rfl⟩|⟨_,_,rfl⟩)<;>exact(by decide:8≤32)
 ·rintro e J (⟨rfl,h,rfl⟩|⟨rfl,h,rfl⟩)
  ·exact⟨_,List.mem_cons_self,h,rfl,rfl⟩
  ·exact⟨_,List.mem_cons_of_mem _ List.mem_cons_self,h,rfl,rfl⟩
def ftU:UC:=⟨0,⟨2,[(0,.ptr 3 0 0),(1,.slz 5 0 l.length (.of 0))],ftB x C l,8⟩,fun _ => .bool false (JD x l),fun _=>[]⟩
theorem QUs :VY (mkE Try.prog Qu) (ftH Try.prog x C l) Try.f78 (ftU x C l) = .ask (0=0) (.ask (0=0) (.ask (0=0) (.ask (l.length=l.length) (.ask (cO=cO) (.ask
  (i64.wrap ((l.length:Int)-1)=(l.length:Int)-1) (.ask (0=0) (.ask (x.hang.n=x.hang.n) (.ask (cO=cO) (.ask ((x.hang.n:Int)=(x.hang.n:Int))
  (.ask ((0:Int)=0) (.ask (l.length≤l.length) (.ask (QE 2 l.length (fun i=>QA.enc (l.getD i ⟨0,0⟩)) fun i=>QA.enc (l.getD i ⟨0,0⟩)) (.ask (x.d.play.length =
  x.d.play.length) (.ask (x.d.play.slack=x.d.play.slack) (.ask (x.d.play.loose=x.d.play.loose) (.ask (x.d.play.damp.lo=x.d.play.damp.lo) (.ask (x.d.play.damp.hi =
  x.d.play.damp.hi) (.ask (x.d.wide=x.d.wide) (.ask (x.d.high=x.d.high) (.ask (x.d.turn=x.d.turn) (.ask (0=0) (.ask (x.d.ps.n=x.d.ps.n) (.ask (cO=cO) (.ask (0
  = 0) (.ask (x.scans.n=x.scans.n) (.ask (cO=cO) (.ask (0=0) (.ask (x.hang.n=x.hang.n) (.ask (cO=cO) (.ask (x.lost=x.lost) (.ask (x.foreign =
  x.foreign) (.ask (0=0) (.ask (C.length=C.length) (.ask (cO=cO) (.ask (C.length=C.length) (.ask (Kv 2 C.length (fun i=>(QN C i).length) (fun i=>(QN C
  i).length) (fun i j=>QA.enc ((QN C i).getD j ⟨0,0⟩)) fun i j=>QA.enc ((QN C i).getD j ⟨0,0⟩)) (.ask (x.d.ps.n≤x.d.ps.n) (.ask (QE 28 x.d.ps.n (fun i=>QA.enc
  (x.d.ps.get i)) fun i=>QA.enc (x.d.ps.get i)) (.ask (x.scans.n≤x.scans.n) (.ask (QE 28 x.scans.n (fun i=>QA.enc (x.scans.get i)) fun i=>QA.enc (x.scans.get i))
  (.ask (x.hang.n≤x.hang.n) (.ask (QE 4 x.hang.n (fun i=>QA.enc (x.hang.get i)) fun i=>QA.enc (x.hang.get i)) (.both (.asm (JD x l=false) (.all (fun(g0:Nat →
  Value) => .leaf (.bool false false) ([])))) (.asm (JD x l=true) (.all (fun(g1:Nat→Value) => .leaf (.bool true true) ([]))))))))))))))))))))))))))))))))))))))))))))))):=by kernel_rfl
theorem QLY(c v:Bool):QM 8 [.bool c v] [] (K8 (ftU x C l))=(
  some [v=JD x l]):=by kernel_rfl
theorem QHH(hx:JR x)(hl:qq l):QQ Try.prog 78 (uFC (ftU x C l)):=by
 refine VL (E:=mkE Try.prog Qu) (QT KL) Try.func78 (by kernel_rfl) (by kernel_rfl) (vW (Nat.zero_le _) rfl rfl fun _=>rfl) (QNP x C l hx hl) ⟨?_⟩
 refine Q5 (QUs x C l) ?_;have hp:=hl.pos;have hle:=hl.le;have hw:i64.wrap ((l.length:Int)-1)=(l.length:Int)-1:=w64 (by omega) (by omega)
 repeat' first|refine QG rfl ?_|refine QU (show _=_ by with_reducible rfl) ?_|refine QU (show _≤_ from qlr _) ?_|refine QU (show QE _ _ _ _ from qRr) ?_|refine QU (show Kv _ _ _ _ _ _ from Qo _ _ _ _) ?_|refine QU (p:=i64.wrap ((l.length:Int)-1)=(l.length:Int)-1) hw ?_
 refine X0 (KB fun h=>KE fun g => ?_) (KB fun h=>KE fun g => ?_)
 ·exact⟨rfl,rfl,_,QLY x C l _ _,⟨h.symm,trivial⟩⟩
 ·exact⟨rfl,rfl,_,QLY x C l _ _,⟨h.symm,trivial⟩⟩
end Go.Proofs.Ytbpffdkemeoajaa
namespace Go.SX
open Go Go.RowKit Go.Proofs.Ytbpffdkemeoajaa
def z5(fc:FC):FC:=fun args nid _=>fc args nid (Vu (AV.idsFromL 0 args) [])
theorem QD2{P:Program}{f:FuncId}{fc:FC}(h:QQ P f fc):QQ P f (z5 fc):=
 ⟨h.1,fun args nid _ r w lk blks eff hH ha hv he hp=>h.2 args nid (Vu (AV.idsFromL 0 args) []) r w lk blks eff hH ha hv he hp⟩
end Go.SX
namespace Go.Proofs.Ytbpffdkemeoajaa
open Go.SX
def Vc:Tab:=Qh Qu 43 (z5 QBz)
theorem qn:QW Vc:=KL.add (QD2 QE8)
def Wz:QC:=⟨-2,0⟩
variable (x:QB)(C:List (List QC))(l:List QC)(k:Nat)
def Xk:List QC:=Wz::KF x.d (x.scans.get k) x.d.ps.n
def Qz(x:QB):Nat→List (List QC)
 | 0=>[]
 | k+1=>Qz x k++[Xk x k]
def srO(id c:Nat)(x:QB)(C:List (List QC)):List (Nat×Blk):=[(id,.cells 0 125 (JQ 0 x++[.slz c 0 C.length (.of 0)])),ZY true c C]
def nsJ:JSt:=⟨34,[(1,.ptr 8 0 0),(3,.ptr 16 0 0),(10,.slz 1 0 x.scans.n (.of 0)),(11,.int false .i64 x.scans.n),(12,.int false .i64 k)],[(8,.cells 0 50 (JQ 0 x))]++srO 16 24 x C++JN 0 x,40⟩
def QF3:Ex→List Nat
 | .normal=>[1,3,10,11,12]
 | .exit _=>[3]
 | .ret=>[]
def nsE:JSt:=⟨34,[(3,.ptr 16 0 0)],srO 16 24 x C++JN 0 x,40⟩
abbrev GH:List CK:=
  [.int .i64,.int .i64,.int .i64,.int .i64,.int .i64,.int .i64,.int .i64,.int .i64,.int .i64,.int .i64,.int .i64,.int .i64,.int .i64,.int .i64,.int .i64,.int .i64,.int
  .i64,.int .i64,.int .i64,.int .i64,.int .i64,.int .i64,.int .i64,.int .i64,.int .i64,.int .i64,.int .i64,.int .i64]
noncomputable abbrev QMz(x:QB):List (Nat×Blk):=
  [(8,.cells 0 50 [vi x.d.play.length,vi x.d.play.slack,vi x.d.play.loose,vi x.d.play.damp.lo,.int false .i64
  x.d.play.damp.hi,vi x.d.wide,vi x.d.high,.bool false x.d.turn,.slz 0 0 x.d.ps.n cO,.slz 1 0 x.scans.n cO,.slz 2 0 x.hang.n (Cap.of
  0),vi x.lost,vi x.foreign]),(16,.cells 0 125 [vi x.d.play.length,vi x.d.play.slack,vi x.d.play.loose,.int
  false .i64 x.d.play.damp.lo,vi x.d.play.damp.hi,vi x.d.wide,vi x.d.high,.bool false x.d.turn,.slz 0 0 x.d.ps.n cO,.slz 1 0
  x.scans.n cO,.slz 2 0 x.hang.n cO,vi x.lost,vi x.foreign,.slz 184 0 (C.length+1) cO]),(1,.frz GH x.scans.n fun i=>
  QA.enc (x.scans.get i)),(0,.frz GH x.d.ps.n fun i=>QA.enc (x.d.ps.get i)),(2,.frz [.int .i64,.int .i64,.int .i64,.int .i64] x.hang.n fun i=>QA.enc (x.hang.get
  i)),(184,.frz2 true 38 [.int .i64,.int .i64] (C.length+1) (XN C.length (fun i=>(QN C i).length) (1+(KF x.d (x.scans.get k) x.d.ps.n).length)) (X9 C.length (fun i
  j=>QA.enc ((QN C i).getD j ⟨0,0⟩)) (Qd 1 (QS [[vj (-2),vj 0]] 0) fun i=>QA.enc ((KF x.d (x.scans.get k) x.d.ps.n).getD i ⟨0,0⟩))))]
noncomputable abbrev QLT(x:QB):List (Nat×Blk):=
  [(16,.cells 0 125 [vi x.d.play.length,vi x.d.play.slack,vi x.d.play.loose,vi x.d.play.damp.lo,.int false .i64
  x.d.play.damp.hi,vi x.d.wide,vi x.d.high,.bool false x.d.turn,.slz 0 0 x.d.ps.n cO,.slz 1 0 x.scans.n cO,.slz 2 0 x.hang.n (Cap.of
  0),vi x.lost,vi x.foreign,.slz 24 0 C.length cO]),(0,.frz GH x.d.ps.n fun i=>QA.enc (x.d.ps.get i)),(1,.frz GH x.scans.n fun i=>
  QA.enc (x.scans.get i)),(2,.frz [.int .i64,.int .i64,.int .i64,.int .i64] x.hang.n fun i=>QA.enc (x.hang.get i)),(24,.frz2 true 38 [.int .i64,.int .i64] C.length (fun
  i=>(QN C i).length) fun i j=>QA.enc ((QN C i).getD j ⟨0,0⟩))]
theorem QOM(g:Nat→Value):exec (mkE Try.prog Vc) (hnd (mkE Try.prog Vc) 0) (QV Try.f75 0) (JSt.inst (nsJ x C k) g) (KH [] QF3) = .br (decide ((k:Int)<(x.scans.n:Int))) (.need (decide ((0
  : Int)≤(k:Int)∧(k:Int)<(x.scans.n:Int))&&decide (x.scans.n≤x.scans.n)) (.need (decide (k<x.scans.n)) (.need (decide (x.d.ps.n≤x.d.ps.n)&&(true&&true) &&
  decide (x.d.ps.n≤900)) (.need (true&&(decide ((KF x.d (x.scans.get k) x.d.ps.n).length≤(KF x.d (x.scans.get k) x.d.ps.n).length)&&decide ((1+(KF x.d (x.scans.get
  k) x.d.ps.n).length+(1+(KF x.d (x.scans.get k) x.d.ps.n).length) / 4+192)*16≤281474976710656∧1+(KF x.d (x.scans.get k) x.d.ps.n).length≤9223372036854775807)))
  (.need (decide (C.length=C.length)&&(decide (1+(KF x.d (x.scans.get k) x.d.ps.n).length≤1+(KF x.d (x.scans.get k) x.d.ps.n).length)&&decide ((C.length+1 +
  (C.length+1) / 4+192)*24≤281474976710656∧C.length+1≤9223372036854775807))) (.leaf (.tup [.nilp,.ptr 34 0 0,.ptr 8 0 0,.ptr 16 0 0,.slz 1 0 x.scans.n cO,
  .int false .i64 (x.scans.n:Int),vi (i64.wrap ((k:Int)+1))]) ((QMz C k x)))))))) (.leaf (.tup [.ptr 0 0 0,.ptr 34 0 0,.ptr 16 0 0]) ((QLT C x))):=by kernel_rfl
abbrev QES:List Prop:=
  [x.d.play.slack=x.d.play.slack,x.d.play.loose=x.d.play.loose,x.d.play.damp.lo=x.d.play.damp.lo,x.d.play.damp.hi=x.d.play.damp.hi,x.d.wide=x.d.wide,x.d.high =
  x.d.high,x.d.turn=x.d.turn,0=0,x.d.ps.n=x.d.ps.n,cO=cO,0=0,x.scans.n=x.scans.n,cO=cO,0=0,x.hang.n=x.hang.n,cO=cO]
abbrev QEf:List Prop:=
  [x.d.ps.n≤x.d.ps.n,QE 28 x.d.ps.n (fun i=>QA.enc (x.d.ps.get i)) fun i=>QA.enc (x.d.ps.get i),x.scans.n≤x.scans.n,QE 28 x.scans.n (fun i=>QA.enc
  (x.scans.get i)) fun i=>QA.enc (x.scans.get i),x.hang.n≤x.hang.n,QE 4 x.hang.n (fun i=>QA.enc (x.hang.get i)) fun i=>QA.enc (x.hang.get i)]
theorem QQ2(C C':List (List QC))(k k':Nat):QM 8 [.ptr 8 0 0,.ptr 16 0 0,.slz 1 0 x.scans.n cO,vi (x.scans.n:Int),vi (i64.wrap ((k:Int)+1))] ((QMz C k x)) (nsJ x C' k') =
  (some ([0=0,0=0,0=0,0=0,0=0,x.scans.n=x.scans.n,cO=cO,(x.scans.n:Int)=(x.scans.n:Int),i64.wrap ((k:Int)+1)=(k':Int),
  x.d.play.length=x.d.play.length]++(QES x)++[x.lost=x.lost,x.foreign=x.foreign,x.d.play.length=x.d.play.length]++(QES x)++[x.lost=x.lost,x.foreign=x.foreign,
  0=0,C.length+1=C'.length,cO=cO,C.length+1=C'.length,Kv 2 C'.length (XN C.length (fun i=>(QN C i).length) (1+(KF x.d (x.scans.get k)
  x.d.ps.n).length)) (fun i=>(QN C' i).length) (X9 C.length (fun i j=>QA.enc ((QN C i).getD j ⟨0,0⟩)) (Qd 1 (QS [[vj (-2),vj 0]] 0) fun i
  => QA.enc ((KF x.d (x.scans.get k) x.d.ps.n).getD i ⟨0,0⟩))) fun i j=>QA.enc ((QN C' i).getD j ⟨0,0⟩)]++(QEf x))):=by kernel_rfl
theorem QSM(C C':List (List QC)):QM 8 [.ptr 16 0 0] ((QLT C x)) (nsE x C')=(some ([0=0,0=0,x.d.play.length=x.d.play.length]++(QES x)++[x.lost=x.lost,x.foreign=x.foreign,0=0,C.length =
  C'.length,cO=cO,C.length=C'.length,Kv 2 C'.length (fun i=>(QN C i).length) (fun i=>(QN C' i).length) (fun i j=>QA.enc ((QN C i).getD j ⟨0,0⟩))
  fun i j=>QA.enc ((QN C' i).getD j ⟨0,0⟩)]++(QEf x))):=by kernel_rfl
theorem QC3(w:List QC)(i:Nat):QN (C++[w]) i=if i<C.length then QN C i else if i=C.length then w else []:=by
 unfold QN;rw[List.getD_eq_getElem?_getD,List.getD_eq_getElem?_getD]
 by_cases h:i<C.length
 ·rw[if_pos h,List.getElem?_append_left h]
 ·rw[if_neg h,List.getElem?_append_right (by omega)]
  by_cases h2:i=C.length
  ·subst h2;simp
  ·rw[if_neg h2,List.getElem?_eq_none (by simp;omega)];rfl
theorem QOo:QE 2 (1+l.length) (Qd 1 (QS [[AV.int true .i64 (-2),AV.int true .i64 0]] 0) fun i=>QA.enc (l.getD i ⟨0,0⟩)) fun i=>QA.enc ((Wz::l).getD i ⟨0,0⟩):=by
 intro i hi;cases i with
 | zero=>exact⟨rfl,rfl,trivial⟩
 | succ i=>
  refine⟨?_,?_,trivial⟩ <;>
   (show Qd 1 _ _ (i+1) _=_
    rw[XP,if_neg (by omega)]
    simp)
theorem QVJ:Kv 2 (C++[Wz::l]).length (XN C.length (fun i=>(QN C i).length) (1+l.length)) (fun i=>(QN (C++[Wz::l]) i).length)
  (X9 C.length (fun i j=>QA.enc ((QN C i).getD j ⟨0,0⟩)) (Qd 1 (QS [[AV.int true .i64 (-2),AV.int true .i64 0]] 0) fun i=>QA.enc (l.getD i ⟨0,0⟩))) (fun i j=>QA.enc ((QN (C++[Wz::l]) i).getD j ⟨0,0⟩)):=by
 intro i hi;rw[List.length_append,List.length_singleton]at hi
 by_cases h:i<C.length
 ·simp only[XN,X9,zf h,QC3,if_pos h];exact⟨trivial,qRr⟩
 ·have e:i=C.length:=by omega
  simp only[XN,X9,W6 h,QC3,if_neg h,if_pos e];refine⟨by simp;omega,?_⟩
  have:=QOo l;rw[show(Wz::l).length=1+l.length by simp;omega]
  exact this
theorem YY(x:QB):∀ k,(Qz x k).length=k
 | 0=>rfl
 | k+1=>by simp[Qz,YY x k]
theorem QW7(hn:x.d.ps.n≤900)(hs:x.scans.n≤1000):Kz (fun k=>nsJ x (Qz x k) k) (fun k=>k≤x.scans.n) (fun k=>x.scans.n-k) (fun _ e J=>e = .exit 0∧J=nsE x (Qz x x.scans.n)) 8 QF3 [] (mkE Try.prog Vc) (fun _=>hnd (mkE Try.prog Vc) 0) (QV Try.f75 0):=by
 refine⟨fun k g hk=>Q5 (QOM x _ k g) ?_⟩;have hlen:=YY x k;refine QI (fun h => ?_) (fun h => ?_)
 ·have h:k<x.scans.n:=by have:=qdt h;omega
  have hw:i64.wrap ((k:Int)+1)=((k+1:Nat):Int):=(w64 (by omega) (by omega)).trans (by omega)
  have hl:=vY x.d (x.scans.get k) x.d.ps.n;refine QG (by simp;omega) (QG (by simp;omega) (QG (by simp;omega) (QG (by simp;omega) (QG (by simp;omega) ?_))))
  refine⟨k+1,h,by show x.scans.n-(k+1)<x.scans.n-k;omega,fun _ _ h=>h,rfl,rfl,_,QQ2 x (Qz x k) (Qz x (k+1)) k (k+1),?_⟩
  have e2:(Qz x k).length+1=(Qz x (k+1)).length:=by rw[YY,YY]
  repeat' first|exact trivial|with_reducible rfl|exact qlr _|exact qRr|exact hw|exact e2|exact QVJ _ _|refine And.intro ?_ ?_
 ·have:k=x.scans.n:=by have:=of_decide_eq_false h;omega
  subst this;refine⟨_,⟨rfl,rfl⟩,rfl,rfl,_,QSM x _ _,?_⟩
  repeat' first|exact trivial|with_reducible rfl|exact qlr _|exact qRr|exact Qo _ _ _ _|refine And.intro ?_ ?_
abbrev nsH(P:Program)(x:QB)(C:List (List QC)):Hnd:={ hnd (mkE P Vc) 1 with loop:=fun _=>KD 8 [] (nsJ x [] (0:Nat)) [(True,.exit 0,nsE x C)] }
theorem QUF(hn:x.d.ps.n≤900)(hs:x.scans.n≤1000)(G:Ctx)(hrd:G.rd=none)(hG:G.n=8):Q9 (mkE Try.prog Vc) G (nsH Try.prog x (Qz x x.scans.n)) (Qr Try.f75):=by
 refine JM (body:=QV Try.f75 0) (QT qn) hrd (by kernel_rfl) ?_
 refine JE (n0:=8) (QT qn) (by omega) (fun s hs=>Q0 (QT qn) 0 G _ hrd) (fun s hs=>(by decide:8≤40)) ?_ (QW7 x hn hs) (s0:=0) (Nat.zero_le _) ?_
 ·rintro s e J ⟨_,rfl⟩;exact(by decide:8≤40)
 ·rintro e J ⟨rfl,rfl⟩;exact⟨_,List.mem_cons_self,trivial,rfl,rfl⟩
def nsU:UC:=⟨8,⟨1,[(0,.agg (JQ 0 x))],JN 0 x,8⟩,fun m => .ptr m 0 0,fun m=>srO m (m+1) x C⟩
abbrev QH9:List CK:=
  [.int .i64,.int .i64,.int .i64,.int .i64,.int .i64,.int .i64,.int .i64,.int .i64,.int .i64,.int .i64,.int .i64,.int .i64,.int .i64,.int .i64,.int .i64,.int .i64,.int
  .i64,.int .i64,.int .i64,.int .i64,.int .i64,.int .i64,.int .i64,.int .i64,.int .i64,.int .i64,.int .i64,.int .i64]
noncomputable abbrev QGD(x:QB):List (Nat×Blk):=
  [(16,.cells 0 125 [vi x.d.play.length,vi x.d.play.slack,vi x.d.play.loose,vi x.d.play.damp.lo,.int false .i64
  x.d.play.damp.hi,vi x.d.wide,vi x.d.high,.bool false x.d.turn,.slz 0 0 x.d.ps.n cO,.slz 1 0 x.scans.n cO,.slz 2 0 x.hang.n (Cap.of
  0),vi x.lost,vi x.foreign,.slz 24 0 C.length cO]),(0,.frz QH9 x.d.ps.n fun i=>QA.enc (x.d.ps.get i)),(1,.frz QH9 x.scans.n fun i=>
  QA.enc (x.scans.get i)),(2,.frz [.int .i64,.int .i64,.int .i64,.int .i64] x.hang.n fun i=>QA.enc (x.hang.get i)),(24,.frz2 true 38 [.int .i64,.int .i64] C.length (fun
  i=>(QN C i).length) fun i j=>QA.enc ((QN C i).getD j ⟨0,0⟩))]
theorem QNW :VY (mkE Try.prog Vc) (nsH Try.prog x C) Try.f75 (nsU x C) = .ask (0=0) (.ask (0=0) (.ask (0=0) (.ask (0=0) (.ask (0=0) (.ask (x.scans.n=x.scans.n) (.ask (cO
  = cO) (.ask ((x.scans.n:Int)=(x.scans.n:Int)) (.ask ((0:Int)=0) (.ask (x.d.play.length=x.d.play.length) (.ask (x.d.play.slack=x.d.play.slack) (.ask
  (x.d.play.loose=x.d.play.loose) (.ask (x.d.play.damp.lo=x.d.play.damp.lo) (.ask (x.d.play.damp.hi=x.d.play.damp.hi) (.ask (x.d.wide=x.d.wide) (.ask (x.d.high=x.d.high)
  (.ask (x.d.turn=x.d.turn) (.ask (0=0) (.ask (x.d.ps.n=x.d.ps.n) (.ask (cO=cO) (.ask (0=0) (.ask (x.scans.n=x.scans.n) (.ask (cO=cO) (.ask (0 =
  0) (.ask (x.hang.n=x.hang.n) (.ask (cO=cO) (.ask (x.lost=x.lost) (.ask (x.foreign=x.foreign) (.ask (x.d.play.length=x.d.play.length) (.ask (x.d.play.slack =
  x.d.play.slack) (.ask (x.d.play.loose=x.d.play.loose) (.ask (x.d.play.damp.lo=x.d.play.damp.lo) (.ask (x.d.play.damp.hi=x.d.play.damp.hi) (.ask (x.d.wide=x.d.wide) (.ask
  (x.d.high=x.d.high) (.ask (x.d.turn=x.d.turn) (.ask (0=0) (.ask (x.d.ps.n=x.d.ps.n) (.ask (cO=cO) (.ask (0=0) (.ask (x.scans.n=x.scans.n) (.ask (cO =
  cO) (.ask (0=0) (.ask (x.hang.n=x.hang.n) (.ask (cO=cO) (.ask (x.lost=x.lost) (.ask (x.foreign=x.foreign) (.ask (0=0) (.ask (0=0) (.ask (x.d.ps.n ≤
  x.d.ps.n) (.ask (QE 28 x.d.ps.n (fun i=>QA.enc (x.d.ps.get i)) fun i=>QA.enc (x.d.ps.get i)) (.ask (x.scans.n≤x.scans.n) (.ask (QE 28 x.scans.n (fun i=>QA.enc
  (x.scans.get i)) fun i=>QA.enc (x.scans.get i)) (.ask (x.hang.n≤x.hang.n) (.ask (QE 4 x.hang.n (fun i=>QA.enc (x.hang.get i)) fun i=>QA.enc (x.hang.get i)) (.asm
  (True) (.all (fun(g0:Nat→Value) => .leaf (.ptr 16 0 0) ((QGD C x))))))))))))))))))))))))))))))))))))))))))))))))))))))))))):=by kernel_rfl
theorem QUp :QM 8 [(.ptr 16 0 0)] ((QGD C x)) (K8 (nsU x C))=(some [0=0,0=0,x.d.play.length=x.d.play.length,x.d.play.slack=x.d.play.slack,x.d.play.loose=x.d.play.loose,
  x.d.play.damp.lo=x.d.play.damp.lo,x.d.play.damp.hi=x.d.play.damp.hi,x.d.wide=x.d.wide,x.d.high=x.d.high,x.d.turn=x.d.turn,0=0,x.d.ps.n=x.d.ps.n,cO =
  cO,0=0,x.scans.n=x.scans.n,cO=cO,0=0,x.hang.n=x.hang.n,cO=cO,x.lost=x.lost,x.foreign=x.foreign,0=0,C.length=C.length,
  cO=cO,C.length=C.length,Kv 2 C.length (fun i=>(QN C i).length) (fun i=>(QN C i).length) (fun i j=>QA.enc ((QN C i).getD j ⟨0,0⟩)) fun i j=>
  QA.enc ((QN C i).getD j ⟨0,0⟩)]):=by kernel_rfl
theorem qu(nid:Nat):JF 8 8 nid (8+k)=nid+k:=by
 have:Nat.blt (8+k) 8=false:=W6 (by omega)
 simp only[JF,this];omega
theorem qb{i:Nat}(h:i<8)(nid:Nat):JF 8 8 nid i=i:=by
 simp only[JF,zf h]
theorem QRy:(nsU x C).Ok:=by
 refine⟨(by decide:8≤8),rfl,rfl,?_,rfl,fun nid h => ?_,fun nid h => ?_⟩
 ·intro q hq;simp only[UC.po,nsU,srO,ZY,List.mem_cons,List.not_mem_nil,or_false]at hq;rcases hq with rfl|rfl
  ·exact⟨rfl,rfl,rfl,fun h=>absurd (show 8<8 from h) (by decide)⟩
  ·exact⟨rfl,rfl,rfl,fun h=>absurd (show 9<8 from h) (by decide)⟩
 ·have e0:=qu 0 nid;simp only[UC.va,nsU,AV.mapId,Nat.add_zero]at e0 ⊢;rw[e0]
 ·have e0:=qu 0 nid;have e1:=qu 1 nid;have l0:=qb (i:=0) (by decide) nid
  have l1:=qb (i:=1) (by decide) nid
  have l2:=qb (i:=2) (by decide) nid
  simp only[UC.po,nsU,srO,ZY,JQ,Q4.val,List.cons_append,List.nil_append,List.map_cons,List.map_nil,Blk.mapId,AV.mapId,AV.mapIdL,Nat.add_zero,Nat.zero_add]at e0 e1 l0 l1 l2 ⊢;rw[e0,e1,l0,l1,l2]
theorem QOa(hn:x.d.ps.n≤900)(hs:x.scans.n≤1000):QQ Try.prog 75 (uFC (nsU x (Qz x x.scans.n))):=by
 refine VL (E:=mkE Try.prog Vc) (QT qn) Try.func75 (by kernel_rfl) (by kernel_rfl) (QRy ..) (QUF x hn hs) ⟨?_⟩
 generalize Qz x x.scans.n=C;refine Q5 (QNW x C) ?_
 repeat' first|refine QG rfl ?_|refine QU (p:=_=_) rfl ?_|refine QU (p:=_≤_) (qlr _) ?_|refine QU (p:=QE _ _ _ _) (qRr) ?_|refine QU (p:=Kv _ _ _ _ _ _) (Qo _ _ _ _) ?_
 refine KB fun _=>KE fun g=>⟨rfl,rfl,_,QUp x C,?_⟩
 repeat' first|exact trivial|with_reducible rfl|exact qlr _|exact qRr|exact Qo _ _ _ _|refine And.intro ?_ ?_
end Go.Proofs.Ytbpffdkemeoajaa
