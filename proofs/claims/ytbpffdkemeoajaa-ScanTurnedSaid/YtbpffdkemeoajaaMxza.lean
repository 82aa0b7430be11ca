/- - -/
import Derived.Test.YtbpffdkemeoajaaMxz
open Go.IntKind (i64)
set_option maxRecDepth 100000
namespace Go.Proofs.Ytbpffdkemeoajaa
open Go.SX
def noH:Int→Bool:=fun _=>false
variable (x:QD)(f:Nat→Int)(l:List QC)(f':Nat→Int)(k k':Nat)
def Kn:Int:=i64.wrap (i64.wrap (1*2^min x.d.ps.n 64)-1)
def XK(pb:List Prop→Bool)(U:UC):Tab:=Qb Qy 49 (VD pb U)
def vS(pb:List Prop→Bool)(x:QD)(C:List (List QC))(U:UC):Tab:=Qb (XK pb (opO x C)) 77 (VD pb U)
theorem QWG(pb:List Prop→Bool)(x:QD)(e:Int):KY (mkE Try.prog (XK pb (opE x e))) (hnd (mkE Try.prog (XK pb (opE x e))) 1) Try.f23 (QS.vals 0 ((x,()):QD×Unit)) (QS.blks 0 ((x,()):QD×Unit)) 8 =
  QB.need (pb ([x.d.play.length = x.d.play.length, x.d.play.slack = x.d.play.slack, x.d.play.loose = x.d.play.loose, x.d.play.damp.lo = x.d.play.damp.lo, x.d.play.damp.hi = x.d.play.damp.hi, x.d.wide = x.d.wide, x.d.high = x.d.high, x.d.turn = x.d.turn, (0 : Nat) = (0 : Nat), x.d.ps.n = x.d.ps.n, Cap.of (0 : Nat) = Cap.of (0 : Nat), (0 : Nat) = (0 : Nat), x.scans.n = x.scans.n, Cap.of (0 : Nat) = Cap.of (0 : Nat), (0 : Nat) = (0 : Nat), x.hang.n = x.hang.n, Cap.of (0 : Nat) = Cap.of (0 : Nat), x.lost = x.lost, x.foreign = x.foreign, x.d.ps.n ≤ x.d.ps.n, QE (28 : Nat) x.d.ps.n (fun i => QA.enc (x.d.ps.get i)) fun i => QA.enc (x.d.ps.get i), x.scans.n ≤ x.scans.n, QE (28 : Nat) x.scans.n (fun i => QA.enc (x.scans.get i)) fun i => QA.enc (x.scans.get i), x.hang.n ≤ x.hang.n, QE (4 : Nat) x.hang.n (fun i => QA.enc (x.hang.get i)) fun i => QA.enc (x.hang.get i)])) (QB.br (e != (0 : Int)) (QB.leaf (AV.tup [AV.int true i64 (0 : Int), AV.int true i64 (0 : Int), AV.int false i64 e]) ([])) (QB.need (decide ((0 : Int) ≤ (↑x.d.ps.n : Int))) (QB.fail ("a call without a contract")))) := by kernel_rfl
theorem QPO(pb:List Prop→Bool)(x:QD)(C:List (List QC))(has':Int→Bool)(many' sure' may':Int):KY (mkE Try.prog (vS pb x C (msU x C (Kn x) (Qi Try.f53 0).1 (Qi Try.f53 0).2 [] noH 0 (Kn x) 0 has' many' sure' may'))) (hnd (mkE Try.prog (vS pb x C (msU x
  C (Kn x) (Qi Try.f53 0).1 (Qi Try.f53 0).2 [] noH 0 (Kn x) 0 has' many' sure' may'))) 8) Try.f23 (QS.vals 0 ((x,()):QD×Unit)) (QS.blks 0 ((x,()):QD ×
  Unit)) 8 = .need (pb ([x.d.play.length=x.d.play.length,x.d.play.slack=x.d.play.slack,x.d.play.loose=x.d.play.loose,x.d.play.damp.lo=x.d.play.damp.lo,x.d.play.damp.hi =
  x.d.play.damp.hi,x.d.wide=x.d.wide,x.d.high=x.d.high,x.d.turn=x.d.turn,0=0,x.d.ps.n=x.d.ps.n,cO=cO,0=0,x.scans.n=x.scans.n,cO=cO,
  0=0,x.hang.n=x.hang.n,cO=cO,x.lost=x.lost,x.foreign=x.foreign,x.d.ps.n≤x.d.ps.n,QE 28 x.d.ps.n (fun i=>QA.enc (x.d.ps.get i)) fun i=>QA.enc
  (x.d.ps.get i),x.scans.n≤x.scans.n,QE 28 x.scans.n (fun i=>QA.enc (x.scans.get i)) fun i=>QA.enc (x.scans.get i),x.hang.n≤x.hang.n,QE 4 x.hang.n (fun i=>
  QA.enc (x.hang.get i)) fun i=>QA.enc (x.hang.get i)])) (.need (decide ((0:Int)≤(x.d.ps.n:Int))) (.need (pb ([0=0,0=0,0=0,0=0,0=0,0=0,0=0,0=0,0 =
  0,0=0,0=0,0=0,([]:List MapEntry)=[],He (.int true .i64 0) noH fun i => .int false .i64 (QM [] i),LoopState.ready=LoopState.ready,(none:Option Code) =
  none,Array.mk [12]=Array.mk [12],(Qi Try.f53 0).1=(Qi Try.f53 0).1,(Qi Try.f53 0).2=(Qi Try.f53 0).2,0=0,0=0,(0:Int)=0,Fn.func 54=Fn.func 54,
  0=0,0=0,0=0,0=0,0=0,0=0,0=0,0=0,0=0,0=0,(0:Int)=0,false=false,0=0,0=0,0=0,0=0,Fn.func 76=Fn.func 76,0=0,0=0,(0:Int)=0,
  (0:Int)=0,i64.wrap (i64.wrap ((1:Int)*2^min x.d.ps.n 64)-1)=Kn x,(0:Int)=0,Fn.func 77=Fn.func 77,0=0,0=0,0=0,0=0,0=0,0=0,
  0=0,0=0,0=0,0=0,0=0,0=0,Fn.func 54=Fn.func 54,0=0,0=0,0=0,0=0,0=0,0=0,i64.wrap (i64.wrap ((1:Int)*2^min x.d.ps.n 64) -
  1)=Kn x,x.d.play.length=x.d.play.length,x.d.play.slack=x.d.play.slack,x.d.play.loose=x.d.play.loose,x.d.play.damp.lo=x.d.play.damp.lo,x.d.play.damp.hi =
  x.d.play.damp.hi,x.d.wide=x.d.wide,x.d.high=x.d.high,x.d.turn=x.d.turn,0=0,x.d.ps.n=x.d.ps.n,cO=cO,0=0,x.scans.n=x.scans.n,cO=cO,
  0=0,x.hang.n=x.hang.n,cO=cO,x.lost=x.lost,x.foreign=x.foreign,0=0,C.length=C.length,cO=cO,C.length=C.length,Ku 2 C.length
  (fun i=>(QN C i).length) (fun i=>(QN C i).length) (fun i j=>QA.enc ((QN C i).getD j ⟨0,0⟩)) fun i j=>QA.enc ((QN C i).getD j ⟨0,0⟩),x.d.ps.n≤x.d.ps.n,
  QE 28 x.d.ps.n (fun i=>QA.enc (x.d.ps.get i)) fun i=>QA.enc (x.d.ps.get i),x.scans.n≤x.scans.n,QE 28 x.scans.n (fun i=>QA.enc (x.scans.get i)) fun i=>
  QA.enc (x.scans.get i),x.hang.n≤x.hang.n,QE 4 x.hang.n (fun i=>QA.enc (x.hang.get i)) fun i=>QA.enc (x.hang.get i)])) (.br (!decide (many'>0)) (.leaf (.tup [.int
  true .i64 0,vj 0,vj 6]) ([])) (.leaf (.tup [vi sure',vi may',vj 0]) ([]))))):=by kernel_rfl
theorem QQQ(e a b c:Int):QO 8 [(AV.tup [AV.int true i64 (0:Int),AV.int true i64 (0:Int),AV.int false i64 e])] ([]) (K0 8 (.tup [vi a,vi b,vi c]) [])=(
  some [(0:Int)=a,(0:Int)=b,e=c]):=by kernel_rfl
theorem QSx(a b c:Int):QO 8 [(AV.tup [AV.int true i64 (0:Int),AV.int true i64 (0:Int),AV.int true i64 (6:Int)])] ([]) (K0 8 (.tup [vi a,vi b,vi c]) [])=(
  some [(0:Int)=a,(0:Int)=b,(6:Int)=c]):=by kernel_rfl
theorem QRq(sure' may' a b c:Int):QO 8 [(AV.tup [AV.int false i64 sure',AV.int false i64 may',AV.int true i64 (0:Int)])] ([]) (K0 8 (.tup [vi a,vi b,vi c]) [])=(
  some [sure'=a,may'=b,(0:Int)=c]):=by kernel_rfl
theorem QTS{q:Bool}{l:List QC}{c t:Nat}{y:QC}(h:y∈Vw q l c t):y∈l∨y=⟨c,t⟩:=by
 cases q with
 | true=>simpa[Vw]using h
 | false=>exact .inl h
theorem QGv{d:Puz}{s:QI}{l:List QC}{c:Nat}{y:QC}:∀{t:Nat},y∈KC d s l c t→y∈l∨∃ u,u<t∧y=⟨c,(u:Nat)⟩
 | 0,h => .inl h
 | t+1,h=>by
  simp only[KC]at h;rcases QTS h with h|h
  ·rcases QGv h with h|⟨u,h1,h2⟩
   ·exact .inl h
   ·exact .inr ⟨u,by omega,h2⟩
  ·exact .inr ⟨t,by omega,h⟩
theorem QBZ{d:Puz}{s:QI}{y:QC}:∀{c:Nat},y∈Q8 d s c→∃ k u:Nat,k<c∧u<4∧y=⟨(k:Nat),(u:Nat)⟩
 | 0,h=>by cases h
 | c+1,h=>by
  simp only[Q8]at h;rcases QGv h with h|⟨u,h1,h2⟩
  ·obtain⟨k,u,a,b,e⟩:=QBZ h;exact⟨k,u,by omega,b,e⟩
  ·exact⟨c,u,by omega,h1,h2⟩
theorem QRw{x:QD}(hn:x.d.ps.n≤9){k:Nat}{y:QC}(h:y∈YM x k):JW y:=by
 simp only[YM,List.mem_cons]at h;rcases h with rfl|h
 ·exact⟨.inl rfl,by decide⟩
 ·obtain⟨c,u,h1,h2,rfl⟩:=QBZ h;exact⟨.inr ⟨by simp only;omega,by simp only;omega⟩,by simp only;omega,by simp only;omega⟩
theorem Wm{x:QD}:∀{k i:Nat},i<k→QN (Qw x k) i=YM x i
 | k+1,i,h=>by
  rw[Qw,QDh,Yd]
  by_cases e:i<k
  ·rw[if_pos e];exact Wm e
  ·have:i=k:=by omega
   subst this;rw[if_neg e,if_pos rfl]
theorem QBT{C:List (List QC)}{i:Nat}(h:C.length≤i):QN C i=[]:=by
 unfold QN;rw[List.getD_eq_getElem?_getD,List.getElem?_eq_none h];rfl
theorem QLQ{x:QD}(hn:x.d.ps.n≤9):Z3 x (Qw x x.scans.n):=by
 refine⟨Yd _ _,fun i => ?_,fun i c hc => ?_⟩
 ·by_cases h:i<x.scans.n
  ·rw[Wm h];have:=jv x.d (x.scans.get i) x.d.ps.n;simp only[YM,List.length_cons];omega
  ·rw[QBT (by rw[Yd];omega)];simp
 ·by_cases h:i<x.scans.n
  ·rw[Wm h]at hc;exact QRw hn hc
  ·rw[QBT (by rw[Yd];omega)]at hc;cases hc
theorem QKb(b:Bool):He (.int b .i64 0) noH (XG []):=⟨rfl,fun _=>rfl,fun _=>⟨fun _=>rfl,rfl⟩⟩
def miS:Res MsS:=onT x (Qw x x.scans.n) (msY (Kn x)) x.scans.n [] (0,Kn x,0) noH
def miV:Int×Int×Int:=match x.ok with
 | false=>(0,0,1)
 | true=>match K7 x with
  | true=>(0,0,11)
  | false=>match miS x with
   | .stop _ _=>(0,0,6)
   | .go s _=>match decide (s.1>0)with
    | true=>(s.2.1,s.2.2,0)
    | false=>(0,0,6)
def miF:WF (QD×Unit):=fun|(x,_)=>(decide (x.d.ps.n≤1000∧x.scans.n≤1000∧x.hang.n≤1000),.tup [.int false .i64 (miV x).1,.int false .i64 (miV x).2.1,.int false .i64 (miV x).2.2],[])
def miC:FC:=wFC miF
theorem QLH(e:Int)(ht:QQ Try.prog 49 (uFC (opE x e)))(he:e≠0)(hv:miV x=(0,0,e)):QQ Try.prog 23 (wFC (XA miF (x,()))):=by
 have hT:QV (XK Qx (opE x e)):=KK.add ht;refine jw (c:=Qq Try.f23) (E:=mkE Try.prog (XK Qx (opE x e))) (H:=hnd (mkE Try.prog (XK Qx (opE x e))) 1) (QR hT) Try.func23 (by kernel_rfl) (by kernel_rfl) (N:=8) (by decide) (x,()) (fun G h1 _=>Qv (QR hT) 1 G _ h1) ⟨rfl,by simp[miF],rfl⟩ ?_
 refine KF (QWG Qx x e) ?_;refine QF (JS.2 ?_) (QK (fun _ => ?_) (fun h=>by simp at h;exact absurd h he))
 ·repeat' first|with_reducible refine Qc ?_ ?_|exact trivial|with_reducible rfl|exact qlr _|exact qRr|refine And.intro ?_ ?_
 ·refine⟨rfl,rfl,_,QQQ e (miV x).1 (miV x).2.1 (miV x).2.2,?_⟩;rw[hv];exact⟨rfl,rfl,rfl,trivial⟩
theorem QUU(hs:Zq x)(hx:x.ok=true)(hr:K7 x=false):QQ Try.prog 23 (wFC (XA miF (x,()))):=by
 have hg:=JU hx;have hC:=QLQ (x:=x) hg.d.n9;obtain⟨s,h,he⟩:=Z1 (C:=Qw x x.scans.n) (x:=x) (Y:=msY (Kn x)) (fun _ _=>rfl) x.scans.n [] (0,Kn x,0) noH;have hon:=QKd hg hC (Kn x) x.scans.n [] (0,Kn x,0) noH (by simp) (fun c hc=>by cases hc)
 rw[he]at hon;have hT:QV (vS Qx x (Qw x x.scans.n) (msU x (Qw x x.scans.n) (Kn x) XP XW [] noH 0 (Kn x) 0 h s.1 s.2.1 s.2.2)):=(KK.add (QHU x hs hx hr)).add hon
 have hv:miV x=match decide (s.1>0)with
   | true=>(s.2.1,s.2.2,0)
   | false=>(0,0,6):=by
  simp only[miV,hx,hr,miS,he]
 refine jw (c:=Qq Try.f23) (E:=mkE Try.prog (vS Qx x (Qw x x.scans.n) (msU x (Qw x x.scans.n) (Kn x) XP XW [] noH 0 (Kn x) 0 h s.1 s.2.1 s.2.2))) (H:=hnd (mkE Try.prog (vS Qx x (Qw x x.scans.n) (msU x (Qw x x.scans.n) (Kn x) XP XW [] noH 0 (Kn x) 0 h s.1 s.2.1 s.2.2))) 8) (QR hT) Try.func23 (by kernel_rfl) (by kernel_rfl) (N:=8) (by decide) (x,()) (fun G h1 _=>Qv (QR hT) 8 G _ h1) ⟨rfl,by simp[miF],rfl⟩ ?_
 refine KF (QPO Qx x (Qw x x.scans.n) h s.1 s.2.1 s.2.2) ?_;refine QF (JS.2 ?_) (QF (by simp) (QF (JS.2 ?_) (QK (fun q => ?_) (fun q => ?_))))
 ·repeat' first|with_reducible refine Qc ?_ ?_|exact trivial|with_reducible rfl|exact qlr _|exact qRr|exact Q0 _ _ _ _|refine And.intro ?_ ?_
 ·repeat' first|with_reducible refine Qc ?_ ?_|exact trivial|with_reducible rfl|exact qlr _|exact qRr|exact Q0 _ _ _ _|exact QKb _|exact(show _=Kn _ from rfl)|refine And.intro ?_ ?_
 ·have q:decide (s.1>0)=false:=by simpa using q
  refine⟨rfl,rfl,_,QSx (miV x).1 (miV x).2.1 (miV x).2.2,?_⟩;rw[hv,q];exact⟨rfl,rfl,rfl,trivial⟩
 ·have q:decide (s.1>0)=true:=by simpa using q
  refine⟨rfl,rfl,_,QRq s.2.1 s.2.2 (miV x).1 (miV x).2.1 (miV x).2.2,?_⟩;rw[hv,q];exact⟨rfl,rfl,rfl,trivial⟩
theorem QSW(hx:(miF (x,())).1=true):QQ Try.prog 23 (wFC (XA miF (x,()))):=by
 obtain⟨h1,h2,h3⟩:=qdt hx;have hs:Zq x:=⟨h1,h2,h3⟩;cases ho:x.ok with
 | false=>exact QLH x 1 (QJO x hs ho) (by decide) (by simp only[miV,ho])
 | true=>cases hr:K7 x with
  | true=>exact QLH x 11 (QLM x hs ho hr) (by decide) (by simp only[miV,ho,hr])
  | false=>exact QUU x hs ho hr
theorem QR0:QQ Try.prog 23 miC:=QBl (by kernel_rfl) fun|(x,()),hx=>QSW x hx
theorem QIz{σ:Type}{G:σ→Prop}{f:σ→(Int→Bool)→QC→Res σ}(hf:∀ s h c s' h',G s→f s h c = .go s' h'→G s'):∀(l:List QC) (s:σ) (h:Int→Bool) {s':σ} {h':Int→Bool},G s→Jp f l s h = .go s' h'→G s'
 | [],s,h,s',h',hg,e=>by cases e;exact hg
 | c::l,s,h,s',h',hg,e=>by
  rw[Jp]at e;split at e
  ·rename_i s1 h1 e1;exact QIz hf l s1 h1 (hf _ _ _ _ _ hg e1) e
  ·cases e
theorem QFK{σ:Type}{x:QD}{C:List (List QC)}{Y:σ→List QC→σ×Bool}{G:σ→Prop}(hY:∀ s l,G s→l.length=x.scans.n→G (Y s l).1):∀(d:Nat) (l:List QC) (s:σ) (h:Int→Bool) {s':σ} {h':Int→Bool},l.length+d=x.scans.n→G s→onT x C Y d l s h = .go s' h'→G s'
 | 0,l,s,h,s',h',hn,hg,e=>by
  rw[onT,X2]at e;split at e
  ·cases e;exact hg
  ·have hy:=hY s l hg (by omega)
   split at e
   ·rename_i e1;rw[e1]at hy;cases e;exact hy
   ·cases e
 | d+1,l,s,h,s',h',hn,hg,e=>by
  rw[onT]at e;refine QIz (G:=G) (fun s h c s' h' hg e => ?_) _ s h hg e;unfold Jf at e;split at e
  ·cases e;exact hg
  ·split at e
   ·cases e;exact hg
   ·split at e
    ·rename_i e1;cases e;exact QFK hY d (l++[c]) s _ (by simp;omega) hg e1
    ·cases e
def WE:List AV:=[.int false .i64 (f 0),.int false .i64 (f 1),.int false .i64 (f 2),.int false .i64 (f 3),.int false .i64 (f 4),.int false .i64 (f 5),.int false .i64 (f 6),.int false .i64 (f 7),.int false .i64 (f 8),.int false .i64 (f 9),.int false .i64 (f 10),.int false .i64 (f 11),.int false .i64 (f 12)]
def QAD:List AV:=[.int true .i64 0,.int true .i64 0,.int true .i64 0,.int true .i64 0,.int true .i64 0,.int true .i64 0,.int true .i64 0,.int true .i64 0,.int true .i64 0,.int true .i64 0,.int true .i64 0,.int true .i64 0,.int true .i64 0]
def pmB:List (Nat×Blk):=[(200,.frz [.int .i64,.int .i64] l.length fun i=>QA.enc (l.getD i ⟨0,0⟩))]
def pmJ(f:Nat→Int)(k:Nat):JSt:=⟨33,[(2,.ptr 208 0 0),(4,.ptr 216 0 0),(8,.slz 200 0 l.length (.of 0)),(9,.int false .i64 l.length),(10,.int false .i64 k)],[(216,.cells 1 95 QAD),(208,.cells 1 95 (WE f))]++pmB l,248⟩
def pmE:JSt:=⟨33,[(2,.ptr 208 0 0),(4,.ptr 216 0 0)],[(216,.cells 1 95 QAD),(208,.cells 1 95 (WE f))],248⟩
def QHL:Ex→List Nat
 | .normal=>[2,4,8,9,10]
 | .exit _=>[2,4]
 | .ret=>[]
noncomputable abbrev Kv(l:List QC):List AV:=
  [.nilp,.ptr 33 0 0,.ptr 208 0 0,.ptr 216 0 0,.slz 200 0 l.length cO,vi (l.length:Int),vi (i64.wrap ((k:Int)+1))]
noncomputable abbrev VP:Nat×Blk:=
  (216,.cells 1 95 [vj 0,vj 0,vj 0,vj 0,vj 0,vj 0,vj 0,vj 0,vj 0,
  .int true .i64 0,vj 0,vj 0,vj 0])
noncomputable abbrev Vy:Nat×Blk:=
  (200,.frz [.int .i64,.int .i64] l.length fun i=>QA.enc (l.getD i ⟨0,0⟩))
noncomputable abbrev Vj(l:List QC):List (Nat×Blk):=
  [(208,.cells 1 95 [vi (f 0),vi (f 1),vi (f 2),vi (f 3),vi (f 4),vi (f 5),vi (f 6),
  .int false .i64 (f 7),vi (f 8),vi (f 9),vi (f 10),vi (f 11),vi (i64.wrap (↑(BitVec.ofInt 64 (f 12) |||
  BitVec.ofInt 64 (i64.wrap ((1:Int)*2^min k 64))).toNat:Int))]),VP,(Vy l)]
noncomputable abbrev QHD(l:List QC):List (Nat×Blk):=
  [(208,.cells 1 95 [vi (i64.wrap (↑(BitVec.ofInt 64 (f 0) ||| BitVec.ofInt 64 (i64.wrap ((1:Int)*2^min (l.getD k ⟨0,0⟩).cell.toNat 64))).toNat :
  Int)),vi (f 1),vi (f 2),vi (f 3),vi (f 4),vi (f 5),vi (f 6),vi (f 7),.int false
  .i64 (f 8),vi (f 9),vi (f 10),vi (f 11),vi (f 12)]),VP,(Vy l)]
noncomputable abbrev QLx(l:List QC):List (Nat×Blk):=
  [(208,.cells 1 95 [vi (f 0),vi (i64.wrap (↑(BitVec.ofInt 64 (f 1) ||| BitVec.ofInt 64 (i64.wrap ((1:Int)*2^min (l.getD k ⟨0,
  0⟩).cell.toNat 64))).toNat:Int)),vi (f 2),vi (f 3),vi (f 4),vi (f 5),vi (f 6),vi (f 7),.int
  false .i64 (f 8),vi (f 9),vi (f 10),vi (f 11),vi (f 12)]),VP,(Vy l)]
noncomputable abbrev QLs(l:List QC):List (Nat×Blk):=
  [(208,.cells 1 95 [vi (f 0),vi (f 1),vi (i64.wrap (↑(BitVec.ofInt 64 (f 2) ||| BitVec.ofInt 64 (i64.wrap ((1:Int)*2 ^
  min (l.getD k ⟨0,0⟩).cell.toNat 64))).toNat:Int)),vi (f 3),vi (f 4),vi (f 5),vi (f 6),vi (f 7),.int false
  .i64 (f 8),vi (f 9),vi (f 10),vi (f 11),vi (f 12)]),VP,(Vy l)]
noncomputable abbrev QMP(l:List QC):List (Nat×Blk):=
  [(208,.cells 1 95 [vi (f 0),vi (f 1),vi (f 2),vi (i64.wrap (↑(BitVec.ofInt 64 (f 3) ||| BitVec.ofInt 64
  (i64.wrap ((1:Int)*2^min (l.getD k ⟨0,0⟩).cell.toNat 64))).toNat:Int)),vi (f 4),vi (f 5),vi (f 6),vi (f 7),
  .int false .i64 (f 8),vi (f 9),vi (f 10),vi (f 11),vi (f 12)]),VP,(Vy l)]
noncomputable abbrev QLr(l:List QC):List (Nat×Blk):=
  [(208,.cells 1 95 [vi (f 0),vi (f 1),vi (f 2),vi (f 3),vi (i64.wrap (↑(BitVec.ofInt 64 (f 4) |||
  BitVec.ofInt 64 (i64.wrap ((1:Int)*2^min (l.getD k ⟨0,0⟩).cell.toNat 64))).toNat:Int)),vi (f 5),vi (f 6),vi (f 7),.int
  false .i64 (f 8),vi (f 9),vi (f 10),vi (f 11),vi (f 12)]),VP,(Vy l)]
noncomputable abbrev QI1(l:List QC):List (Nat×Blk):=
  [(208,.cells 1 95 [vi (f 0),vi (f 1),vi (f 2),vi (f 3),vi (f 4),vi (i64.wrap
  (↑(BitVec.ofInt 64 (f 5) ||| BitVec.ofInt 64 (i64.wrap ((1:Int)*2^min (l.getD k ⟨0,0⟩).cell.toNat 64))).toNat:Int)),vi (f 6),vi (f 7),
  .int false .i64 (f 8),vi (f 9),vi (f 10),vi (f 11),vi (f 12)]),VP,(Vy l)]
noncomputable abbrev QLD(l:List QC):List (Nat×Blk):=
  [(208,.cells 1 95 [vi (f 0),vi (f 1),vi (f 2),vi (f 3),vi (f 4),vi (f 5),.int false .i64
  (i64.wrap (↑(BitVec.ofInt 64 (f 6) ||| BitVec.ofInt 64 (i64.wrap ((1:Int)*2^min (l.getD k ⟨0,0⟩).cell.toNat 64))).toNat:Int)),vi (f 7),.int
  false .i64 (f 8),vi (f 9),vi (f 10),vi (f 11),vi (f 12)]),VP,(Vy l)]
noncomputable abbrev QMV(l:List QC):List (Nat×Blk):=
  [(208,.cells 1 95 [vi (f 0),vi (f 1),vi (f 2),vi (f 3),vi (f 4),vi (f 5),vi (f 6),
  .int false .i64 (i64.wrap (↑(BitVec.ofInt 64 (f 7) ||| BitVec.ofInt 64 (i64.wrap ((1:Int)*2^min (l.getD k ⟨0,0⟩).cell.toNat 64))).toNat:Int)),.int false
  .i64 (f 8),vi (f 9),vi (f 10),vi (f 11),vi (f 12)]),VP,(Vy l)]
noncomputable abbrev QE1(l:List QC):List (Nat×Blk):=
  [(208,.cells 1 95 [vi (f 0),vi (f 1),vi (f 2),vi (f 3),vi (f 4),vi (f 5),vi (f 6),
  .int false .i64 (f 7),vi (i64.wrap (↑(BitVec.ofInt 64 (f 8) ||| BitVec.ofInt 64 (i64.wrap ((1:Int)*2^min (l.getD k ⟨0,0⟩).cell.toNat 64))).toNat
  : Int)),vi (f 9),vi (f 10),vi (f 11),vi (f 12)]),VP,(Vy l)]
noncomputable abbrev QEs(l:List QC):List (Nat×Blk):=
  [(208,.cells 1 95 [vi (f 0),vi (f 1),vi (f 2),vi (f 3),vi (f 4),vi (f 5),vi (f 6),
  .int false .i64 (f 7),vi (f 8),vi (i64.wrap (↑(BitVec.ofInt 64 (f 9) ||| BitVec.ofInt 64 (i64.wrap ((1:Int)*2^min (l.getD k ⟨0,
  0⟩).cell.toNat 64))).toNat:Int)),vi (f 10),vi (f 11),vi (f 12)]),VP,(Vy l)]
noncomputable abbrev QMA(l:List QC):Int:=
  (↑(BitVec.ofInt 64 (f 10) ||| BitVec.ofInt 64 (i64.wrap ((1:Int)*2^min (l.getD k ⟨0,0⟩).cell.toNat 64))).toNat:Int)
noncomputable abbrev QIe(l:List QC):List (Nat×Blk):=
  [(208,.cells 1 95 [vi (f 0),vi (f 1),vi (f 2),vi (f 3),vi (f 4),vi (f 5),vi (f 6),
  .int false .i64 (f 7),vi (f 8),vi (f 9),vi (i64.wrap (QMA f k l)),vi (f 11),vi (f 12)]),VP,(Vy
  l)]
noncomputable abbrev QFB(l:List QC):Int:=
  (↑(BitVec.ofInt 64 (f 11) ||| BitVec.ofInt 64 (i64.wrap ((1:Int)*2^min (l.getD k ⟨0,0⟩).cell.toNat 64))).toNat:Int)
noncomputable abbrev QJi(l:List QC):List (Nat×Blk):=
  [(208,.cells 1 95 [vi (f 0),vi (f 1),vi (f 2),vi (f 3),vi (f 4),vi (f 5),vi (f 6),
  .int false .i64 (f 7),vi (f 8),vi (f 9),vi (f 10),vi (i64.wrap (QFB f k l)),vi (f 12)]),VP,(Vy
  l)]
noncomputable abbrev QGM:List (Nat×Blk):=
  [(208,.cells 1 95 [vi (f 0),vi (f 1),vi (f 2),vi (f 3),vi (f 4),vi (f 5),vi (f 6),
  .int false .i64 (f 7),vi (f 8),vi (f 9),vi (f 10),vi (f 11),vi (f 12)]),VP]
theorem QTw(f:Nat→Int)(k:Nat)(g:Nat→Value):exec (mkF Try.prog Qy) (hnd (mkF Try.prog Qy) 3) (QZ Try.f51 0) (JSt.inst (pmJ l f k) g) (KW [] QHL) = .br (decide ((k:Int)<(l.length:Int))) (.need (decide
  ((0:Int)≤(k:Int)∧(k:Int)<(l.length:Int))&&decide (l.length≤l.length)) (.need (decide (k<l.length)) (.need (decide ((0:Int)≤(k:Int)∧(k:Int)<12)) (.br
  (decide ((k:Int)=0)) (.br ((l.getD k ⟨0,0⟩).cell == -2) (.need (decide ((0:Int)≤(k:Int))) (.leaf (.tup (Kv k l)) ((Vj f k l)))) (.need (decide ((0:Int)≤(l.getD k
  ⟨0,0⟩).cell)) (.leaf (.tup (Kv k l)) ((QHD f k l))))) (.br (decide ((k:Int)=1)) (.br ((l.getD k ⟨0,0⟩).cell == -2) (.need (decide ((0:Int)≤(k:Int))) (.leaf (.tup
  (Kv k l)) ((Vj f k l)))) (.need (decide ((0:Int)≤(l.getD k ⟨0,0⟩).cell)) (.leaf (.tup (Kv k l)) ((QLx f k l))))) (.br (decide ((k:Int)=2)) (.br ((l.getD k ⟨0,
  0⟩).cell == -2) (.need (decide ((0:Int)≤(k:Int))) (.leaf (.tup (Kv k l)) ((Vj f k l)))) (.need (decide ((0:Int)≤(l.getD k ⟨0,0⟩).cell)) (.leaf (.tup (Kv k l))
  ((QLs f k l))))) (.br (decide ((k:Int)=3)) (.br ((l.getD k ⟨0,0⟩).cell == -2) (.need (decide ((0:Int)≤(k:Int))) (.leaf (.tup (Kv k l)) ((Vj f k l)))) (.need (decide
  ((0:Int)≤(l.getD k ⟨0,0⟩).cell)) (.leaf (.tup (Kv k l)) ((QMP f k l))))) (.br (decide ((k:Int)=4)) (.br ((l.getD k ⟨0,0⟩).cell == -2) (.need (decide ((0:Int)≤(k :
  Int))) (.leaf (.tup (Kv k l)) ((Vj f k l)))) (.need (decide ((0:Int)≤(l.getD k ⟨0,0⟩).cell)) (.leaf (.tup (Kv k l)) ((QLr f k l))))) (.br (decide ((k:Int)=5)) (.br
  ((l.getD k ⟨0,0⟩).cell == -2) (.need (decide ((0:Int)≤(k:Int))) (.leaf (.tup (Kv k l)) ((Vj f k l)))) (.need (decide ((0:Int)≤(l.getD k ⟨0,0⟩).cell)) (.leaf (.tup
  (Kv k l)) ((QI1 f k l))))) (.br (decide ((k:Int)=6)) (.br ((l.getD k ⟨0,0⟩).cell == -2) (.need (decide ((0:Int)≤(k:Int))) (.leaf (.tup (Kv k l)) ((Vj f k l))))
  (.need (decide ((0:Int)≤(l.getD k ⟨0,0⟩).cell)) (.leaf (.tup (Kv k l)) ((QLD f k l))))) (.br (decide ((k:Int)=7)) (.br ((l.getD k ⟨0,0⟩).cell == -2) (.need (decide ((0
  : Int)≤(k:Int))) (.leaf (.tup (Kv k l)) ((Vj f k l)))) (.need (decide ((0:Int)≤(l.getD k ⟨0,0⟩).cell)) (.leaf (.tup (Kv k l)) ((QMV f k l))))) (.br (decide ((k :
  Int)=8)) (.br ((l.getD k ⟨0,0⟩).cell == -2) (.need (decide ((0:Int)≤(k:Int))) (.leaf (.tup (Kv k l)) ((Vj f k l)))) (.need (decide ((0:Int)≤(l.getD k ⟨0,0⟩).cell))
  (.leaf (.tup (Kv k l)) ((QE1 f k l))))) (.br (decide ((k:Int)=9)) (.br ((l.getD k ⟨0,0⟩).cell == -2) (.need (decide ((0:Int)≤(k:Int))) (.leaf (.tup (Kv k l)) ((Vj
  f k l)))) (.need (decide ((0:Int)≤(l.getD k ⟨0,0⟩).cell)) (.leaf (.tup (Kv k l)) ((QEs f k l))))) (.br (decide ((k:Int)=10)) (.br ((l.getD k ⟨0,0⟩).cell == -2) (.need
  (decide ((0:Int)≤(k:Int))) (.leaf (.tup (Kv k l)) ((Vj f k l)))) (.need (decide ((0:Int)≤(l.getD k ⟨0,0⟩).cell)) (.leaf (.tup (Kv k l)) ((QIe f k l))))) (.br
  ((l.getD k ⟨0,0⟩).cell == -2) (.need (decide ((0:Int)≤(k:Int))) (.leaf (.tup (Kv k l)) ((Vj f k l)))) (.need (decide ((0:Int)≤(l.getD k ⟨0,0⟩).cell)) (.leaf (.tup
  (Kv k l)) ((QJi f k l))))))))))))))))))) (.leaf (.tup [.ptr 0 0 0,.ptr 33 0 0,.ptr 208 0 0,.ptr 216 0 0]) ((QGM f))):=by kernel_rfl
noncomputable abbrev Vz(l:List QC):List AV:=
  [.ptr 208 0 0,.ptr 216 0 0,.slz 200 0 l.length cO,vi (l.length:Int),vi (i64.wrap ((k:Int)+1))]
abbrev Vn(l:List QC):List Prop:=
  [0=0,0=0,0=0,0=0,l.length=l.length,cO=cO,(l.length:Int)=(l.length:Int),i64.wrap ((k:Int)+1)=(k':Int)]
abbrev VV:List Prop:=
  [(0:Int)=0,(0:Int)=0,(0:Int)=0,(0:Int)=0,(0:Int)=0,(0:Int)=0,(0:Int)=0,(0:Int)=0]
abbrev Ve:List Prop:=
  [(0:Int)=0,(0:Int)=0,(0:Int)=0,(0:Int)=0]
abbrev WO:List Prop:=
  [(0:Int)=0,f 0=f' 0,f 1=f' 1,f 2=f' 2,f 3=f' 3,f 4=f' 4,f 5=f' 5,f 6=f' 6]
abbrev QDc:List Prop:=
  [f 7=f' 7,f 8=f' 8,f 9=f' 9,f 10=f' 10]
theorem XN(f f':Nat→Int)(k k':Nat):QO 208 (Vz k l) ((Vj f k l)) (pmJ l f' k')=(some ([0=0]++(Vn k k' l)++VV++Ve++(WO f f')++(QDc f f')++[f 11=f' 11,i64.wrap
  (↑(BitVec.ofInt 64 (f 12) ||| BitVec.ofInt 64 (i64.wrap ((1:Int)*2^min k 64))).toNat:Int)=f' 12,l.length≤l.length,QE 2 l.length (fun i=>QA.enc (l.getD
  i ⟨0,0⟩)) fun i=>QA.enc (l.getD i ⟨0,0⟩)])):=by kernel_rfl
abbrev jx:List Prop:=
  [f 5=f' 5,f 6=f' 6,f 7=f' 7,f 8=f' 8,f 9=f' 9]
abbrev Xv(l:List QC):List Prop:=
  [f 10=f' 10,f 11=f' 11,f 12=f' 12,l.length≤l.length,QE 2 l.length (fun i=>QA.enc (l.getD i ⟨0,0⟩)) fun i=>QA.enc (l.getD i ⟨0,0⟩)]
theorem QNp(f f':Nat→Int)(k k':Nat):QO 208 (Vz k l) ((QHD f k l)) (pmJ l f' k')=(some ([0=0]++(Vn k k' l)++VV++Ve++[(0:Int)=0,i64.wrap (↑(BitVec.ofInt 64 (f 0) ||| BitVec.ofInt
  64 (i64.wrap ((1:Int)*2^min (l.getD k ⟨0,0⟩).cell.toNat 64))).toNat:Int)=f' 0,f 1=f' 1,f 2=f' 2,f 3=f' 3,f 4=f' 4]++(jx f f')++(Xv f f' l))):=by kernel_rfl
theorem QOT(f f':Nat→Int)(k k':Nat):QO 208 (Vz k l) ((QLx f k l)) (pmJ l f' k')=(some ([0=0]++(Vn k k' l)++VV++Ve++[(0:Int)=0,f 0=f' 0,i64.wrap (↑(BitVec.ofInt 64 (f 1) |||
  BitVec.ofInt 64 (i64.wrap ((1:Int)*2^min (l.getD k ⟨0,0⟩).cell.toNat 64))).toNat:Int)=f' 1,f 2=f' 2,f 3=f' 3,f 4=f' 4]++(jx f f')++(Xv f f'
  l))):=by kernel_rfl
theorem QNt(f f':Nat→Int)(k k':Nat):QO 208 (Vz k l) ((QLs f k l)) (pmJ l f' k')=(some ([0=0]++(Vn k k' l)++VV++Ve++[(0:Int)=0,f 0=f' 0,f 1=f' 1,i64.wrap (↑(BitVec.ofInt 64
  (f 2) ||| BitVec.ofInt 64 (i64.wrap ((1:Int)*2^min (l.getD k ⟨0,0⟩).cell.toNat 64))).toNat:Int)=f' 2,f 3=f' 3,f 4=f' 4]++(jx f f')++(Xv f f' l))):=by kernel_rfl
abbrev zo:List Prop:=
  [(0:Int)=0,f 0=f' 0,f 1=f' 1,f 2=f' 2]
theorem QVH(f f':Nat→Int)(k k':Nat):QO 208 (Vz k l) ((QMP f k l)) (pmJ l f' k')=(some ([0=0]++(Vn k k' l)++VV++Ve++(zo f f')++[i64.wrap (↑(BitVec.ofInt 64 (f 3) ||| BitVec.ofInt
  64 (i64.wrap ((1:Int)*2^min (l.getD k ⟨0,0⟩).cell.toNat 64))).toNat:Int)=f' 3,f 4=f' 4]++(jx f f')++(Xv f f' l))):=by kernel_rfl
theorem QRR(f f':Nat→Int)(k k':Nat):QO 208 (Vz k l) ((QLr f k l)) (pmJ l f' k')=(some ([0=0]++(Vn k k' l)++VV++Ve++(zo f f')++[f 3=f' 3,i64.wrap (↑(BitVec.ofInt 64 (f 4) |||
  BitVec.ofInt 64 (i64.wrap ((1:Int)*2^min (l.getD k ⟨0,0⟩).cell.toNat 64))).toNat:Int)=f' 4]++(jx f f')++(Xv f f' l))):=by kernel_rfl
theorem QRr(f f':Nat→Int)(k k':Nat):QO 208 (Vz k l) ((QI1 f k l)) (pmJ l f' k')=(some ([0=0]++(Vn k k' l)++VV++Ve++(zo f f')++[f 3=f' 3,f 4=f' 4,i64.wrap (↑(BitVec.ofInt
  64 (f 5) ||| BitVec.ofInt 64 (i64.wrap ((1:Int)*2^min (l.getD k ⟨0,0⟩).cell.toNat 64))).toNat:Int)=f' 5,f 6=f' 6,f 7=f' 7,f 8=f' 8,f 9=f' 9]++(Xv
  f f' l))):=by kernel_rfl
theorem QUQ(f f':Nat→Int)(k k':Nat):QO 208 (Vz k l) ((QLD f k l)) (pmJ l f' k')=(some ([0=0]++(Vn k k' l)++VV++Ve++(zo f f')++[f 3=f' 3,f 4=f' 4,f 5=f' 5,i64.wrap
  (↑(BitVec.ofInt 64 (f 6) ||| BitVec.ofInt 64 (i64.wrap ((1:Int)*2^min (l.getD k ⟨0,0⟩).cell.toNat 64))).toNat:Int)=f' 6,f 7=f' 7,f 8=f' 8,f 9=f' 9] ++
  (Xv f f' l))):=by kernel_rfl
theorem QP9(f f':Nat→Int)(k k':Nat):QO 208 (Vz k l) ((QMV f k l)) (pmJ l f' k')=(some ([0=0]++(Vn k k' l)++VV++Ve++(WO f f')++[i64.wrap (↑(BitVec.ofInt 64 (f 7) |||
  BitVec.ofInt 64 (i64.wrap ((1:Int)*2^min (l.getD k ⟨0,0⟩).cell.toNat 64))).toNat:Int)=f' 7,f 8=f' 8,f 9=f' 9]++(Xv f f' l))):=by kernel_rfl
theorem QOs(f f':Nat→Int)(k k':Nat):QO 208 (Vz k l) ((QE1 f k l)) (pmJ l f' k')=(some ([0=0]++(Vn k k' l)++VV++Ve++(WO f f')++[f 7=f' 7,i64.wrap (↑(BitVec.ofInt 64 (f 8) |||
  BitVec.ofInt 64 (i64.wrap ((1:Int)*2^min (l.getD k ⟨0,0⟩).cell.toNat 64))).toNat:Int)=f' 8,f 9=f' 9]++(Xv f f' l))):=by kernel_rfl
theorem QSt(f f':Nat→Int)(k k':Nat):QO 208 (Vz k l) ((QEs f k l)) (pmJ l f' k')=(some ([0=0]++(Vn k k' l)++VV++Ve++(WO f f')++[f 7=f' 7,f 8=f' 8,i64.wrap (↑(BitVec.ofInt
  64 (f 9) ||| BitVec.ofInt 64 (i64.wrap ((1:Int)*2^min (l.getD k ⟨0,0⟩).cell.toNat 64))).toNat:Int)=f' 9]++(Xv f f' l))):=by kernel_rfl
theorem QWL(f f':Nat→Int)(k k':Nat):QO 208 (Vz k l) ((QIe f k l)) (pmJ l f' k')=(some ([0=0]++(Vn k k' l)++VV++Ve++(WO f f')++[f 7=f' 7,f 8=f' 8,f 9=f' 9,i64.wrap
  (QMA f k l)=f' 10,f 11=f' 11,f 12=f' 12,l.length≤l.length,QE 2 l.length (fun i=>QA.enc (l.getD i ⟨0,0⟩)) fun i=>QA.enc (l.getD i ⟨0,0⟩)])):=by kernel_rfl
theorem QSX(f f':Nat→Int)(k k':Nat):QO 208 (Vz k l) ((QJi f k l)) (pmJ l f' k')=(some ([0=0]++(Vn k k' l)++VV++Ve++(WO f f')++(QDc f f')++[i64.wrap (QFB f k l)=f' 11,f
  12=f' 12,l.length≤l.length,QE 2 l.length (fun i=>QA.enc (l.getD i ⟨0,0⟩)) fun i=>QA.enc (l.getD i ⟨0,0⟩)])):=by kernel_rfl
theorem QT7 :QO 208 [.ptr 208 0 0,.ptr 216 0 0] ((QGM f)) (pmE f')=(some ([0=0,0=0,0=0,0=0]++VV++Ve++(WO f f')++(QDc f f')++[f 11=f' 11,f 12=f' 12])):=by kernel_rfl
def plS(s:QC)(j:Nat):Int:=match s.cell == -2 with
 | true=>(match Nat.beq j 12 with|true=>Zd (f 12) k|false=>f j)
 | false=>(match Nat.beq j k with|true=>Zd (f k) s.cell|false=>f j)
def plL(l:List QC)(f:Nat→Int):Nat→Nat→Int
 | 0=>f
 | k+1=>plS (plL l f k) k (l.getD k ⟨0,0⟩)
set_option maxHeartbeats 1600000 in
theorem QPB(f:Nat→Int)(hl12:l.length≤12)(hc:WU l):JD (fun k=>pmJ l (plL l f k) k) (fun k=>k≤l.length) (fun k=>l.length-k) (fun _ e J=>e = .exit 0∧J=pmE (plL l f l.length)) 208 QHL [] (mkF Try.prog Qy) (fun _=>hnd (mkF Try.prog Qy) 3) (QZ Try.f51 0):=by
 refine⟨fun k g hk=>KF (QTw l (plL l f k) k g) ?_⟩;have hl:l.length≤1000:=by omega
 refine QK (fun h => ?_) (fun h => ?_)
 ·have h:k<l.length:=by have:=qdt h;omega
  have hw:=Kr h hl;have hcc:=hc.s k h;refine QF (by simp;omega) (QF (by simp;omega) (QF (by simp;omega) ?_))
  refine QK (fun q => ?_) (fun q => ?_)
  ·have q:=qdt q;have hk0:k=0:=by omega
   clear hw;subst hk0;have hw:=Kr h hl
   refine QK (fun hc => QF (by simp) ?_) (fun hc => QF (decide_eq_true (by have : ¬ (l.getD 0 ⟨0,0⟩).cell = -2 := by simpa using hc
                                                                           omega)) ?_)
   ·refine⟨1,h,by show l.length-1<l.length-0;omega,fun _ _ h=>h,rfl,rfl,_,XN l (plL l f 0) (plL l f 1) 0 1,?_⟩
    have hs:∀ j,plL l f 1 j=plS (plL l f 0) 0 (l.getD 0 ⟨0,0⟩) j:=fun _=>rfl;generalize plL l f 1=f' at hs ⊢;generalize plL l f 0=f0 at hs ⊢
    repeat' first|with_reducible refine Qc ?_ ?_|exact trivial|with_reducible rfl|exact qlr _|exact qRr|exact hw|(rw[hs];unfold plS;first|(rw[hc];done)|(rw[hc];rfl))|refine And.intro ?_ ?_
   ·refine⟨1,h,by show l.length-1<l.length-0;omega,fun _ _ h=>h,rfl,rfl,_,QNp l (plL l f 0) (plL l f 1) 0 1,?_⟩
    have hs:∀ j,plL l f 1 j=plS (plL l f 0) 0 (l.getD 0 ⟨0,0⟩) j:=fun _=>rfl;generalize plL l f 1=f' at hs ⊢;generalize plL l f 0=f0 at hs ⊢
    repeat' first|with_reducible refine Qc ?_ ?_|exact trivial|with_reducible rfl|exact qlr _|exact qRr|exact hw|(rw[hs];unfold plS;first|(rw[hc];done)|(rw[hc];rfl))|refine And.intro ?_ ?_
  have q0:¬ (k:Int)=0:=of_decide_eq_false q;clear q;refine QK (fun q => ?_) (fun q => ?_)
  ·have q:=qdt q;have hk1:k=1:=by omega
   clear hw;subst hk1;have hw:=Kr h hl
   refine QK (fun hc => QF (by simp) ?_) (fun hc => QF (decide_eq_true (by have : ¬ (l.getD 1 ⟨0,0⟩).cell = -2 := by simpa using hc
                                                                           omega)) ?_)
   ·refine⟨2,h,by show l.length-2<l.length-1;omega,fun _ _ h=>h,rfl,rfl,_,XN l (plL l f 1) (plL l f 2) 1 2,?_⟩
    have hs:∀ j,plL l f 2 j=plS (plL l f 1) 1 (l.getD 1 ⟨0,0⟩) j:=fun _=>rfl;generalize plL l f 2=f' at hs ⊢;generalize plL l f 1=f0 at hs ⊢
    repeat' first|with_reducible refine Qc ?_ ?_|exact trivial|with_reducible rfl|exact qlr _|exact qRr|exact hw|(rw[hs];unfold plS;first|(rw[hc];done)|(rw[hc];rfl))|refine And.intro ?_ ?_
   ·refine⟨2,h,by show l.length-2<l.length-1;omega,fun _ _ h=>h,rfl,rfl,_,QOT l (plL l f 1) (plL l f 2) 1 2,?_⟩
    have hs:∀ j,plL l f 2 j=plS (plL l f 1) 1 (l.getD 1 ⟨0,0⟩) j:=fun _=>rfl;generalize plL l f 2=f' at hs ⊢;generalize plL l f 1=f0 at hs ⊢
    repeat' first|with_reducible refine Qc ?_ ?_|exact trivial|with_reducible rfl|exact qlr _|exact qRr|exact hw|(rw[hs];unfold plS;first|(rw[hc];done)|(rw[hc];rfl))|refine And.intro ?_ ?_
  have q1:¬ (k:Int)=1:=of_decide_eq_false q;clear q;refine QK (fun q => ?_) (fun q => ?_)
  ·have q:=qdt q;have hk2:k=2:=by omega
   clear hw;subst hk2;have hw:=Kr h hl
   refine QK (fun hc => QF (by simp) ?_) (fun hc => QF (decide_eq_true (by have : ¬ (l.getD 2 ⟨0,0⟩).cell = -2 := by simpa using hc
                                                                           omega)) ?_)
   ·refine⟨3,h,by show l.length-3<l.length-2;omega,fun _ _ h=>h,rfl,rfl,_,XN l (plL l f 2) (plL l f 3) 2 3,?_⟩
    have hs:∀ j,plL l f 3 j=plS (plL l f 2) 2 (l.getD 2 ⟨0,0⟩) j:=fun _=>rfl;generalize plL l f 3=f' at hs ⊢;generalize plL l f 2=f0 at hs ⊢
    repeat' first|with_reducible refine Qc ?_ ?_|exact trivial|with_reducible rfl|exact qlr _|exact qRr|exact hw|(rw[hs];unfold plS;first|(rw[hc];done)|(rw[hc];rfl))|refine And.intro ?_ ?_
   ·refine⟨3,h,by show l.length-3<l.length-2;omega,fun _ _ h=>h,rfl,rfl,_,QNt l (plL l f 2) (plL l f 3) 2 3,?_⟩
    have hs:∀ j,plL l f 3 j=plS (plL l f 2) 2 (l.getD 2 ⟨0,0⟩) j:=fun _=>rfl;generalize plL l f 3=f' at hs ⊢;generalize plL l f 2=f0 at hs ⊢
    repeat' first|with_reducible refine Qc ?_ ?_|exact trivial|with_reducible rfl|exact qlr _|exact qRr|exact hw|(rw[hs];unfold plS;first|(rw[hc];done)|(rw[hc];rfl))|refine And.intro ?_ ?_
  have q2:¬ (k:Int)=2:=of_decide_eq_false q;clear q;refine QK (fun q => ?_) (fun q => ?_)
  ·have q:=qdt q;have hk3:k=3:=by omega
   clear hw;subst hk3;have hw:=Kr h hl
   refine QK (fun hc => QF (by simp) ?_) (fun hc => QF (decide_eq_true (by have : ¬ (l.getD 3 ⟨0,0⟩).cell = -2 := by simpa using hc
                                                                           omega)) ?_)
   ·refine⟨4,h,by show l.length-4<l.length-3;omega,fun _ _ h=>h,rfl,rfl,_,XN l (plL l f 3) (plL l f 4) 3 4,?_⟩
    have hs:∀ j,plL l f 4 j=plS (plL l f 3) 3 (l.getD 3 ⟨0,0⟩) j:=fun _=>rfl;generalize plL l f 4=f' at hs ⊢;generalize plL l f 3=f0 at hs ⊢
    repeat' first|with_reducible refine Qc ?_ ?_|exact trivial|with_reducible rfl|exact qlr _|exact qRr|exact hw|(rw[hs];unfold plS;first|(rw[hc];done)|(rw[hc];rfl))|refine And.intro ?_ ?_
   ·refine⟨4,h,by show l.length-4<l.length-3;omega,fun _ _ h=>h,rfl,rfl,_,QVH l (plL l f 3) (plL l f 4) 3 4,?_⟩
    have hs:∀ j,plL l f 4 j=plS (plL l f 3) 3 (l.getD 3 ⟨0,0⟩) j:=fun _=>rfl;generalize plL l f 4=f' at hs ⊢;generalize plL l f 3=f0 at hs ⊢
    repeat' first|with_reducible refine Qc ?_ ?_|exact trivial|with_reducible rfl|exact qlr _|exact qRr|exact hw|(rw[hs];unfold plS;first|(rw[hc];done)|(rw[hc];rfl))|refine And.intro ?_ ?_
  have q3:¬ (k:Int)=3:=of_decide_eq_false q;clear q;refine QK (fun q => ?_) (fun q => ?_)
  ·have q:=qdt q;have hk4:k=4:=by omega
   clear hw;subst hk4;have hw:=Kr h hl
   refine QK (fun hc => QF (by simp) ?_) (fun hc => QF (decide_eq_true (by have : ¬ (l.getD 4 ⟨0,0⟩).cell = -2 := by simpa using hc
                                                                           omega)) ?_)
   ·refine⟨5,h,by show l.length-5<l.length-4;omega,fun _ _ h=>h,rfl,rfl,_,XN l (plL l f 4) (plL l f 5) 4 5,?_⟩
    have hs:∀ j,plL l f 5 j=plS (plL l f 4) 4 (l.getD 4 ⟨0,0⟩) j:=fun _=>rfl;generalize plL l f 5=f' at hs ⊢;generalize plL l f 4=f0 at hs ⊢
    repeat' first|with_reducible refine Qc ?_ ?_|exact trivial|with_reducible rfl|exact qlr _|exact qRr|exact hw|(rw[hs];unfold plS;first|(rw[hc];done)|(rw[hc];rfl))|refine And.intro ?_ ?_
   ·refine⟨5,h,by show l.length-5<l.length-4;omega,fun _ _ h=>h,rfl,rfl,_,QRR l (plL l f 4) (plL l f 5) 4 5,?_⟩
    have hs:∀ j,plL l f 5 j=plS (plL l f 4) 4 (l.getD 4 ⟨0,0⟩) j:=fun _=>rfl;generalize plL l f 5=f' at hs ⊢;generalize plL l f 4=f0 at hs ⊢
    repeat' first|with_reducible refine Qc ?_ ?_|exact trivial|with_reducible rfl|exact qlr _|exact qRr|exact hw|(rw[hs];unfold plS;first|(rw[hc];done)|(rw[hc];rfl))|refine And.intro ?_ ?_
  have q4:¬ (k:Int)=4:=of_decide_eq_false q;clear q;refine QK (fun q => ?_) (fun q => ?_)
  ·have q:=qdt q;have hk5:k=5:=by omega
   clear hw;subst hk5;have hw:=Kr h hl
   refine QK (fun hc => QF (by simp) ?_) (fun hc => QF (decide_eq_true (by have : ¬ (l.getD 5 ⟨0,0⟩).cell = -2 := by simpa using hc
                                                                           omega)) ?_)
   ·refine⟨6,h,by show l.length-6<l.length-5;omega,fun _ _ h=>h,rfl,rfl,_,XN l (plL l f 5) (plL l f 6) 5 6,?_⟩
    have hs:∀ j,plL l f 6 j=plS (plL l f 5) 5 (l.getD 5 ⟨0,0⟩) j:=fun _=>rfl;generalize plL l f 6=f' at hs ⊢;generalize plL l f 5=f0 at hs ⊢
    repeat' first|with_reducible refine Qc ?_ ?_|exact trivial|with_reducible rfl|exact qlr _|exact qRr|exact hw|(rw[hs];unfold plS;first|(rw[hc];done)|(rw[hc];rfl))|refine And.intro ?_ ?_
   ·refine⟨6,h,by show l.length-6<l.length-5;omega,fun _ _ h=>h,rfl,rfl,_,QRr l (plL l f 5) (plL l f 6) 5 6,?_⟩
    have hs:∀ j,plL l f 6 j=plS (plL l f 5) 5 (l.getD 5 ⟨0,0⟩) j:=fun _=>rfl;generalize plL l f 6=f' at hs ⊢;generalize plL l f 5=f0 at hs ⊢
    repeat' first|with_reducible refine Qc ?_ ?_|exact trivial|with_reducible rfl|exact qlr _|exact qRr|exact hw|(rw[hs];unfold plS;first|(rw[hc];done)|(rw[hc];rfl))|refine And.intro ?_ ?_
  have q5:¬ (k:Int)=5:=of_decide_eq_false q;clear q;refine QK (fun q => ?_) (fun q => ?_)
  ·have q:=qdt q;have hk6:k=6:=by omega
   clear hw;subst hk6;have hw:=Kr h hl
   refine QK (fun hc => QF (by simp) ?_) (fun hc => QF (decide_eq_true (by have : ¬ (l.getD 6 ⟨0,0⟩).cell = -2 := by simpa using hc
                                                                           omega)) ?_)
   ·refine⟨7,h,by show l.length-7<l.length-6;omega,fun _ _ h=>h,rfl,rfl,_,XN l (plL l f 6) (plL l f 7) 6 7,?_⟩
    have hs:∀ j,plL l f 7 j=plS (plL l f 6) 6 (l.getD 6 ⟨0,0⟩) j:=fun _=>rfl;generalize plL l f 7=f' at hs ⊢;generalize plL l f 6=f0 at hs ⊢
    repeat' first|with_reducible refine Qc ?_ ?_|exact trivial|with_reducible rfl|exact qlr _|exact qRr|exact hw|(rw[hs];unfold plS;first|(rw[hc];done)|(rw[hc];rfl))|refine And.intro ?_ ?_
   ·refine⟨7,h,by show l.length-7<l.length-6;omega,fun _ _ h=>h,rfl,rfl,_,QUQ l (plL l f 6) (plL l f 7) 6 7,?_⟩
    have hs:∀ j,plL l f 7 j=plS (plL l f 6) 6 (l.getD 6 ⟨0,0⟩) j:=fun _=>rfl;generalize plL l f 7=f' at hs ⊢;generalize plL l f 6=f0 at hs ⊢
    repeat' first|with_reducible refine Qc ?_ ?_|exact trivial|with_reducible rfl|exact qlr _|exact qRr|exact hw|(rw[hs];unfold plS;first|(rw[hc];done)|(rw[hc];rfl))|refine And.intro ?_ ?_
  have q6:¬ (k:Int)=6:=of_decide_eq_false q;clear q;refine QK (fun q => ?_) (fun q => ?_)
  ·have q:=qdt q;have hk7:k=7:=by omega
   clear hw;subst hk7;have hw:=Kr h hl
   refine QK (fun hc => QF (by simp) ?_) (fun hc => QF (decide_eq_true (by have : ¬ (l.getD 7 ⟨0,0⟩).cell = -2 := by simpa using hc
                                                                           omega)) ?_)
   ·refine⟨8,h,by show l.length-8<l.length-7;omega,fun _ _ h=>h,rfl,rfl,_,XN l (plL l f 7) (plL l f 8) 7 8,?_⟩
    have hs:∀ j,plL l f 8 j=plS (plL l f 7) 7 (l.getD 7 ⟨0,0⟩) j:=fun _=>rfl;generalize plL l f 8=f' at hs ⊢;generalize plL l f 7=f0 at hs ⊢
    repeat' first|with_reducible refine Qc ?_ ?_|exact trivial|with_reducible rfl|exact qlr _|exact qRr|exact hw|(rw[hs];unfold plS;first|(rw[hc];done)|(rw[hc];rfl))|refine And.intro ?_ ?_
   ·refine⟨8,h,by show l.length-8<l.length-7;omega,fun _ _ h=>h,rfl,rfl,_,QP9 l (plL l f 7) (plL l f 8) 7 8,?_⟩
    have hs:∀ j,plL l f 8 j=plS (plL l f 7) 7 (l.getD 7 ⟨0,0⟩) j:=fun _=>rfl;generalize plL l f 8=f' at hs ⊢;generalize plL l f 7=f0 at hs ⊢
    repeat' first|with_reducible refine Qc ?_ ?_|exact trivial|with_reducible rfl|exact qlr _|exact qRr|exact hw|(rw[hs];unfold plS;first|(rw[hc];done)|(rw[hc];rfl))|refine And.intro ?_ ?_
  have q7:¬ (k:Int)=7:=of_decide_eq_false q;clear q;refine QK (fun q => ?_) (fun q => ?_)
  ·have q:=qdt q;have hk8:k=8:=by omega
   clear hw;subst hk8;have hw:=Kr h hl
   refine QK (fun hc => QF (by simp) ?_) (fun hc => QF (decide_eq_true (by have : ¬ (l.getD 8 ⟨0,0⟩).cell = -2 := by simpa using hc
                                                                           omega)) ?_)
   ·refine⟨9,h,by show l.length-9<l.length-8;omega,fun _ _ h=>h,rfl,rfl,_,XN l (plL l f 8) (plL l f 9) 8 9,?_⟩
    have hs:∀ j,plL l f 9 j=plS (plL l f 8) 8 (l.getD 8 ⟨0,0⟩) j:=fun _=>rfl;generalize plL l f 9=f' at hs ⊢;generalize plL l f 8=f0 at hs ⊢
    repeat' first|with_reducible refine Qc ?_ ?_|exact trivial|with_reducible rfl|exact qlr _|exact qRr|exact hw|(rw[hs];unfold plS;first|(rw[hc];done)|(rw[hc];rfl))|refine And.intro ?_ ?_
   ·refine⟨9,h,by show l.length-9<l.length-8;omega,fun _ _ h=>h,rfl,rfl,_,QOs l (plL l f 8) (plL l f 9) 8 9,?_⟩
    have hs:∀ j,plL l f 9 j=plS (plL l f 8) 8 (l.getD 8 ⟨0,0⟩) j:=fun _=>rfl;generalize plL l f 9=f' at hs ⊢;generalize plL l f 8=f0 at hs ⊢
    repeat' first|with_reducible refine Qc ?_ ?_|exact trivial|with_reducible rfl|exact qlr _|exact qRr|exact hw|(rw[hs];unfold plS;first|(rw[hc];done)|(rw[hc];rfl))|refine And.intro ?_ ?_
  have q8:¬ (k:Int)=8:=of_decide_eq_false q;clear q;refine QK (fun q => ?_) (fun q => ?_)
  ·have q:=qdt q;have hk9:k=9:=by omega
   clear hw;subst hk9;have hw:=Kr h hl
   refine QK (fun hc => QF (by simp) ?_) (fun hc => QF (decide_eq_true (by have : ¬ (l.getD 9 ⟨0,0⟩).cell = -2 := by simpa using hc
                                                                           omega)) ?_)
   ·refine⟨10,h,by show l.length-10<l.length-9;omega,fun _ _ h=>h,rfl,rfl,_,XN l (plL l f 9) (plL l f 10) 9 10,?_⟩
    have hs:∀ j,plL l f 10 j=plS (plL l f 9) 9 (l.getD 9 ⟨0,0⟩) j:=fun _=>rfl;generalize plL l f 10=f' at hs ⊢;generalize plL l f 9=f0 at hs ⊢
    repeat' first|with_reducible refine Qc ?_ ?_|exact trivial|with_reducible rfl|exact qlr _|exact qRr|exact hw|(rw[hs];unfold plS;first|(rw[hc];done)|(rw[hc];rfl))|refine And.intro ?_ ?_
   ·refine⟨10,h,by show l.length-10<l.length-9;omega,fun _ _ h=>h,rfl,rfl,_,QSt l (plL l f 9) (plL l f 10) 9 10,?_⟩
    have hs:∀ j,plL l f 10 j=plS (plL l f 9) 9 (l.getD 9 ⟨0,0⟩) j:=fun _=>rfl;generalize plL l f 10=f' at hs ⊢;generalize plL l f 9=f0 at hs ⊢
    repeat' first|with_reducible refine Qc ?_ ?_|exact trivial|with_reducible rfl|exact qlr _|exact qRr|exact hw|(rw[hs];unfold plS;first|(rw[hc];done)|(rw[hc];rfl))|refine And.intro ?_ ?_
  have q9:¬ (k:Int)=9:=of_decide_eq_false q;clear q;refine QK (fun q => ?_) (fun q => ?_)
  ·have q:=qdt q;have hk10:k=10:=by omega
   clear hw;subst hk10;have hw:=Kr h hl
   refine QK (fun hc => QF (by simp) ?_) (fun hc => QF (decide_eq_true (by have : ¬ (l.getD 10 ⟨0,0⟩).cell = -2 := by simpa using hc
                                                                           omega)) ?_)
   ·refine⟨11,h,by show l.length-11<l.length-10;omega,fun _ _ h=>h,rfl,rfl,_,XN l (plL l f 10) (plL l f 11) 10 11,?_⟩
    have hs:∀ j,plL l f 11 j=plS (plL l f 10) 10 (l.getD 10 ⟨0,0⟩) j:=fun _=>rfl;generalize plL l f 11=f' at hs ⊢;generalize plL l f 10=f0 at hs ⊢
    repeat' first|with_reducible refine Qc ?_ ?_|exact trivial|with_reducible rfl|exact qlr _|exact qRr|exact hw|(rw[hs];unfold plS;first|(rw[hc];done)|(rw[hc];rfl))|refine And.intro ?_ ?_
   ·refine⟨11,h,by show l.length-11<l.length-10;omega,fun _ _ h=>h,rfl,rfl,_,QWL l (plL l f 10) (plL l f 11) 10 11,?_⟩
    have hs:∀ j,plL l f 11 j=plS (plL l f 10) 10 (l.getD 10 ⟨0,0⟩) j:=fun _=>rfl;generalize plL l f 11=f' at hs ⊢;generalize plL l f 10=f0 at hs ⊢
    repeat' first|with_reducible refine Qc ?_ ?_|exact trivial|with_reducible rfl|exact qlr _|exact qRr|exact hw|(rw[hs];unfold plS;first|(rw[hc];done)|(rw[hc];rfl))|refine And.intro ?_ ?_
  have q10:¬ (k:Int)=10:=of_decide_eq_false q;clear q;have hk11:k=11:=by omega
  clear hw;subst hk11;have hw:=Kr h hl
  refine QK (fun hc => QF (by simp) ?_) (fun hc => QF (decide_eq_true (by have : ¬ (l.getD 11 ⟨0,0⟩).cell = -2 := by simpa using hc
                                                                          omega)) ?_)
  ·refine⟨12,h,by show l.length-12<l.length-11;omega,fun _ _ h=>h,rfl,rfl,_,XN l (plL l f 11) (plL l f 12) 11 12,?_⟩
   have hs:∀ j,plL l f 12 j=plS (plL l f 11) 11 (l.getD 11 ⟨0,0⟩) j:=fun _=>rfl;generalize plL l f 12=f' at hs ⊢;generalize plL l f 11=f0 at hs ⊢
   repeat' first|with_reducible refine Qc ?_ ?_|exact trivial|with_reducible rfl|exact qlr _|exact qRr|exact hw|(rw[hs];unfold plS;first|(rw[hc];done)|(rw[hc];rfl))|refine And.intro ?_ ?_
  ·refine⟨12,h,by show l.length-12<l.length-11;omega,fun _ _ h=>h,rfl,rfl,_,QSX l (plL l f 11) (plL l f 12) 11 12,?_⟩
   have hs:∀ j,plL l f 12 j=plS (plL l f 11) 11 (l.getD 11 ⟨0,0⟩) j:=fun _=>rfl;generalize plL l f 12=f' at hs ⊢;generalize plL l f 11=f0 at hs ⊢
   repeat' first|with_reducible refine Qc ?_ ?_|exact trivial|with_reducible rfl|exact qlr _|exact qRr|exact hw|(rw[hs];unfold plS;first|(rw[hc];done)|(rw[hc];rfl))|refine And.intro ?_ ?_
 ·have:k=l.length:=by have:=of_decide_eq_false h;omega
  subst this;refine⟨_,⟨rfl,rfl⟩,rfl,rfl,_,QT7 _ _,?_⟩
  repeat' first|with_reducible refine Qc ?_ ?_|exact trivial|with_reducible rfl|exact qlr _|exact qRr|refine And.intro ?_ ?_
abbrev pmH(P:Program)(l:List QC)(f f':Nat→Int):Hnd:={ hnd (mkE P Qy) 1 with loop:=fun _=>KE 208 [] (pmJ l f (0:Nat)) [(True,.exit 0,pmE f')] }
theorem QRa(f:Nat→Int)(hl:l.length≤12)(hc:WU l)(G:Ctx)(hrd:G.rd=none)(hG:G.n=208):Q5 (mkE Try.prog Qy) G (pmH Try.prog l f (plL l f l.length)) (Qq Try.f51):=by
 refine JT (body:=QZ Try.f51 0) (QR KK) hrd (by kernel_rfl) ?_
 refine WM (E:=mkF Try.prog Qy) rfl (JX (n0:=208) (jJ KK) (by omega) (fun s hs=>Qv (jJ KK) 3 G _ hrd) (fun s hs=>(by decide:208≤248)) ?_ (QPB l f hl hc) (s0:=0) (Nat.zero_le _) ?_)
 ·rintro s e J ⟨_,rfl⟩;exact(by decide:208≤248)
 ·rintro e J ⟨rfl,rfl⟩;exact⟨_,List.mem_cons_self,trivial,rfl,rfl⟩
def pmU(f f':Nat→Int):UC:=⟨0,⟨2,[(0,.agg (WE f)),(1,.slz 200 0 l.length (.of 0))],pmB l,208⟩,fun _ => .agg (WE f'),fun _=>[]⟩
theorem QRY(f f':Nat→Int):Vu (mkE Try.prog Qy) (pmH Try.prog l f f') Try.f51 (pmU l f f') = .ask (0=0) (.ask (0=0) (.ask (0=0) (.ask (0=0) (.ask (0=0) (.ask (l.length=l.length) (.ask
  (cO=cO) (.ask ((l.length:Int)=(l.length:Int)) (.ask ((0:Int)=0) (.ask ((0:Int)=0) (.ask ((0:Int)=0) (.ask ((0:Int)=0) (.ask ((0:Int)=0) (.ask
  ((0:Int)=0) (.ask ((0:Int)=0) (.ask ((0:Int)=0) (.ask ((0:Int)=0) (.ask ((0:Int)=0) (.ask ((0:Int)=0) (.ask ((0:Int)=0) (.ask ((0:Int)=0) (.ask ((0 :
  Int)=0) (.ask (f 0=f 0) (.ask (f 1=f 1) (.ask (f 2=f 2) (.ask (f 3=f 3) (.ask (f 4=f 4) (.ask (f 5=f 5) (.ask (f 6=f 6) (.ask (f 7=f 7) (.ask (f 8=f 8) (.ask (f
  9=f 9) (.ask (f 10=f 10) (.ask (f 11=f 11) (.ask (f 12=f 12) (.ask (l.length≤l.length) (.ask (QE 2 l.length (fun i=>QA.enc (l.getD i ⟨0,0⟩)) fun i=>QA.enc
  (l.getD i ⟨0,0⟩)) (.asm (True) (.all (fun(g0:Nat→Value) => .leaf (.agg [vi (f' 0),vi (f' 1),vi (f' 2),vi (f' 3),.int
  false .i64 (f' 4),vi (f' 5),vi (f' 6),vi (f' 7),vi (f' 8),vi (f' 9),vi (f' 10),.int false .i64
  (f' 11),vi (f' 12)]) ([])))))))))))))))))))))))))))))))))))))))):=by kernel_rfl
theorem QS8(f f':Nat→Int):QO 208 [(AV.agg [AV.int false i64 (f' (0:Nat)),AV.int false i64 (f' (1:Nat)),AV.int false i64 (f' (2:Nat)),AV.int false i64 (f' (3:Nat)),AV.int false i64 (f' (4:Nat)),AV.int false i64 (f' (5:Nat)),AV.int false i64 (f' (6:Nat)),AV.int false i64 (f' (7:Nat)),AV.int false i64 (f' (8:Nat)),AV.int false i64 (f' (9:Nat)),AV.int false i64 (f' (10:Nat)),AV.int false i64 (f' (11:Nat)),AV.int false i64 (f' (12:Nat))])] ([]) (JF (pmU l f f'))=(
  some [f' (0:Nat)=f' (0:Nat),f' (1:Nat)=f' (1:Nat),f' (2:Nat)=f' (2:Nat),f' (3:Nat)=f' (3:Nat),f' (4:Nat)=f' (4:Nat),f' (5:Nat)=f' (5:Nat),
  f' (6:Nat)=f' (6:Nat),f' (7:Nat)=f' (7:Nat),f' (8:Nat)=f' (8:Nat),f' (9:Nat)=f' (9:Nat),f' (10:Nat)=f' (10:Nat),f' (11:Nat)=f' (11:Nat),f'
  (12:Nat)=f' (12:Nat)]):=by kernel_rfl
theorem QPn(f:Nat→Int)(hl:l.length≤12)(hc:WU l):QQ Try.prog 51 (uFC (pmU l f (plL l f l.length))):=by
 refine VZ (E:=mkE Try.prog Qy) (QR KK) Try.func51 (by kernel_rfl) (by kernel_rfl) (jP (Nat.zero_le _) rfl rfl fun _=>rfl) (QRa l f hl hc) ⟨?_⟩
 refine KF (QRY l f (plL l f l.length)) ?_
 repeat' first|refine QF rfl ?_|refine Qa (p:=_=_) rfl ?_|refine Qa (p:=_≤_) (qlr _) ?_|refine Qa (p:=QE _ _ _ _) (qRr) ?_
 refine KQ fun _=>KN fun g=>⟨rfl,rfl,_,QS8 l f _,?_⟩
 repeat' first|with_reducible refine Qc ?_ ?_|exact trivial|with_reducible rfl|exact qlr _|exact qRr|refine And.intro ?_ ?_
end Go.Proofs.Ytbpffdkemeoajaa
