/- - -/
import Derived.Test.YtbpffdkemeoajaaMos
open Go.IntKind (i64)
set_option maxRecDepth 100000
namespace Go.Proofs.Ytbpffdkemeoajaa
open Go.SX
def QKO:Ex→List Nat
 | .normal=>[3,4,11,12,13]
 | .exit _=>[4]
 | .ret=>[]
variable (d:Puz)(s:QK)(o:List QC)
def qY:JSt:=⟨49,[(4,.slz 24 0 o.length (.of 0))],[KQ 56 24 o ⟨0,0⟩],32⟩
noncomputable abbrev QFG(o':List QC)(s:QK):List (Nat×Blk):=
  [(16,.cells 7 33 [vi s.up.kind,vi s.up.at_.lo,vi s.up.at_.hi,vi s.up.wide.lo,vi s.up.wide.hi,.int false .i64
  s.up.deep.lo,vi s.up.deep.hi,vi s.right.kind,vi s.right.at_.lo,vi s.right.at_.hi,vi s.right.wide.lo,.int false
  .i64 s.right.wide.hi,vi s.right.deep.lo,vi s.right.deep.hi,vi s.down.kind,vi s.down.at_.lo,vi s.down.at_.hi,
  .int false .i64 s.down.wide.lo,vi s.down.wide.hi,vi s.down.deep.lo,vi s.down.deep.hi,vi s.left.kind,.int false .i64
  s.left.at_.lo,vi s.left.at_.hi,vi s.left.wide.lo,vi s.left.wide.hi,vi s.left.deep.lo,vi s.left.deep.hi]),(24,
  .rowz true 56 [.int .i64,.int .i64] o'.length fun i=>QA.enc (o'.getD i ⟨0,0⟩)),(0,.frz [.int .i64,.int .i64,.int .i64,.int .i64,.int .i64,.int .i64,.int .i64,.int
  .i64,.int .i64,.int .i64,.int .i64,.int .i64,.int .i64,.int .i64,.int .i64,.int .i64,.int .i64,.int .i64,.int .i64,.int .i64,.int .i64,.int .i64,.int .i64,.int .i64,
  .int .i64,.int .i64,.int .i64,.int .i64] d.ps.n fun i=>QA.enc (d.ps.get i))]
theorem QPu(o o':List QC)(c:Nat)(g:Nat→Value):exec (mkE Try.prog Kh) { hnd (mkE Try.prog Kh) 1 with loop:=fun _=>KD 8 [] (Jj d s o c 0) [(True,.exit 2,zb d s o' c)] } (QV Try.f43 0) (JSt.inst (Z1 d s
  o c) g) (KH [] QKO) = .br (decide ((c:Int)<(d.ps.n:Int))) (.need (decide ((0:Int)≤(c:Int)∧(c:Int)<(d.ps.n:Int))&&decide (d.ps.n≤d.ps.n)) (.need (decide
  (c<d.ps.n)) (.ask (0=0) (.ask (0=0) (.ask (0=0) (.ask (o.length=o.length) (.ask (cO=cO) (.ask ((c:Int)=(c:Int)) (.ask (0=0) (.ask (0=0) (.ask (0 =
  0) (.ask (d.ps.n=d.ps.n) (.ask (cO=cO) (.ask ((d.ps.n:Int)=(d.ps.n:Int)) (.ask ((c:Int)=(c:Int)) (.ask ((0:Int)=0) (.ask (s.up.kind=s.up.kind)
  (.ask (s.up.at_.lo=s.up.at_.lo) (.ask (s.up.at_.hi=s.up.at_.hi) (.ask (s.up.wide.lo=s.up.wide.lo) (.ask (s.up.wide.hi=s.up.wide.hi) (.ask (s.up.deep.lo=s.up.deep.lo) (.ask
  (s.up.deep.hi=s.up.deep.hi) (.ask (s.right.kind=s.right.kind) (.ask (s.right.at_.lo=s.right.at_.lo) (.ask (s.right.at_.hi=s.right.at_.hi) (.ask (s.right.wide.lo =
  s.right.wide.lo) (.ask (s.right.wide.hi=s.right.wide.hi) (.ask (s.right.deep.lo=s.right.deep.lo) (.ask (s.right.deep.hi=s.right.deep.hi) (.ask (s.down.kind=s.down.kind)
  (.ask (s.down.at_.lo=s.down.at_.lo) (.ask (s.down.at_.hi=s.down.at_.hi) (.ask (s.down.wide.lo=s.down.wide.lo) (.ask (s.down.wide.hi=s.down.wide.hi) (.ask (s.down.deep.lo =
  s.down.deep.lo) (.ask (s.down.deep.hi=s.down.deep.hi) (.ask (s.left.kind=s.left.kind) (.ask (s.left.at_.lo=s.left.at_.lo) (.ask (s.left.at_.hi=s.left.at_.hi) (.ask
  (s.left.wide.lo=s.left.wide.lo) (.ask (s.left.wide.hi=s.left.wide.hi) (.ask (s.left.deep.lo=s.left.deep.lo) (.ask (s.left.deep.hi=s.left.deep.hi) (.ask (o.length≤o.length)
  (.ask (QE 2 o.length (fun i=>QA.enc (o.getD i ⟨0,0⟩)) fun i=>QA.enc (o.getD i ⟨0,0⟩)) (.ask ((d.ps.get c).up.kind=(d.ps.get c).up.kind) (.ask ((d.ps.get c).up.at_.lo
  = (d.ps.get c).up.at_.lo) (.ask ((d.ps.get c).up.at_.hi=(d.ps.get c).up.at_.hi) (.ask ((d.ps.get c).up.wide.lo=(d.ps.get c).up.wide.lo) (.ask ((d.ps.get c).up.wide.hi =
  (d.ps.get c).up.wide.hi) (.ask ((d.ps.get c).up.deep.lo=(d.ps.get c).up.deep.lo) (.ask ((d.ps.get c).up.deep.hi=(d.ps.get c).up.deep.hi) (.ask ((d.ps.get c).right.kind =
  (d.ps.get c).right.kind) (.ask ((d.ps.get c).right.at_.lo=(d.ps.get c).right.at_.lo) (.ask ((d.ps.get c).right.at_.hi=(d.ps.get c).right.at_.hi) (.ask ((d.ps.get
  c).right.wide.lo=(d.ps.get c).right.wide.lo) (.ask ((d.ps.get c).right.wide.hi=(d.ps.get c).right.wide.hi) (.ask ((d.ps.get c).right.deep.lo=(d.ps.get c).right.deep.lo) (.ask
  ((d.ps.get c).right.deep.hi=(d.ps.get c).right.deep.hi) (.ask ((d.ps.get c).down.kind=(d.ps.get c).down.kind) (.ask ((d.ps.get c).down.at_.lo=(d.ps.get c).down.at_.lo) (.ask
  ((d.ps.get c).down.at_.hi=(d.ps.get c).down.at_.hi) (.ask ((d.ps.get c).down.wide.lo=(d.ps.get c).down.wide.lo) (.ask ((d.ps.get c).down.wide.hi=(d.ps.get c).down.wide.hi)
  (.ask ((d.ps.get c).down.deep.lo=(d.ps.get c).down.deep.lo) (.ask ((d.ps.get c).down.deep.hi=(d.ps.get c).down.deep.hi) (.ask ((d.ps.get c).left.kind=(d.ps.get c).left.kind)
  (.ask ((d.ps.get c).left.at_.lo=(d.ps.get c).left.at_.lo) (.ask ((d.ps.get c).left.at_.hi=(d.ps.get c).left.at_.hi) (.ask ((d.ps.get c).left.wide.lo=(d.ps.get c).left.wide.lo)
  (.ask ((d.ps.get c).left.wide.hi=(d.ps.get c).left.wide.hi) (.ask ((d.ps.get c).left.deep.lo=(d.ps.get c).left.deep.lo) (.ask ((d.ps.get c).left.deep.hi=(d.ps.get
  c).left.deep.hi) (.ask (d.ps.n≤d.ps.n) (.ask (QE 28 d.ps.n (fun i=>QA.enc (d.ps.get i)) fun i=>QA.enc (d.ps.get i)) (.asm (True) (.all (fun(g0:Nat→Value) => .leaf
  (.tup [.nilp,.ptr 49 0 0,.ptr 16 0 0,.slz 24 0 o'.length cO,.slz 0 0 d.ps.n cO,vi (d.ps.n:Int),vi (i64.wrap ((c:Int) +
  1))]) ((QFG d o' s))))))))))))))))))))))))))))))))))))))))))))))))))))))))))))))))))))))))))))))))) (.leaf (.tup [.ptr 0 0 0,.ptr 49 0 0,.slz 24 0 o.length cO]) ([(24,
  .rowz true 56 [.int .i64,.int .i64] o.length fun i=>QA.enc (o.getD i ⟨0,0⟩))])):=by kernel_rfl
theorem QTe(o' o2:List QC)(c c1:Nat):QM 8 [.ptr 16 0 0,.slz 24 0 o'.length cO,.slz 0 0 d.ps.n cO,vi (d.ps.n:Int),vi (i64.wrap ((c:Int)+1))] ((QFG d o' s))
  (Z1 d s o2 c1)=(some [0=0,0=0,0=0,o'.length=o2.length,cO=cO,0=0,d.ps.n=d.ps.n,cO=cO,(d.ps.n:Int)=(d.ps.n:Int),
  i64.wrap ((c:Int)+1)=(c1:Int),s.up.kind=s.up.kind,s.up.at_.lo=s.up.at_.lo,s.up.at_.hi=s.up.at_.hi,s.up.wide.lo=s.up.wide.lo,s.up.wide.hi=s.up.wide.hi,
  s.up.deep.lo=s.up.deep.lo,s.up.deep.hi=s.up.deep.hi,s.right.kind=s.right.kind,s.right.at_.lo=s.right.at_.lo,s.right.at_.hi=s.right.at_.hi,s.right.wide.lo =
  s.right.wide.lo,s.right.wide.hi=s.right.wide.hi,s.right.deep.lo=s.right.deep.lo,s.right.deep.hi=s.right.deep.hi,s.down.kind=s.down.kind,s.down.at_.lo=s.down.at_.lo,
  s.down.at_.hi=s.down.at_.hi,s.down.wide.lo=s.down.wide.lo,s.down.wide.hi=s.down.wide.hi,s.down.deep.lo=s.down.deep.lo,s.down.deep.hi=s.down.deep.hi,s.left.kind =
  s.left.kind,s.left.at_.lo=s.left.at_.lo,s.left.at_.hi=s.left.at_.hi,s.left.wide.lo=s.left.wide.lo,s.left.wide.hi=s.left.wide.hi,s.left.deep.lo=s.left.deep.lo,
  s.left.deep.hi=s.left.deep.hi,o2.length≤o'.length,QE 2 o2.length (fun i=>QA.enc (o'.getD i ⟨0,0⟩)) fun i=>QA.enc (o2.getD i ⟨0,0⟩),d.ps.n≤d.ps.n,QE 28
  d.ps.n (fun i=>QA.enc (d.ps.get i)) fun i=>QA.enc (d.ps.get i)]):=by kernel_rfl
theorem QRU(o o2:List QC):QM 8 [AV.slz (24:Nat) (0:Nat) o.length (Cap.of (0:Nat))] ([((24:Nat),Blk.rowz true (56:Nat) [CK.int i64,CK.int i64] o.length fun i=>QA.enc (o.getD i (QC.mk (0:Int) (0:Int))))]) (qY o2)=(
  some [(0:Nat)=(0:Nat),o.length=o2.length,Cap.of (0:Nat)=Cap.of (0:Nat),o2.length≤o.length,QE (2:Nat) o2.length (fun i=>QA.enc (o.getD i (QC.mk (0 :
  Int) (0:Int)))) fun i=>QA.enc (o2.getD i (QC.mk (0:Int) (0:Int)))]):=by kernel_rfl
theorem QNf:QM 8 [.slz 24 0 o.length cO] [(24,.rowz true 56 [.int .i64,.int .i64] o.length fun i=>QA.enc (o.getD i ⟨0,0⟩))] (Kr 8 (.slz 0 0 o.length cO) [KQ 56 0 o ⟨0,0⟩])=(
  some [(0:Nat)=(0:Nat),o.length=o.length,Cap.of (0:Nat)=Cap.of (0:Nat),o.length≤o.length,QE (2:Nat) o.length (fun i=>QA.enc (o.getD i (QC.mk (0:Int)
  (0:Int)))) fun i=>QA.enc (o.getD i (QC.mk (0:Int) (0:Int)))]):=by kernel_rfl
theorem QQy(c:Nat)(ho:o.length≤4000)(G:Ctx)(hrd:G.rd=none)(hG:G.n=8):Q9 (mkE Try.prog Kh) G { hnd (mkE Try.prog Kh) 1 with loop:=fun _=>KD 8 [] (Jj d s o c 0) [(True,.exit 2,zb d s (KI d s o c 4) c)] } (QV Try.f43 0):=by
 refine JM (body:=Xl (QV Try.f43 0)) (QT Z2) hrd (by kernel_rfl) ?_
 refine JE (n0:=8) (QT Z2) (by omega) (fun t ht=>Q0 (QT Z2) 6 G _ hrd) (fun t ht=>(by decide:8≤40)) ?_ (QSF d s o c ho) (s0:=0) (Nat.zero_le _) ?_
 ·rintro t e J ⟨_,rfl⟩;exact(by decide:8≤40)
 ·rintro e J ⟨rfl,rfl⟩;exact⟨_,List.mem_cons_self,trivial,rfl,rfl⟩
theorem QTf(hn:d.ps.n≤900):Kz (fun c=>Z1 d s (KF d s c) c) (fun c=>c≤d.ps.n) (fun c=>d.ps.n-c) (fun _ e J=>e = .exit 0∧J=qY (KF d s d.ps.n)) 8 QKO [] (mkE Try.prog Kh) (fun c=>{ hnd (mkE Try.prog Kh) 1 with loop:=fun _=>KD 8 [] (Jj d s (KF d s c) c 0) [(True,.exit 2,zb d s (KI d s (KF d s c) c 4) c)] }) (QV Try.f43 0):=by
 refine⟨fun c g hc=>WC (QPu d s _ _ c g) ?_⟩;refine QI (fun h => ?_) (fun h => ?_)
 ·have h:c<d.ps.n:=by have:=qdt h;omega
  have hw:i64.wrap ((c:Int)+1)=((c+1:Nat):Int):=(w64 (by omega) (by omega)).trans (by omega)
  refine QG (by simp;omega) (QG (by simp;omega) ?_)
  repeat' first|refine QU (show _=_ by with_reducible rfl) ?_|refine QU (show _≤_ from qlr _) ?_|refine QU (show QE _ _ _ _ from qRr) ?_
  refine KB fun _=>KE fun g => ?_;refine⟨c+1,h,by show d.ps.n-(c+1)<d.ps.n-c;omega,fun _ _ h=>h,rfl,rfl,_,QTe d s _ (KF d s (c+1)) c (c+1),?_⟩
  repeat' first|exact trivial|with_reducible rfl|exact qlr _|exact qRr|exact hw|refine And.intro ?_ ?_
  rfl
 ·have:c=d.ps.n:=by have:=of_decide_eq_false h;omega
  subst this;refine⟨_,⟨rfl,rfl⟩,rfl,rfl,_,QRU _ _,?_⟩
  repeat' first|exact trivial|with_reducible rfl|exact qlr _|exact qRr|refine And.intro ?_ ?_
theorem QPC(hn:d.ps.n≤900)(G:Ctx)(hrd:G.rd=none)(hG:G.n=8):Q9 (mkE Try.prog Kh) G { hnd (mkE Try.prog Kh) 1 with loop:=fun _=>KD 8 [] (Z1 d s [] (0:Nat)) [(True,.exit 0,qY (KF d s d.ps.n))] } (Qr Try.f43):=by
 refine JM (body:=QV Try.f43 0) (QT Z2) hrd (by kernel_rfl) ?_
 refine JE (n0:=8) (QT Z2) (by omega) (fun c hc=>QQy d s (KF d s c) c (by have:=vY d s c;have:c≤d.ps.n:=hc;omega) G hrd hG) (fun c hc=>(by decide:8≤32)) ?_ (QTf d s hn) (s0:=0) (Nat.zero_le _) ?_
 ·rintro t e J ⟨_,rfl⟩;exact(by decide:8≤32)
 ·rintro e J ⟨rfl,rfl⟩;exact⟨_,List.mem_cons_self,trivial,rfl,rfl⟩
def vu:WF (Puz×QK×Unit):=fun|(d,(s,_))=>(decide (d.ps.n≤900),.slz 0 0 (KF d s d.ps.n).length (.of 0),[KQ 56 0 (KF d s d.ps.n) ⟨0,0⟩])
def QBz:FC:=wFC vu
theorem QQt :Ka (mkE Try.prog Kh) { hnd (mkE Try.prog Kh) 1 with loop:=fun _=>KD 8 [] (Z1 d s [] (0:Nat)) [(True,.exit 0,qY (KF d s d.ps.n))] } Try.f43 (QY.vals
  0 ((d,s,()):Puz×QK×Unit)) (QY.blks 0 ((d,s,()):Puz×QK×Unit)) 8 = .ask (0=0) (.ask (0=0) (.ask (0=0) (.ask (0=0) (.ask (d.ps.n=d.ps.n) (.ask
  (cO=cO) (.ask ((d.ps.n:Int)=(d.ps.n:Int)) (.ask ((0:Int)=0) (.ask (s.up.kind=s.up.kind) (.ask (s.up.at_.lo=s.up.at_.lo) (.ask (s.up.at_.hi=s.up.at_.hi)
  (.ask (s.up.wide.lo=s.up.wide.lo) (.ask (s.up.wide.hi=s.up.wide.hi) (.ask (s.up.deep.lo=s.up.deep.lo) (.ask (s.up.deep.hi=s.up.deep.hi) (.ask (s.right.kind=s.right.kind)
  (.ask (s.right.at_.lo=s.right.at_.lo) (.ask (s.right.at_.hi=s.right.at_.hi) (.ask (s.right.wide.lo=s.right.wide.lo) (.ask (s.right.wide.hi=s.right.wide.hi) (.ask
  (s.right.deep.lo=s.right.deep.lo) (.ask (s.right.deep.hi=s.right.deep.hi) (.ask (s.down.kind=s.down.kind) (.ask (s.down.at_.lo=s.down.at_.lo) (.ask (s.down.at_.hi =
  s.down.at_.hi) (.ask (s.down.wide.lo=s.down.wide.lo) (.ask (s.down.wide.hi=s.down.wide.hi) (.ask (s.down.deep.lo=s.down.deep.lo) (.ask (s.down.deep.hi=s.down.deep.hi) (.ask
  (s.left.kind=s.left.kind) (.ask (s.left.at_.lo=s.left.at_.lo) (.ask (s.left.at_.hi=s.left.at_.hi) (.ask (s.left.wide.lo=s.left.wide.lo) (.ask (s.left.wide.hi =
  s.left.wide.hi) (.ask (s.left.deep.lo=s.left.deep.lo) (.ask (s.left.deep.hi=s.left.deep.hi) (.ask (0=0) (.ask (d.ps.n≤d.ps.n) (.ask (QE 28 d.ps.n (fun i=>QA.enc
  (d.ps.get i)) fun i=>QA.enc (d.ps.get i)) (.asm (True) (.all (fun(g0:Nat→Value) => .leaf (.slz 24 0 (KF d s d.ps.n).length cO) ([(24,.rowz true 56 [.int .i64,
  .int .i64] (KF d s d.ps.n).length fun i=>QA.enc ((KF d s d.ps.n).getD i ⟨0,0⟩))])))))))))))))))))))))))))))))))))))))))))):=by kernel_rfl
theorem QUK:K6 (mkE Try.prog Kh) (Qr Try.f43) 8 vu (fun x_=>{ hnd (mkE Try.prog Kh) 1 with loop:=fun _=>KD 8 [] (Z1 x_.1 x_.2.1 [] (0:Nat)) [(True,.exit 0,qY (KF x_.1 x_.2.1 x_.1.ps.n))] }):=by
 refine⟨?_⟩;rintro⟨d,⟨s,⟨⟩⟩⟩ hp G h1 h2;exact QPC d s (qdt hp) G h1 h2
theorem QP2:K5 (mkE Try.prog Kh) Try.f43 8 vu (fun x_=>{ hnd (mkE Try.prog Kh) 1 with loop:=fun _=>KD 8 [] (Z1 x_.1 x_.2.1 [] (0:Nat)) [(True,.exit 0,qY (KF x_.1 x_.2.1 x_.1.ps.n))] }):=by
 refine⟨?_⟩;rintro⟨d,⟨s,⟨⟩⟩⟩ hp;refine⟨⟨rfl,by simp[vu,KQ,Blk.own,Blk.all],rfl⟩,⟨?_⟩⟩
 rw[QQt d s];simp only[vu]at hp
 repeat' first|refine QU (show _=_ by with_reducible rfl) ?_|refine QU (show _≤_ from qlr _) ?_|refine QU (show QE _ _ _ _ from qRr) ?_
 refine KB fun _=>KE fun g=>⟨rfl,rfl,_,QNf _,?_⟩
 repeat' first|exact trivial|with_reducible rfl|exact qlr _|exact qRr|refine And.intro ?_ ?_
theorem QE8:QQ Try.prog 43 QBz:=
 JK (QT Z2) Try.func43 (by kernel_rfl) (by kernel_rfl) (by decide) QUK QP2
def ZK:Tab:=Qh Kh 43 QBz
theorem QCc:QW ZK:=Z2.add QE8
def WU:Bool:=d.ok&&J3 d.play ⟨1,fun _=>s⟩
def jC:List QC:=match WU d s with
 | true=>KF d s d.ps.n
 | false=>[]
def jV:Int:=match WU d s with
 | true=>0
 | false=>1
theorem QSJ(e f:Int)(o:List QC):QM 8 [.tup [.nils,vj e]] [] (Kr 8 (.tup [.slz 0 0 o.length cO,vi f]) [KQ 56 0 o ⟨0,0⟩])=(
  some [o.length=(0:Nat),e=f,o.length=(0:Nat)]):=by kernel_rfl
theorem QRj(n:Nat)(g:Nat→Nat→Int)(e f:Int)(o:List QC):QM 8 [.tup [.slz 144 0 n cO,vj e]] [(144,.rowz true 56 [.int .i64,.int .i64] n g)] (Kr 8 (.tup [.slz 0 0 o.length cO,vi f]) [KQ 56 0 o ⟨0,0⟩])=(
  some [(0:Nat)=(0:Nat),n=o.length,Cap.of (0:Nat)=Cap.of (0:Nat),e=f,o.length≤n,QE (2:Nat) o.length g fun i=>QA.enc (o.getD i (QC.mk (0:Int) (0 :
  Int)))]):=by kernel_rfl
def WN:WF (Puz×QK×Unit):=fun|(d,(s,_))=>(decide (d.ps.n≤900),.tup [.slz 0 0 (jC d s).length (.of 0),.int false .i64 (jV d s)],[KQ 56 0 (jC d s) ⟨0,0⟩])
def QFX:FC:=wFC WN
noncomputable abbrev Ke:List AV:=
  [vi s.up.kind,vi s.up.at_.lo,vi s.up.at_.hi,vi s.up.wide.lo,vi s.up.wide.hi,vi s.up.deep.lo,.int
  false .i64 s.up.deep.hi,vi s.right.kind,vi s.right.at_.lo,vi s.right.at_.hi,vi s.right.wide.lo,.int false .i64
  s.right.wide.hi,vi s.right.deep.lo,vi s.right.deep.hi,vi s.down.kind,vi s.down.at_.lo,vi s.down.at_.hi,.int
  false .i64 s.down.wide.lo,vi s.down.wide.hi,vi s.down.deep.lo,vi s.down.deep.hi,vi s.left.kind,.int false .i64
  s.left.at_.lo,vi s.left.at_.hi,vi s.left.wide.lo,vi s.left.wide.hi,vi s.left.deep.lo,vi s.left.deep.hi]
theorem QSI :Ka (mkE Try.prog ZK) (hnd (mkE Try.prog ZK) 0) Try.f15 (QY.vals 0 ((d,s,()):Puz×QK×Unit)) (QY.blks 0 ((d,s,()):Puz×QK×Unit)) 8 = .need
  (decide (d.ps.n≤d.ps.n)&&true&&decide (d.ps.n≤1000)) (.br (!d.ok) (.leaf (.tup [.nils,vj 1]) ([])) (.need (true&&(true&&true)&&decide (1≤1000)) (.br
  (!J3 d.play (Rw.mk 1 fun i=>QK.mk (Edge.mk (QS [(Ke s)] 0 i 0) (Sp.mk (QS [(Ke s)] 0 i 1) (QS [(Ke s)] 0 i 2)) (Sp.mk (QS [(Ke s)] 0 i 3) (QS [(Ke s)] 0 i
  4)) (Sp.mk (QS [(Ke s)] 0 i 5) (QS [(Ke s)] 0 i 6))) (Edge.mk (QS [(Ke s)] 0 i 7) (Sp.mk (QS [(Ke s)] 0 i 8) (QS [(Ke s)] 0 i 9)) (Sp.mk (QS [(Ke s)] 0 i 10)
  (QS [(Ke s)] 0 i 11)) (Sp.mk (QS [(Ke s)] 0 i 12) (QS [(Ke s)] 0 i 13))) (Edge.mk (QS [(Ke s)] 0 i 14) (Sp.mk (QS [(Ke s)] 0 i 15) (QS [(Ke s)] 0 i 16))
  (Sp.mk (QS [(Ke s)] 0 i 17) (QS [(Ke s)] 0 i 18)) (Sp.mk (QS [(Ke s)] 0 i 19) (QS [(Ke s)] 0 i 20))) (Edge.mk (QS [(Ke s)] 0 i 21) (Sp.mk (QS [(Ke s)] 0 i
  22) (QS [(Ke s)] 0 i 23)) (Sp.mk (QS [(Ke s)] 0 i 24) (QS [(Ke s)] 0 i 25)) (Sp.mk (QS [(Ke s)] 0 i 26) (QS [(Ke s)] 0 i 27))))) (.leaf (.tup [.nils,.int true
  .i64 1]) ([])) (.need (decide (d.ps.n≤d.ps.n)&&(true&&true)&&decide (d.ps.n≤900)) (.leaf (.tup [.slz 144 0 (KF d s d.ps.n).length cO,vj 0]) ([(144,
  .rowz true 56 [.int .i64,.int .i64] (KF d s d.ps.n).length fun i=>QA.enc ((KF d s d.ps.n).getD i ⟨0,0⟩))])))))):=by kernel_rfl
theorem QUY:K6 (mkE Try.prog ZK) (Qr Try.f15) 8 WN (fun x_=>(hnd (mkE Try.prog ZK) 0)):=by
 refine⟨?_⟩;rintro⟨d,⟨s,⟨⟩⟩⟩ hp G h1 h2;exact Q0 (QT QCc) 0 G _ h1
theorem QS0:K5 (mkE Try.prog ZK) Try.f15 8 WN (fun x_=>(hnd (mkE Try.prog ZK) 0)):=by
 refine⟨?_⟩;rintro⟨d,⟨s,⟨⟩⟩⟩ hp;refine⟨⟨rfl,by simp[WN,KQ,Blk.own,Blk.all],rfl⟩,⟨?_⟩⟩
 rw[QSI d s];simp only[WN]at hp;have hn:d.ps.n≤900:=qdt hp
 have no:WU d s=false→(QD.leaf (AV.tup [AV.nils,AV.int true i64 1]) []).den (XS 8 (WN (d,s,())).2.1 (WN (d,s,())).2.2):=by
  intro h;have h1:jC d s=[]:=by simp only[jC,h]
  have h2:jV d s=1:=by simp only[jV,h]
  refine⟨rfl,rfl,_,QSJ _ _ _,?_⟩;rw[h1,h2]
  repeat' first|exact trivial|with_reducible rfl|exact qlr _|exact qRr|refine And.intro ?_ ?_
  all_goals rfl
 refine QG (by simp;omega) (QI (fun h=>no ?_) (fun h=>QG rfl (QI (fun h2=>no ?_) (fun h2=>QG (by simp;omega) ?_))))
 ·have h:d.ok=false:=by simpa using h
  simp only[WU,h,Bool.false_and]
 ·have h2:J3 d.play ⟨1,fun _=>s⟩=false:=by simpa using (show(!J3 d.play ⟨1,fun _=>s⟩)=true from h2)
  simp only[WU,h2,Bool.and_false]
 ·have h:d.ok=true:=by simpa using h
  have h2:J3 d.play ⟨1,fun _=>s⟩=true:=by simpa using (show(!J3 d.play ⟨1,fun _=>s⟩)=false from h2)
  have hO:WU d s=true:=by simp only[WU,h,h2,Bool.and_self]
  have h3:jC d s=KF d s d.ps.n:=by simp only[jC,hO]
  have h4:jV d s=0:=by simp only[jV,hO]
  refine⟨rfl,rfl,_,QRj _ _ _ _ _,?_⟩;rw[h3,h4]
  repeat' first|exact trivial|with_reducible rfl|exact qlr _|exact qRr|refine And.intro ?_ ?_
theorem QOO:QQ Try.prog 15 QFX:=
 JK (QT QCc) Try.func15 (by kernel_rfl) (by kernel_rfl) (by decide) QUY QS0
def Z0:Tab:=Qh ZK 15 QFX
theorem QAc:QW Z0:=QCc.add QOO
def QH4:Int×Int×Unit→Bool×AV:=fun|(lo,(hi,_))=>(true,Enc.enc (⟨lo,hi⟩:Sp))
def QHm:FC:=Q3 (Q2 QH4)
theorem QSg(lo:Int)(hi:Int):Qx (mkE Try.prog Z0) (hnd (mkE Try.prog Z0) 2) false Try.f46 (Qm.enc ((lo,hi,()):Int×Int×Unit)) [] 0 =
  QD.leaf (AV.agg [AV.int false i64 lo,AV.int false i64 hi]) ([]):=by kernel_rfl
theorem QPI:QQ Try.prog 46 QHm:=by
 refine KA QAc 2 Try.func46 (by kernel_rfl) (by kernel_rfl) ?_
 rintro⟨lo,hi,⟨⟩⟩ hp;rw[QSg lo hi];simp only[QH4,QD.den,AV.same,AV.sameL,and_true,true_and]at hp ⊢;simp only[Enc.enc,AV.same,AV.sameL,and_self]
def QAF:Tab:=Qh Z0 46 QHm
theorem QEa:QW QAF:=QAc.add QPI
def QHi:Int×Int×Int×Unit→Bool×AV:=fun|(k,(w,(d,_)))=>(true,Enc.enc (⟨k,⟨1000,1000⟩,⟨w,w⟩,⟨d,d⟩⟩:Edge))
def QHA:FC:=Q3 (Q2 QHi)
theorem QVj(k:Int)(w:Int)(d:Int):Qx (mkE Try.prog QAF) (hnd (mkE Try.prog QAF) 2) false Try.f45 (Qm.enc ((k,w,d,()):Int×Int×Int×Unit)) [] 0 =
  QD.need (true) (QD.need (true) (QD.leaf (AV.agg [AV.int false i64 k,AV.int true i64 (1000:Int),AV.int true i64 (1000:Int),AV.int false
  i64 w,AV.int false i64 w,AV.int false i64 d,AV.int false i64 d]) ([]))):=by kernel_rfl
theorem QOS:QQ Try.prog 45 QHA:=by
 refine KA QEa 2 Try.func45 (by kernel_rfl) (by kernel_rfl) ?_
 rintro⟨k,w,d,⟨⟩⟩ hp;rw[QVj k w d];simp only[QHi,QD.den,AV.same,AV.sameL,and_true,true_and]at hp ⊢;simp only[Enc.enc,AV.same,AV.sameL,and_self]
def HL:Tab:=Qh QAF 45 QHA
theorem QLW:QW HL:=QEa.add QOS
def QF7:Int×Int×Int×Unit→Bool×AV:=fun|(k,(lo,(hi,_)))=>(true,Enc.enc (⟨k,⟨990,1010⟩,⟨lo,hi⟩,⟨395,415⟩⟩:Edge))
def QI2:FC:=Q3 (Q2 QF7)
theorem QRg(k:Int)(lo:Int)(hi:Int):Qx (mkE Try.prog HL) (hnd (mkE Try.prog HL) 2) false Try.f48 (Qm.enc ((k,lo,hi,()):Int×Int×Int×Unit)) [] 0 =
  QD.need (true) (QD.leaf (AV.agg [AV.int false i64 k,AV.int true i64 (990:Int),AV.int true i64 (1010:Int),AV.int false i64 lo,AV.int false
  i64 hi,AV.int true i64 (395:Int),AV.int true i64 (415:Int)]) ([])):=by kernel_rfl
theorem QUd:QQ Try.prog 48 QI2:=by
 refine KA QLW 2 Try.func48 (by kernel_rfl) (by kernel_rfl) ?_
 rintro⟨k,lo,hi,⟨⟩⟩ hp;rw[QRg k lo hi];simp only[QF7,QD.den,AV.same,AV.sameL,and_true,true_and]at hp ⊢;simp only[Enc.enc,AV.same,AV.sameL,and_self]
def QAn:Tab:=Qh HL 48 QI2
theorem QJw:QW QAn:=QLW.add QUd
def QLw:Edge×Edge×Unit→Bool×AV:=fun|(r,(l,_))=>(true,Enc.enc (⟨Kp,r,Kp,l⟩:QK))
def QMa:FC:=Q3 (Q2 QLw)
theorem QUI(r:Edge)(l:Edge):Qx (mkE Try.prog QAn) (hnd (mkE Try.prog QAn) 2) false Try.f47 (Qm.enc ((r,l,()):Edge×Edge×Unit)) [] 0 =
  QD.leaf (AV.agg [AV.int true i64 (0:Int),AV.int true i64 (0:Int),AV.int true i64 (0:Int),AV.int true i64 (0:Int),AV.int true
  i64 (0:Int),AV.int true i64 (0:Int),AV.int true i64 (0:Int),AV.int false i64 r.kind,AV.int false i64 r.at_.lo,AV.int false
  i64 r.at_.hi,AV.int false i64 r.wide.lo,AV.int false i64 r.wide.hi,AV.int false i64 r.deep.lo,AV.int false i64 r.deep.hi,AV.int true
  i64 (0:Int),AV.int true i64 (0:Int),AV.int true i64 (0:Int),AV.int true i64 (0:Int),AV.int true i64 (0:Int),AV.int true
  i64 (0:Int),AV.int true i64 (0:Int),AV.int false i64 l.kind,AV.int false i64 l.at_.lo,AV.int false i64 l.at_.hi,AV.int false
  i64 l.wide.lo,AV.int false i64 l.wide.hi,AV.int false i64 l.deep.lo,AV.int false i64 l.deep.hi]) ([]):=by kernel_rfl
theorem QV8:QQ Try.prog 47 QMa:=by
 refine KA QJw 2 Try.func47 (by kernel_rfl) (by kernel_rfl) ?_
 rintro⟨r,l,⟨⟩⟩ hp;rw[QUI r l];simp only[QLw,QD.den,AV.same,AV.sameL,and_true,true_and]at hp ⊢;simp only[Enc.enc,Kp,AV.same,AV.sameL,and_self]
def QAW:Tab:=Qh QAn 47 QMa
theorem QEZ:QW QAW:=QJw.add QV8
def pP:QK:=⟨Kp,⟨1,⟨990,1010⟩,⟨490,570⟩,⟨395,415⟩⟩,Kp,⟨2,⟨990,1010⟩,⟨505,525⟩,⟨395,415⟩⟩⟩
def pQ:QK:=⟨Kp,⟨1,⟨990,1010⟩,⟨495,505⟩,⟨395,415⟩⟩,Kp,⟨2,⟨990,1010⟩,⟨505,525⟩,⟨395,415⟩⟩⟩
def pR:QK:=⟨Kp,Kp,⟨1,⟨990,1010⟩,⟨490,510⟩,⟨395,415⟩⟩,Kp⟩
def QIf:Unit→Bool×AV:=fun _=>(true,Enc.enc pP)
def QJc:FC:=Q3 (Q2 QIf)
theorem QWO :Qx (mkE Try.prog QAW) (hnd (mkE Try.prog QAW) 2) false Try.f22 (Qm.enc (():Unit)) [] 0 =
  QD.leaf (AV.agg [AV.int true i64 (0:Int),AV.int true i64 (0:Int),AV.int true i64 (0:Int),AV.int true i64 (0:Int),AV.int true
  i64 (0:Int),AV.int true i64 (0:Int),AV.int true i64 (0:Int),AV.int true i64 (1:Int),AV.int true i64 (990:Int),AV.int true
  i64 (1010:Int),AV.int true i64 (490:Int),AV.int true i64 (570:Int),AV.int true i64 (395:Int),AV.int true i64 (415:Int),AV.int
  true i64 (0:Int),AV.int true i64 (0:Int),AV.int true i64 (0:Int),AV.int true i64 (0:Int),AV.int true i64 (0:Int),AV.int true
  i64 (0:Int),AV.int true i64 (0:Int),AV.int true i64 (2:Int),AV.int true i64 (990:Int),AV.int true i64 (1010:Int),AV.int true
  i64 (505:Int),AV.int true i64 (525:Int),AV.int true i64 (395:Int),AV.int true i64 (415:Int)]) ([]):=by kernel_rfl
theorem QPD:QQ Try.prog 22 QJc:=by
 refine KA QEZ 2 Try.func22 (by kernel_rfl) (by kernel_rfl) ?_
 rintro⟨⟩ hp;rw[QWO];simp only[QIf,QD.den,AV.same,AV.sameL,and_true,true_and]at hp ⊢;simp only[Enc.enc,pP,Kp,AV.same,AV.sameL,and_self]
def QAt:Tab:=Qh QAW 22 QJc
theorem QGo:QW QAt:=QEZ.add QPD
def QE6:Unit→Bool×AV:=fun _=>(true,Enc.enc pQ)
def QE9:FC:=Q3 (Q2 QE6)
theorem QTg :Qx (mkE Try.prog QAt) (hnd (mkE Try.prog QAt) 2) false Try.f24 (Qm.enc (():Unit)) [] 0 =
  QD.leaf (AV.agg [AV.int true i64 (0:Int),AV.int true i64 (0:Int),AV.int true i64 (0:Int),AV.int true i64 (0:Int),AV.int true
  i64 (0:Int),AV.int true i64 (0:Int),AV.int true i64 (0:Int),AV.int true i64 (1:Int),AV.int true i64 (990:Int),AV.int true
  i64 (1010:Int),AV.int true i64 (495:Int),AV.int true i64 (505:Int),AV.int true i64 (395:Int),AV.int true i64 (415:Int),AV.int
  true i64 (0:Int),AV.int true i64 (0:Int),AV.int true i64 (0:Int),AV.int true i64 (0:Int),AV.int true i64 (0:Int),AV.int true
  i64 (0:Int),AV.int true i64 (0:Int),AV.int true i64 (2:Int),AV.int true i64 (990:Int),AV.int true i64 (1010:Int),AV.int true
  i64 (505:Int),AV.int true i64 (525:Int),AV.int true i64 (395:Int),AV.int true i64 (415:Int)]) ([]):=by kernel_rfl
theorem QPY:QQ Try.prog 24 QE9:=by
 refine KA QGo 2 Try.func24 (by kernel_rfl) (by kernel_rfl) ?_
 rintro⟨⟩ hp;rw[QTg];simp only[QE6,QD.den,AV.same,AV.sameL,and_true,true_and]at hp ⊢;simp only[Enc.enc,pQ,Kp,AV.same,AV.sameL,and_self]
def QAY:Tab:=Qh QAt 24 QE9
theorem QIB:QW QAY:=QGo.add QPY
def QHf:Unit→Bool×AV:=fun _=>(true,Enc.enc pR)
def QFx:FC:=Q3 (Q2 QHf)
theorem QT1 :Qx (mkE Try.prog QAY) (hnd (mkE Try.prog QAY) 2) false Try.f19 (Qm.enc (():Unit)) [] 0 =
  QD.leaf (AV.agg [AV.int true i64 (0:Int),AV.int true i64 (0:Int),AV.int true i64 (0:Int),AV.int true i64 (0:Int),AV.int true
  i64 (0:Int),AV.int true i64 (0:Int),AV.int true i64 (0:Int),AV.int true i64 (0:Int),AV.int true i64 (0:Int),AV.int true
  i64 (0:Int),AV.int true i64 (0:Int),AV.int true i64 (0:Int),AV.int true i64 (0:Int),AV.int true i64 (0:Int),AV.int true
  i64 (1:Int),AV.int true i64 (990:Int),AV.int true i64 (1010:Int),AV.int true i64 (490:Int),AV.int true i64 (510:Int),AV.int
  true i64 (395:Int),AV.int true i64 (415:Int),AV.int true i64 (0:Int),AV.int true i64 (0:Int),AV.int true i64 (0:Int),AV.int
  true i64 (0:Int),AV.int true i64 (0:Int),AV.int true i64 (0:Int),AV.int true i64 (0:Int)]) ([]):=by kernel_rfl
theorem QOe:QQ Try.prog 19 QFx:=by
 refine KA QIB 2 Try.func19 (by kernel_rfl) (by kernel_rfl) ?_
 rintro⟨⟩ hp;rw[QT1];simp only[QHf,QD.den,AV.same,AV.sameL,and_true,true_and]at hp ⊢;simp only[Enc.enc,pR,Kp,AV.same,AV.sameL,and_self]
def Y0:Tab:=Qh QAY 19 QFx
theorem QDN:QW Y0:=QIB.add QOe
def exE(k w d:Int):Edge:=⟨k,⟨1000,1000⟩,⟨w,w⟩,⟨d,d⟩⟩
def QTx:List QK:=[⟨Kp,exE 1 500 400,Kp,Kp⟩,⟨Kp,exE 1 500 400,Kp,exE 2 515 410⟩,⟨Kp,exE 1 560 400,Kp,exE 2 515 410⟩,⟨Kp,Kp,Kp,exE 2 575 410⟩]
def QHs:AV := .agg [.int false .i64 2000,.int false .i64 20,.int false .i64 30,.int false .i64 0,.int false .i64 10,.int false .i64 4,.int false .i64 1,.bool false false,.slice true 0 0 4 (.lit 4)]
def QEv:Nat×Blk:=(0,.rowl 33 28 (QTx.map fun p=>(Enc.enc p).cells))
noncomputable abbrev QH0:List AV:=
  [vj 2000,vj 20,vj 30,vj 0,vj 10,vj 4,vj 1,.bool true false,.slice true 248 0 4 (Cap.lit
  4)]
noncomputable abbrev QGL:List (Nat×Blk):=
  [(248,.rowl 33 28 [[vj 0,vj 0,vj 0,vj 0,vj 0,vj 0,vj 0,vj 1,.int true .i64
  1000,vj 1000,vj 500,vj 500,vj 400,vj 400,vj 0,vj 0,vj 0,vj 0,
  .int true .i64 0,vj 0,vj 0,vj 0,vj 0,vj 0,vj 0,vj 0,vj 0,vj 0],
  [vj 0,vj 0,vj 0,vj 0,vj 0,vj 0,vj 0,vj 1,vj 1000,.int true .i64
  1000,vj 500,vj 500,vj 400,vj 400,vj 0,vj 0,vj 0,vj 0,vj 0,.int
  true .i64 0,vj 0,vj 2,vj 1000,vj 1000,vj 515,vj 515,vj 410,vj 410],[.int
  true .i64 0,vj 0,vj 0,vj 0,vj 0,vj 0,vj 0,vj 1,vj 1000,vj 1000,
  .int true .i64 560,vj 560,vj 400,vj 400,vj 0,vj 0,vj 0,vj 0,vj 0,.int true
  .i64 0,vj 0,vj 2,vj 1000,vj 1000,vj 515,vj 515,vj 410,vj 410],[.int true
  .i64 0,vj 0,vj 0,vj 0,vj 0,vj 0,vj 0,vj 0,vj 0,vj 0,.int true
  .i64 0,vj 0,vj 0,vj 0,vj 0,vj 0,vj 0,vj 0,vj 0,vj 0,.int true
  .i64 0,vj 2,vj 1000,vj 1000,vj 575,vj 575,vj 410,vj 410]])]
abbrev qd:List Prop:=
  [(0:Int)=0,(0:Int)=0,(0:Int)=0,(0:Int)=0,(0:Int)=0]
abbrev QDy:List Prop:=
  [(0:Int)=0,(0:Int)=0,(1:Int)=1,(1000:Int)=1000,(1000:Int)=1000]
abbrev QHj:List Prop:=
  [(0:Int)=0,(0:Int)=0,(0:Int)=0,(0:Int)=0,(0:Int)=0,(0:Int)=0,(0:Int)=0,(0:Int)=0,(0:Int)=0,(0:Int)=0,(0:Int)=0,(0:Int)=0]
abbrev QDk:List Prop:=
  [(0:Int)=0,(0:Int)=0,(2:Int)=2,(1000:Int)=1000,(1000:Int)=1000]
theorem QSy :QM 8 [(.agg QH0)] (QGL) (Kr 8 QHs [QEv])=(some ([(2000:Int)=2000,(20:Int)=20,(30:Int)=30,(0:Int)=0,(10:Int)=10,(4:Int)=4,(1:Int)=1,
  false=false,0=0,4=4,Cap.lit 4=Cap.lit 4]++qd++QDy++[(500:Int)=500,(500:Int)=500,(400:Int)=400,(400:Int)=400]++QHj++qd++[(0:Int) =
  0,(0:Int)=0]++QDy++[(500:Int)=500,(500:Int)=500,(400:Int)=400,(400:Int)=400]++qd++QDk++[(515:Int)=515,(515:Int)=515,(410:Int) =
  410,(410:Int)=410]++qd++QDy++[(560:Int)=560,(560:Int)=560,(400:Int)=400,(400:Int)=400]++qd++QDk++[(515:Int)=515,(515:Int)=515,
  (410:Int)=410,(410:Int)=410]++QHj++qd++[(0:Int)=0,(0:Int)=0]++QDk++[(575:Int)=575,(575:Int)=575,(410:Int)=410,(410:Int)=410])):=by kernel_rfl
def Hy:WF (Unit):=fun|_=>(true,QHs,[QEv])
def QMR:FC:=wFC Hy
theorem QXM :Ka (mkE Try.prog Y0) (hnd (mkE Try.prog Y0) 2) Try.f18 (QY.vals 0 ((()):Unit)) (QY.blks 0 ((()):Unit)) 8 = .leaf (.agg QH0) (QGL):=by kernel_rfl
theorem QNE:K6 (mkE Try.prog Y0) (Qr Try.f18) 8 Hy (fun x_=>(hnd (mkE Try.prog Y0) 2)):=by
 refine⟨?_⟩;rintro⟨⟩ hp G h1 h2;exact Q0 (QT QDN) 2 G _ h1
theorem QN6:K5 (mkE Try.prog Y0) Try.f18 8 Hy (fun x_=>(hnd (mkE Try.prog Y0) 2)):=by
 refine⟨?_⟩;rintro⟨⟩ hp;refine⟨⟨rfl,by decide,rfl⟩,⟨?_⟩⟩
 rw[QXM];simp only[Hy]at hp;exact⟨rfl,rfl,_,QSy,by repeat' first|exact trivial|rfl|refine And.intro ?_ ?_⟩
theorem QUL:QQ Try.prog 18 QMR:=
 JK (QT QDN) Try.func18 (by kernel_rfl) (by kernel_rfl) (by decide) QNE QN6
def VX:Tab:=Qh Y0 18 QMR
theorem Y8:QW VX:=QDN.add QUL
structure Jn where
 a:Int
 i:Int
 b:Int
 j:Int
instance : QA Jn where
  ks := [.int .i64,.int .i64,.int .i64,.int .i64]
  enc p j := match j with
    | 0 => p.a
    | 1 => p.i
    | 2 => p.b
    | _ => p.j
  dec f := ⟨f 0,f 1,f 2,f 3⟩
  ok _ := rfl
instance : Enc Jn where
  enc x := .agg [.int false .i64 x.a,.int false .i64 x.i,.int false .i64 x.b,.int false .i64 x.j]
  dec | .agg [.int _ .i64 a0,.int _ .i64 a1,.int _ .i64 a2,.int _ .i64 a3] => some ⟨a0,a1,a2,a3⟩ | _ => none
  ok v x h := by
    split at h <;> (try (cases h; done))
    simp only[qsI]at h; subst h; exact⟨fun _ => rfl,rfl⟩
instance : Enc QC where
  enc x := .agg [.int false .i64 x.cell,.int false .i64 x.turn]
  dec | .agg [.int _ .i64 a0,.int _ .i64 a1] => some ⟨a0,a1⟩ | _ => none
  ok v x h := by
    split at h <;> (try (cases h; done))
    simp only[qsI]at h; subst h; exact⟨fun _ => rfl,rfl⟩
structure QB where
 d:Puz
 scans:Rw QK
 hang:Rw Jn
 lost:Int
 foreign:Int
def JQ(k:Nat)(x:QB):List AV:=[.int false .i64 x.d.play.length,.int false .i64 x.d.play.slack,.int false .i64 x.d.play.loose,.int false .i64 x.d.play.damp.lo,.int false .i64 x.d.play.damp.hi,.int false .i64 x.d.wide,.int false .i64 x.d.high,.bool false x.d.turn,Q4.val k x.d.ps,Q4.val (k+1) x.scans,Q4.val (k+2) x.hang,.int false .i64 x.lost,.int false .i64 x.foreign]
def JN(k:Nat)(x:QB):List (Nat×Blk):=Q4.blk k x.d.ps++(Q4.blk (k+1) x.scans++Q4.blk (k+2) x.hang)
instance {β : Type} [QY β] : QY (QB × β) where
  len := QY.len β + 3
  vals k x := .agg (JQ k x.1) :: QY.vals (k + 3) x.2
  blks k x := JN k x.1 ++ QY.blks (k + 3) x.2
  dec
    | v :: l,lk => (match v with
      | .agg [.int _ .i64 a,.int _ .i64 b,.int _ .i64 c,.int _ .i64 d,.int _ .i64 e,.int _ .i64 f,.int _ .i64 g,.bool _ t,s1,s2,s3,.int _ .i64 lo,.int _ .i64 fo] => (match (Q4.dec s1 lk : Option (Bool × Rw QK)),(Q4.dec s2 lk : Option (Bool × Rw QK)),(Q4.dec s3 lk : Option (Bool × Rw Jn)),(QY.dec l lk : Option (Bool × β))with
        | some (p1,x1),some (p2,x2),some (p3,x3),some (q,y) => some (p1 && (p2 && (p3 && q)),⟨⟨⟨a,b,c,⟨d,e⟩⟩,f,g,t,x1⟩,x2,x3,lo,fo⟩,y)
        | _,_,_,_ => none)
      | _ => none)
    | _,_ => none
  ok vs lk p x h hp := by
    split at h <;> (try (cases h; done))
    split at h <;> (try (cases h; done))
    split at h <;> (try (cases h; done))
    rename_i l lk' _ _ a _ b _ c _ d _ e _ f _ g _ t s1 s2 s3 _ lo _ fo _ _ _ _ p1 x1 p2 x2 p3 x3 q y h1 h2 h3 h4;simp only[qsI,qpI]at h;obtain⟨rfl,rfl⟩ := h;simp only[qbA]at hp;obtain⟨a1,a2⟩ := Q4.ok _ _ _ _ h1 hp.1;obtain⟨b1,b2⟩ := Q4.ok _ _ _ _ h2 hp.2.1;obtain⟨c1,c2⟩ := Q4.ok _ _ _ _ h3 hp.2.2.1;obtain⟨d1,d2⟩ := QY.ok _ _ _ _ h4 hp.2.2.2;refine⟨fun k => ⟨?_,fun z hz => ?_⟩,fun r w hw => ?_⟩
    · simp only[AV.allL,qbA]
      refine⟨?_,allL_mono (fun i hi => ?_) _ (d1 (k + 3)).1⟩
      · simp only[AV.all,JQ,AV.allL,Bool.true_and,Bool.and_true,qbA]
        refine⟨all_mono (fun i hi => ?_) _ (a1 k).1,all_mono (fun i hi => ?_) _ (b1 (k + 1)).1,all_mono (fun i hi => ?_) _ (c1 (k + 2)).1⟩
        · have hi : i = k := by simpa using hi
          subst hi; simp
        · have hi : i = k + 1 := by simpa using hi
          subst hi; simp
        · have hi : i = k + 2 := by simpa using hi
          subst hi; simp
      · simp only[qdE]at hi ⊢; omega
    · simp only[JN,List.mem_append]at hz
      rcases hz with (hz | hz | hz) | hz
      · obtain⟨e1,e2,e3⟩ := (a1 k).2 z hz
        exact⟨by omega,e2,e3⟩
      · obtain⟨e1,e2,e3⟩ := (b1 (k + 1)).2 z hz
        exact⟨by omega,e2,e3⟩
      · obtain⟨e1,e2,e3⟩ := (c1 (k + 2)).2 z hz
        exact⟨by omega,e2,e3⟩
      · obtain⟨e1,e2,e3⟩ := (d1 (k + 3)).2 z hz
        exact⟨by omega,e2,e3⟩
    · obtain⟨l1,e1⟩ := a2 r w hw
      obtain⟨l2,e2⟩ := b2 r w hw;obtain⟨l3,e3⟩ := c2 r w hw;obtain⟨L,e4⟩ := d2 r w hw;refine⟨fun i => match i with | 0 => l1 | 1 => l2 | 2 => l3 | i + 3 => L i,fun k r' hr => ?_⟩
      obtain⟨g1,g2⟩ := e1 k r' (by simpa using hr 0 (by omega))
      obtain⟨g3,g4⟩ := e2 (k + 1) r' (hr 1 (by omega))
      obtain⟨g5,g6⟩ := e3 (k + 2) r' (hr 2 (by omega))
      obtain⟨g7,g8⟩ := e4 (k + 3) r' (fun i hi => by have := hr (i + 3) (by omega); rw[show k + 3 + i = k + (i + 3) by omega]; exact this)
      refine⟨?_,fun z hz => ?_⟩
      · simp only[AV.denL,AV.den,JQ]at g1 g3 g5 g7 ⊢
        rw[g1,g3,g5,g7]
      · simp only[JN,List.mem_append]at hz
        rcases hz with (hz | hz | hz) | hz
        · exact g2 z hz
        · exact g4 z hz
        · exact g6 z hz
        · exact g8 z hz
end Go.Proofs.Ytbpffdkemeoajaa
