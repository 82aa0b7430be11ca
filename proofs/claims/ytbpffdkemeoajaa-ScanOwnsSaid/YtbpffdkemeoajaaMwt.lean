/- - -/
import Derived.Test.YtbpffdkemeoajaaMws
open Go.IntKind (i64)
set_option maxRecDepth 100000
namespace Go.Proofs.Ytbpffdkemeoajaa
open Go.SX
def QJi:Ex→List Nat
 | .normal=>[3,4,11,12,13]
 | .exit _=>[4]
 | .ret=>[]
variable (d:Puz)(s:QT)(o:List QB)
def jo:JSt:=⟨49,[(4,.slz 24 0 o.length (.of 0))],[KN 56 24 o ⟨0,0⟩],32⟩
noncomputable abbrev QG7(o':List QB)(s:QT):List (Nat×Blk):=
  [(16,.cells 7 33 [vi s.up.kind,vi s.up.at_.lo,vi s.up.at_.hi,vi s.up.wide.lo,vi s.up.wide.hi,.int false .i64
  s.up.deep.lo,vi s.up.deep.hi,vi s.right.kind,vi s.right.at_.lo,vi s.right.at_.hi,vi s.right.wide.lo,.int false
  .i64 s.right.wide.hi,vi s.right.deep.lo,vi s.right.deep.hi,vi s.down.kind,vi s.down.at_.lo,vi s.down.at_.hi,
  .int false .i64 s.down.wide.lo,vi s.down.wide.hi,vi s.down.deep.lo,vi s.down.deep.hi,vi s.left.kind,.int false .i64
  s.left.at_.lo,vi s.left.at_.hi,vi s.left.wide.lo,vi s.left.wide.hi,vi s.left.deep.lo,vi s.left.deep.hi]),(24,
  .rowz true 56 [.int .i64,.int .i64] o'.length fun i=>QA.enc (o'.getD i ⟨0,0⟩)),(0,.frz [.int .i64,.int .i64,.int .i64,.int .i64,.int .i64,.int .i64,.int .i64,.int
  .i64,.int .i64,.int .i64,.int .i64,.int .i64,.int .i64,.int .i64,.int .i64,.int .i64,.int .i64,.int .i64,.int .i64,.int .i64,.int .i64,.int .i64,.int .i64,.int .i64,
  .int .i64,.int .i64,.int .i64,.int .i64] d.ps.n fun i=>QA.enc (d.ps.get i))]
theorem QZd(o o':List QB)(c:Nat)(g:Nat→Value):exec (mkE Try.prog Kx) { hnd (mkE Try.prog Kx) 1 with loop:=fun _=>Q7 8 [] (J9 d s o c 0) [(True,.exit 2,Gy d s o' c)] } (QW Try.f43 0) (JSt.inst (W8 d s
  o c) g) (KF [] QJi) = .br (decide ((c:Int)<(d.ps.n:Int))) (.need (decide ((0:Int)≤(c:Int)∧(c:Int)<(d.ps.n:Int))&&decide (d.ps.n≤d.ps.n)) (.need (decide
  (c<d.ps.n)) (.ask (0=0) (.ask (0=0) (.ask (0=0) (.ask (o.length=o.length) (.ask (cO=cO) (.ask ((c:Int)=(c:Int)) (.ask (0=0) (.ask (0=0) (.ask (0 =
  0) (.ask (d.ps.n=d.ps.n) (.ask (cO=cO) (.ask ((d.ps.n:Int)=(d.ps.n:Int)) (.ask ((c:Int)=(c:Int)) (.ask ((0:Int)=0) (.ask (s.up.kind=s.up.kind)
  (.ask (s.up.at_.lo=s.up.at_.lo) (.ask (s.up.at_.hi=s.up.at_.hi) (.ask (s.up.wide.lo=s.up.wide.lo) (.ask (s.up.wide.hi=s.up.wide.hi) (.ask (s.up.deep.lo=s.up.deep.lo) (.ask
  (s.up.deep.hi=s.up.deep.hi) (.ask (s.right.kind=s.right.kind) (.ask (s.right.at_.lo=s.right.at_.lo) (.ask (s.right.at_.hi=s.right.at_.hi) (.ask (s.right.wide.lo =
  s.right.wide.lo) (.ask (s.right.wide.hi=s.right.wide.hi) (.ask (s.right.deep.lo=s.right.deep.lo) (.ask (s.right.deep.hi=s.right.deep.hi) (.ask (s.down.kind=s.down.kind)
  (.ask (s.down.at_.lo=s.down.at_.lo) (.ask (s.down.at_.hi=s.down.at_.hi) (.ask (s.down.wide.lo=s.down.wide.lo) (.ask (s.down.wide.hi=s.down.wide.hi) (.ask (s.down.deep.lo =
  s.down.deep.lo) (.ask (s.down.deep.hi=s.down.deep.hi) (.ask (s.left.kind=s.left.kind) (.ask (s.left.at_.lo=s.left.at_.lo) (.ask (s.left.at_.hi=s.left.at_.hi) (.ask
  (s.left.wide.lo=s.left.wide.lo) (.ask (s.left.wide.hi=s.left.wide.hi) (.ask (s.left.deep.lo=s.left.deep.lo) (.ask (s.left.deep.hi=s.left.deep.hi) (.ask (o.length≤o.length)
  (.ask (QC 2 o.length (fun i=>QA.enc (o.getD i ⟨0,0⟩)) fun i=>QA.enc (o.getD i ⟨0,0⟩)) (.ask ((d.ps.get c).up.kind=(d.ps.get c).up.kind) (.ask ((d.ps.get c).up.at_.lo
  = (d.ps.get c).up.at_.lo) (.ask ((d.ps.get c).up.at_.hi=(d.ps.get c).up.at_.hi) (.ask ((d.ps.get c).up.wide.lo=(d.ps.get c).up.wide.lo) (.ask ((d.ps.get c).up.wide.hi =
  (d.ps.get c).up.wide.hi) (.ask ((d.ps.get c).up.deep.lo=(d.ps.get c).up.deep.lo) (.ask ((d.ps.get c).up.deep.hi=(d.ps.get c).up.deep.hi) (.ask ((d.ps.get c).right.kind =
  (d.ps.get c).right.kind) (.ask ((d.ps.get c).right.at_.lo=(d.ps.get c).right.at_.lo) (.ask ((d.ps.get c).right.at_.hi=(d.ps.get c).right.at_.hi) (.ask ((d.ps.get
  c).right.wide.lo=(d.ps.get c).right.wide.lo) (.ask ((d.ps.get c).right.wide.hi=(d.ps.get c).right.wide.hi) (.ask ((d.ps.get c).right.deep.lo=(d.ps.get c).right.deep.lo) (.ask
  ((d.ps.get c).right.deep.hi=(d.ps.get c).right.deep.hi) (.ask ((d.ps.get c).down.kind=(d.ps.get c).down.kind) (.ask ((d.ps.get c).down.at_.lo=(d.ps.get c).down.at_.lo) (.ask
  ((d.ps.get c).down.at_.hi=(d.ps.get c).down.at_.hi) (.ask ((d.ps.get c).down.wide.lo=(d.ps.get c).down.wide.lo) (.ask ((d.ps.get c).down.wide.hi=(d.ps.get c).down.wide.hi)
  (.ask ((d.ps.get c).down.deep.lo=(d.ps.get c).down.deep.lo) (.ask ((d.ps.get c).down.deep.hi=(d.ps.get c).down.deep.hi) (.ask ((d.ps.get c).left.kind=(d.ps.get c).left.kind)
  (.ask ((d.ps.get c).left.at_.lo=(d.ps.get c).left.at_.lo) (.ask ((d.ps.get c).left.at_.hi=(d.ps.get c).left.at_.hi) (.ask ((d.ps.get c).left.wide.lo=(d.ps.get c).left.wide.lo)
  (.ask ((d.ps.get c).left.wide.hi=(d.ps.get c).left.wide.hi) (.ask ((d.ps.get c).left.deep.lo=(d.ps.get c).left.deep.lo) (.ask ((d.ps.get c).left.deep.hi=(d.ps.get
  c).left.deep.hi) (.ask (d.ps.n≤d.ps.n) (.ask (QC 28 d.ps.n (fun i=>QA.enc (d.ps.get i)) fun i=>QA.enc (d.ps.get i)) (.asm (True) (.all (fun(g0:Nat→Value) => .leaf
  (.tup [.nilp,.ptr 49 0 0,.ptr 16 0 0,.slz 24 0 o'.length cO,.slz 0 0 d.ps.n cO,vi (d.ps.n:Int),vi (i64.wrap ((c:Int) +
  1))]) ((QG7 d o' s))))))))))))))))))))))))))))))))))))))))))))))))))))))))))))))))))))))))))))))))) (.leaf (.tup [.ptr 0 0 0,.ptr 49 0 0,.slz 24 0 o.length cO]) ([(24,
  .rowz true 56 [.int .i64,.int .i64] o.length fun i=>QA.enc (o.getD i ⟨0,0⟩))])):=by kernel_rfl
theorem QYe(o' o2:List QB)(c c1:Nat):QL 8 [.ptr 16 0 0,.slz 24 0 o'.length cO,.slz 0 0 d.ps.n cO,vi (d.ps.n:Int),vi (i64.wrap ((c:Int)+1))] ((QG7 d o' s))
  (W8 d s o2 c1)=(some [0=0,0=0,0=0,o'.length=o2.length,cO=cO,0=0,d.ps.n=d.ps.n,cO=cO,(d.ps.n:Int)=(d.ps.n:Int),
  i64.wrap ((c:Int)+1)=(c1:Int),s.up.kind=s.up.kind,s.up.at_.lo=s.up.at_.lo,s.up.at_.hi=s.up.at_.hi,s.up.wide.lo=s.up.wide.lo,s.up.wide.hi=s.up.wide.hi,
  s.up.deep.lo=s.up.deep.lo,s.up.deep.hi=s.up.deep.hi,s.right.kind=s.right.kind,s.right.at_.lo=s.right.at_.lo,s.right.at_.hi=s.right.at_.hi,s.right.wide.lo =
  s.right.wide.lo,s.right.wide.hi=s.right.wide.hi,s.right.deep.lo=s.right.deep.lo,s.right.deep.hi=s.right.deep.hi,s.down.kind=s.down.kind,s.down.at_.lo=s.down.at_.lo,
  s.down.at_.hi=s.down.at_.hi,s.down.wide.lo=s.down.wide.lo,s.down.wide.hi=s.down.wide.hi,s.down.deep.lo=s.down.deep.lo,s.down.deep.hi=s.down.deep.hi,s.left.kind =
  s.left.kind,s.left.at_.lo=s.left.at_.lo,s.left.at_.hi=s.left.at_.hi,s.left.wide.lo=s.left.wide.lo,s.left.wide.hi=s.left.wide.hi,s.left.deep.lo=s.left.deep.lo,
  s.left.deep.hi=s.left.deep.hi,o2.length≤o'.length,QC 2 o2.length (fun i=>QA.enc (o'.getD i ⟨0,0⟩)) fun i=>QA.enc (o2.getD i ⟨0,0⟩),d.ps.n≤d.ps.n,QC 28
  d.ps.n (fun i=>QA.enc (d.ps.get i)) fun i=>QA.enc (d.ps.get i)]):=by kernel_rfl
theorem QRg(o o2:List QB):QL 8 [AV.slz (24:Nat) (0:Nat) o.length (Cap.of (0:Nat))] ([((24:Nat),Blk.rowz true (56:Nat) [CK.int i64,CK.int i64] o.length fun i=>QA.enc (o.getD i (QB.mk (0:Int) (0:Int))))]) (jo o2)=(
  some [(0:Nat)=(0:Nat),o.length=o2.length,Cap.of (0:Nat)=Cap.of (0:Nat),o2.length≤o.length,QC (2:Nat) o2.length (fun i=>QA.enc (o.getD i (QB.mk (0 :
  Int) (0:Int)))) fun i=>QA.enc (o2.getD i (QB.mk (0:Int) (0:Int)))]):=by kernel_rfl
theorem QV0:QL 8 [.slz 24 0 o.length cO] [(24,.rowz true 56 [.int .i64,.int .i64] o.length fun i=>QA.enc (o.getD i ⟨0,0⟩))] (KW 8 (.slz 0 0 o.length cO) [KN 56 0 o ⟨0,0⟩])=(
  some [(0:Nat)=(0:Nat),o.length=o.length,Cap.of (0:Nat)=Cap.of (0:Nat),o.length≤o.length,QC (2:Nat) o.length (fun i=>QA.enc (o.getD i (QB.mk (0:Int)
  (0:Int)))) fun i=>QA.enc (o.getD i (QB.mk (0:Int) (0:Int)))]):=by kernel_rfl
theorem QP2(c:Nat)(ho:o.length≤4000)(G:Ctx)(hrd:G.rd=none)(hG:G.n=8):Q1 (mkE Try.prog Kx) G { hnd (mkE Try.prog Kx) 1 with loop:=fun _=>Q7 8 [] (J9 d s o c 0) [(True,.exit 2,Gy d s (KX d s o c 4) c)] } (QW Try.f43 0):=by
 refine JF (body:=Xu (QW Try.f43 0)) (QP qC) hrd (by kernel_rfl) ?_
 refine JG (n0:=8) (QP qC) (by omega) (fun t ht=>Qq (QP qC) 6 G _ hrd) (fun t ht=>(by decide:8≤40)) ?_ (QRj d s o c ho) (s0:=0) (Nat.zero_le _) ?_
 ·rintro t e J ⟨_,rfl⟩;exact(by decide:8≤40)
 ·rintro e J ⟨rfl,rfl⟩;exact⟨_,List.mem_cons_self,trivial,rfl,rfl⟩
theorem QZR(hn:d.ps.n≤900):K0 (fun c=>W8 d s (KP d s c) c) (fun c=>c≤d.ps.n) (fun c=>d.ps.n-c) (fun _ e J=>e = .exit 0∧J=jo (KP d s d.ps.n)) 8 QJi [] (mkE Try.prog Kx) (fun c=>{ hnd (mkE Try.prog Kx) 1 with loop:=fun _=>Q7 8 [] (J9 d s (KP d s c) c 0) [(True,.exit 2,Gy d s (KX d s (KP d s c) c 4) c)] }) (QW Try.f43 0):=by
 refine⟨fun c g hc=>Wn (QZd d s _ _ c g) ?_⟩;refine QI (fun h => ?_) (fun h => ?_)
 ·have h:c<d.ps.n:=by have:=qdt h;omega
  have hw:i64.wrap ((c:Int)+1)=((c+1:Nat):Int):=(w64 (by omega) (by omega)).trans (by omega)
  refine QF (by simp;omega) (QF (by simp;omega) ?_)
  repeat' first|refine QR (show _=_ by with_reducible rfl) ?_|refine QR (show _≤_ from qlr _) ?_|refine QR (show QC _ _ _ _ from qRr) ?_
  refine KA fun _=>Q6 fun g => ?_;refine⟨c+1,h,by show d.ps.n-(c+1)<d.ps.n-c;omega,fun _ _ h=>h,rfl,rfl,_,QYe d s _ (KP d s (c+1)) c (c+1),?_⟩
  repeat' first|exact trivial|with_reducible rfl|exact qlr _|exact qRr|exact hw|refine And.intro ?_ ?_
  rfl
 ·have:c=d.ps.n:=by have:=of_decide_eq_false h;omega
  subst this;refine⟨_,⟨rfl,rfl⟩,rfl,rfl,_,QRg _ _,?_⟩
  repeat' first|exact trivial|with_reducible rfl|exact qlr _|exact qRr|refine And.intro ?_ ?_
theorem QPq(hn:d.ps.n≤900)(G:Ctx)(hrd:G.rd=none)(hG:G.n=8):Q1 (mkE Try.prog Kx) G { hnd (mkE Try.prog Kx) 1 with loop:=fun _=>Q7 8 [] (W8 d s [] (0:Nat)) [(True,.exit 0,jo (KP d s d.ps.n))] } (Qo Try.f43):=by
 refine JF (body:=QW Try.f43 0) (QP qC) hrd (by kernel_rfl) ?_
 refine JG (n0:=8) (QP qC) (by omega) (fun c hc=>QP2 d s (KP d s c) c (by have:=G6 d s c;have:c≤d.ps.n:=hc;omega) G hrd hG) (fun c hc=>(by decide:8≤32)) ?_ (QZR d s hn) (s0:=0) (Nat.zero_le _) ?_
 ·rintro t e J ⟨_,rfl⟩;exact(by decide:8≤32)
 ·rintro e J ⟨rfl,rfl⟩;exact⟨_,List.mem_cons_self,trivial,rfl,rfl⟩
def vn:WF (Puz×QT×Unit):=fun|(d,(s,_))=>(decide (d.ps.n≤900),.slz 0 0 (KP d s d.ps.n).length (.of 0),[KN 56 0 (KP d s d.ps.n) ⟨0,0⟩])
def QFq:FC:=wFC vn
theorem QZZ :KR (mkE Try.prog Kx) { hnd (mkE Try.prog Kx) 1 with loop:=fun _=>Q7 8 [] (W8 d s [] (0:Nat)) [(True,.exit 0,jo (KP d s d.ps.n))] } Try.f43 (QX.vals
  0 ((d,s,()):Puz×QT×Unit)) (QX.blks 0 ((d,s,()):Puz×QT×Unit)) 8 = .ask (0=0) (.ask (0=0) (.ask (0=0) (.ask (0=0) (.ask (d.ps.n=d.ps.n) (.ask
  (cO=cO) (.ask ((d.ps.n:Int)=(d.ps.n:Int)) (.ask ((0:Int)=0) (.ask (s.up.kind=s.up.kind) (.ask (s.up.at_.lo=s.up.at_.lo) (.ask (s.up.at_.hi=s.up.at_.hi)
  (.ask (s.up.wide.lo=s.up.wide.lo) (.ask (s.up.wide.hi=s.up.wide.hi) (.ask (s.up.deep.lo=s.up.deep.lo) (.ask (s.up.deep.hi=s.up.deep.hi) (.ask (s.right.kind=s.right.kind)
  (.ask (s.right.at_.lo=s.right.at_.lo) (.ask (s.right.at_.hi=s.right.at_.hi) (.ask (s.right.wide.lo=s.right.wide.lo) (.ask (s.right.wide.hi=s.right.wide.hi) (.ask
  (s.right.deep.lo=s.right.deep.lo) (.ask (s.right.deep.hi=s.right.deep.hi) (.ask (s.down.kind=s.down.kind) (.ask (s.down.at_.lo=s.down.at_.lo) (.ask (s.down.at_.hi =
  s.down.at_.hi) (.ask (s.down.wide.lo=s.down.wide.lo) (.ask (s.down.wide.hi=s.down.wide.hi) (.ask (s.down.deep.lo=s.down.deep.lo) (.ask (s.down.deep.hi=s.down.deep.hi) (.ask
  (s.left.kind=s.left.kind) (.ask (s.left.at_.lo=s.left.at_.lo) (.ask (s.left.at_.hi=s.left.at_.hi) (.ask (s.left.wide.lo=s.left.wide.lo) (.ask (s.left.wide.hi =
  s.left.wide.hi) (.ask (s.left.deep.lo=s.left.deep.lo) (.ask (s.left.deep.hi=s.left.deep.hi) (.ask (0=0) (.ask (d.ps.n≤d.ps.n) (.ask (QC 28 d.ps.n (fun i=>QA.enc
  (d.ps.get i)) fun i=>QA.enc (d.ps.get i)) (.asm (True) (.all (fun(g0:Nat→Value) => .leaf (.slz 24 0 (KP d s d.ps.n).length cO) ([(24,.rowz true 56 [.int .i64,
  .int .i64] (KP d s d.ps.n).length fun i=>QA.enc ((KP d s d.ps.n).getD i ⟨0,0⟩))])))))))))))))))))))))))))))))))))))))))))):=by kernel_rfl
theorem QYH:JN (mkE Try.prog Kx) (Qo Try.f43) 8 vn (fun x_=>{ hnd (mkE Try.prog Kx) 1 with loop:=fun _=>Q7 8 [] (W8 x_.1 x_.2.1 [] (0:Nat)) [(True,.exit 0,jo (KP x_.1 x_.2.1 x_.1.ps.n))] }):=by
 refine⟨?_⟩;rintro⟨d,⟨s,⟨⟩⟩⟩ hp G h1 h2;exact QPq d s (qdt hp) G h1 h2
theorem QO2:JM (mkE Try.prog Kx) Try.f43 8 vn (fun x_=>{ hnd (mkE Try.prog Kx) 1 with loop:=fun _=>Q7 8 [] (W8 x_.1 x_.2.1 [] (0:Nat)) [(True,.exit 0,jo (KP x_.1 x_.2.1 x_.1.ps.n))] }):=by
 refine⟨?_⟩;rintro⟨d,⟨s,⟨⟩⟩⟩ hp;refine⟨⟨rfl,by simp[vn,KN,Blk.own,Blk.all],rfl⟩,⟨?_⟩⟩
 rw[QZZ d s];simp only[vn]at hp
 repeat' first|refine QR (show _=_ by with_reducible rfl) ?_|refine QR (show _≤_ from qlr _) ?_|refine QR (show QC _ _ _ _ from qRr) ?_
 refine KA fun _=>Q6 fun g=>⟨rfl,rfl,_,QV0 _,?_⟩
 repeat' first|exact trivial|with_reducible rfl|exact qlr _|exact qRr|refine And.intro ?_ ?_
theorem QJe:QO Try.prog 43 QFq:=
 JX (QP qC) Try.func43 (by kernel_rfl) (by kernel_rfl) (by decide) QYH QO2
def Z2:Tab:=Qd Kx 43 QFq
theorem QFx:QZ Z2:=qC.add QJe
def qB:Bool:=d.ok&&VR d.play ⟨1,fun _=>s⟩
def vC:List QB:=match qB d s with
 | true=>KP d s d.ps.n
 | false=>[]
def ve:Int:=match qB d s with
 | true=>0
 | false=>1
theorem QWU(e f:Int)(o:List QB):QL 8 [.tup [.nils,vj e]] [] (KW 8 (.tup [.slz 0 0 o.length cO,vi f]) [KN 56 0 o ⟨0,0⟩])=(
  some [o.length=(0:Nat),e=f,o.length=(0:Nat)]):=by kernel_rfl
theorem QTD(n:Nat)(g:Nat→Nat→Int)(e f:Int)(o:List QB):QL 8 [.tup [.slz 144 0 n cO,vj e]] [(144,.rowz true 56 [.int .i64,.int .i64] n g)] (KW 8 (.tup [.slz 0 0 o.length cO,vi f]) [KN 56 0 o ⟨0,0⟩])=(
  some [(0:Nat)=(0:Nat),n=o.length,Cap.of (0:Nat)=Cap.of (0:Nat),e=f,o.length≤n,QC (2:Nat) o.length g fun i=>QA.enc (o.getD i (QB.mk (0:Int) (0 :
  Int)))]):=by kernel_rfl
def Wu:WF (Puz×QT×Unit):=fun|(d,(s,_))=>(decide (d.ps.n≤900),.tup [.slz 0 0 (vC d s).length (.of 0),.int false .i64 (ve d s)],[KN 56 0 (vC d s) ⟨0,0⟩])
def QDF:FC:=wFC Wu
noncomputable abbrev Ky:List AV:=
  [vi s.up.kind,vi s.up.at_.lo,vi s.up.at_.hi,vi s.up.wide.lo,vi s.up.wide.hi,vi s.up.deep.lo,.int
  false .i64 s.up.deep.hi,vi s.right.kind,vi s.right.at_.lo,vi s.right.at_.hi,vi s.right.wide.lo,.int false .i64
  s.right.wide.hi,vi s.right.deep.lo,vi s.right.deep.hi,vi s.down.kind,vi s.down.at_.lo,vi s.down.at_.hi,.int
  false .i64 s.down.wide.lo,vi s.down.wide.hi,vi s.down.deep.lo,vi s.down.deep.hi,vi s.left.kind,.int false .i64
  s.left.at_.lo,vi s.left.at_.hi,vi s.left.wide.lo,vi s.left.wide.hi,vi s.left.deep.lo,vi s.left.deep.hi]
theorem QSV :KR (mkE Try.prog Z2) (hnd (mkE Try.prog Z2) 0) Try.f15 (QX.vals 0 ((d,s,()):Puz×QT×Unit)) (QX.blks 0 ((d,s,()):Puz×QT×Unit)) 8 = .need
  (decide (d.ps.n≤d.ps.n)&&true&&decide (d.ps.n≤1000)) (.br (!d.ok) (.leaf (.tup [.nils,vj 1]) ([])) (.need (true&&(true&&true)&&decide (1≤1000)) (.br
  (!VR d.play (Rw.mk 1 fun i=>QT.mk (Edge.mk (QS [(Ky s)] 0 i 0) (Sp.mk (QS [(Ky s)] 0 i 1) (QS [(Ky s)] 0 i 2)) (Sp.mk (QS [(Ky s)] 0 i 3) (QS [(Ky s)] 0 i
  4)) (Sp.mk (QS [(Ky s)] 0 i 5) (QS [(Ky s)] 0 i 6))) (Edge.mk (QS [(Ky s)] 0 i 7) (Sp.mk (QS [(Ky s)] 0 i 8) (QS [(Ky s)] 0 i 9)) (Sp.mk (QS [(Ky s)] 0 i 10)
  (QS [(Ky s)] 0 i 11)) (Sp.mk (QS [(Ky s)] 0 i 12) (QS [(Ky s)] 0 i 13))) (Edge.mk (QS [(Ky s)] 0 i 14) (Sp.mk (QS [(Ky s)] 0 i 15) (QS [(Ky s)] 0 i 16))
  (Sp.mk (QS [(Ky s)] 0 i 17) (QS [(Ky s)] 0 i 18)) (Sp.mk (QS [(Ky s)] 0 i 19) (QS [(Ky s)] 0 i 20))) (Edge.mk (QS [(Ky s)] 0 i 21) (Sp.mk (QS [(Ky s)] 0 i
  22) (QS [(Ky s)] 0 i 23)) (Sp.mk (QS [(Ky s)] 0 i 24) (QS [(Ky s)] 0 i 25)) (Sp.mk (QS [(Ky s)] 0 i 26) (QS [(Ky s)] 0 i 27))))) (.leaf (.tup [.nils,.int true
  .i64 1]) ([])) (.need (decide (d.ps.n≤d.ps.n)&&(true&&true)&&decide (d.ps.n≤900)) (.leaf (.tup [.slz 144 0 (KP d s d.ps.n).length cO,vj 0]) ([(144,
  .rowz true 56 [.int .i64,.int .i64] (KP d s d.ps.n).length fun i=>QA.enc ((KP d s d.ps.n).getD i ⟨0,0⟩))])))))):=by kernel_rfl
theorem QSO:JN (mkE Try.prog Z2) (Qo Try.f15) 8 Wu (fun x_=>(hnd (mkE Try.prog Z2) 0)):=by
 refine⟨?_⟩;rintro⟨d,⟨s,⟨⟩⟩⟩ hp G h1 h2;exact Qq (QP QFx) 0 G _ h1
theorem QPs:JM (mkE Try.prog Z2) Try.f15 8 Wu (fun x_=>(hnd (mkE Try.prog Z2) 0)):=by
 refine⟨?_⟩;rintro⟨d,⟨s,⟨⟩⟩⟩ hp;refine⟨⟨rfl,by simp[Wu,KN,Blk.own,Blk.all],rfl⟩,⟨?_⟩⟩
 rw[QSV d s];simp only[Wu]at hp;have hn:d.ps.n≤900:=qdt hp
 have no:qB d s=false→(QD.leaf (AV.tup [AV.nils,AV.int true i64 1]) []).den (Xj 8 (Wu (d,s,())).2.1 (Wu (d,s,())).2.2):=by
  intro h;have h1:vC d s=[]:=by simp only[vC,h]
  have h2:ve d s=1:=by simp only[ve,h]
  refine⟨rfl,rfl,_,QWU _ _ _,?_⟩;rw[h1,h2]
  repeat' first|exact trivial|with_reducible rfl|exact qlr _|exact qRr|refine And.intro ?_ ?_
  all_goals rfl
 refine QF (by simp;omega) (QI (fun h=>no ?_) (fun h=>QF rfl (QI (fun h2=>no ?_) (fun h2=>QF (by simp;omega) ?_))))
 ·have h:d.ok=false:=by simpa using h
  simp only[qB,h,Bool.false_and]
 ·have h2:VR d.play ⟨1,fun _=>s⟩=false:=by simpa using (show(!VR d.play ⟨1,fun _=>s⟩)=true from h2)
  simp only[qB,h2,Bool.and_false]
 ·have h:d.ok=true:=by simpa using h
  have h2:VR d.play ⟨1,fun _=>s⟩=true:=by simpa using (show(!VR d.play ⟨1,fun _=>s⟩)=false from h2)
  have hO:qB d s=true:=by simp only[qB,h,h2,Bool.and_self]
  have h3:vC d s=KP d s d.ps.n:=by simp only[vC,hO]
  have h4:ve d s=0:=by simp only[ve,hO]
  refine⟨rfl,rfl,_,QTD _ _ _ _ _,?_⟩;rw[h3,h4]
  repeat' first|exact trivial|with_reducible rfl|exact qlr _|exact qRr|refine And.intro ?_ ?_
theorem QGx:QO Try.prog 15 QDF:=
 JX (QP QFx) Try.func15 (by kernel_rfl) (by kernel_rfl) (by decide) QSO QPs
def qK:Tab:=Qd Z2 15 QDF
theorem HG:QZ qK:=QFx.add QGx
def QKs:Int×Int×Unit→Bool×AV:=fun|(lo,(hi,_))=>(true,Enc.enc (⟨lo,hi⟩:Sp))
def QOE:FC:=Q2 (Q3 QKs)
theorem QXu(lo:Int)(hi:Int):Qy (mkE Try.prog qK) (hnd (mkE Try.prog qK) 2) false Try.f46 (Qp.enc ((lo,hi,()):Int×Int×Unit)) [] 0 =
  QD.leaf (AV.agg [AV.int false i64 lo,AV.int false i64 hi]) ([]):=by kernel_rfl
theorem QTe:QO Try.prog 46 QOE:=by
 refine KC HG 2 Try.func46 (by kernel_rfl) (by kernel_rfl) ?_
 rintro⟨lo,hi,⟨⟩⟩ hp;rw[QXu lo hi];simp only[QKs,QD.den,AV.same,AV.sameL,and_true,true_and]at hp ⊢;simp only[Enc.enc,AV.same,AV.sameL,and_self]
def QBt:Tab:=Qd qK 46 QOE
theorem QJw:QZ QBt:=HG.add QTe
def QK4:Int×Int×Int×Unit→Bool×AV:=fun|(k,(w,(d,_)))=>(true,Enc.enc (⟨k,⟨1000,1000⟩,⟨w,w⟩,⟨d,d⟩⟩:Edge))
def QMg:FC:=Q2 (Q3 QK4)
theorem QQk(k:Int)(w:Int)(d:Int):Qy (mkE Try.prog QBt) (hnd (mkE Try.prog QBt) 2) false Try.f45 (Qp.enc ((k,w,d,()):Int×Int×Int×Unit)) [] 0 =
  QD.need (true) (QD.need (true) (QD.leaf (AV.agg [AV.int false i64 k,AV.int true i64 (1000:Int),AV.int true i64 (1000:Int),AV.int false
  i64 w,AV.int false i64 w,AV.int false i64 d,AV.int false i64 d]) ([]))):=by kernel_rfl
theorem QR6:QO Try.prog 45 QMg:=by
 refine KC QJw 2 Try.func45 (by kernel_rfl) (by kernel_rfl) ?_
 rintro⟨k,w,d,⟨⟩⟩ hp;rw[QQk k w d];simp only[QK4,QD.den,AV.same,AV.sameL,and_true,true_and]at hp ⊢;simp only[Enc.enc,AV.same,AV.sameL,and_self]
def Hh:Tab:=Qd QBt 45 QMg
theorem QN5:QZ Hh:=QJw.add QR6
def QMs:Int×Int×Int×Unit→Bool×AV:=fun|(k,(lo,(hi,_)))=>(true,Enc.enc (⟨k,⟨990,1010⟩,⟨lo,hi⟩,⟨395,415⟩⟩:Edge))
def QMr:FC:=Q2 (Q3 QMs)
theorem QZW(k:Int)(lo:Int)(hi:Int):Qy (mkE Try.prog Hh) (hnd (mkE Try.prog Hh) 2) false Try.f48 (Qp.enc ((k,lo,hi,()):Int×Int×Int×Unit)) [] 0 =
  QD.need (true) (QD.leaf (AV.agg [AV.int false i64 k,AV.int true i64 (990:Int),AV.int true i64 (1010:Int),AV.int false i64 lo,AV.int false
  i64 hi,AV.int true i64 (395:Int),AV.int true i64 (415:Int)]) ([])):=by kernel_rfl
theorem QUM:QO Try.prog 48 QMr:=by
 refine KC QN5 2 Try.func48 (by kernel_rfl) (by kernel_rfl) ?_
 rintro⟨k,lo,hi,⟨⟩⟩ hp;rw[QZW k lo hi];simp only[QMs,QD.den,AV.same,AV.sameL,and_true,true_and]at hp ⊢;simp only[Enc.enc,AV.same,AV.sameL,and_self]
def QAA:Tab:=Qd Hh 48 QMr
theorem QH9:QZ QAA:=QN5.add QUM
def QNg:Edge×Edge×Unit→Bool×AV:=fun|(r,(l,_))=>(true,Enc.enc (⟨K7,r,K7,l⟩:QT))
def QGl:FC:=Q2 (Q3 QNg)
theorem QYl(r:Edge)(l:Edge):Qy (mkE Try.prog QAA) (hnd (mkE Try.prog QAA) 2) false Try.f47 (Qp.enc ((r,l,()):Edge×Edge×Unit)) [] 0 =
  QD.leaf (AV.agg [AV.int true i64 (0:Int),AV.int true i64 (0:Int),AV.int true i64 (0:Int),AV.int true i64 (0:Int),AV.int true
  i64 (0:Int),AV.int true i64 (0:Int),AV.int true i64 (0:Int),AV.int false i64 r.kind,AV.int false i64 r.at_.lo,AV.int false
  i64 r.at_.hi,AV.int false i64 r.wide.lo,AV.int false i64 r.wide.hi,AV.int false i64 r.deep.lo,AV.int false i64 r.deep.hi,AV.int true
  i64 (0:Int),AV.int true i64 (0:Int),AV.int true i64 (0:Int),AV.int true i64 (0:Int),AV.int true i64 (0:Int),AV.int true
  i64 (0:Int),AV.int true i64 (0:Int),AV.int false i64 l.kind,AV.int false i64 l.at_.lo,AV.int false i64 l.at_.hi,AV.int false
  i64 l.wide.lo,AV.int false i64 l.wide.hi,AV.int false i64 l.deep.lo,AV.int false i64 l.deep.hi]) ([]):=by kernel_rfl
theorem QXF:QO Try.prog 47 QGl:=by
 refine KC QH9 2 Try.func47 (by kernel_rfl) (by kernel_rfl) ?_
 rintro⟨r,l,⟨⟩⟩ hp;rw[QYl r l];simp only[QNg,QD.den,AV.same,AV.sameL,and_true,true_and]at hp ⊢;simp only[Enc.enc,K7,AV.same,AV.sameL,and_self]
def QA3:Tab:=Qd QAA 47 QGl
theorem QLn:QZ QA3:=QH9.add QXF
def pP:QT:=⟨K7,⟨1,⟨990,1010⟩,⟨490,570⟩,⟨395,415⟩⟩,K7,⟨2,⟨990,1010⟩,⟨505,525⟩,⟨395,415⟩⟩⟩
def pQ:QT:=⟨K7,⟨1,⟨990,1010⟩,⟨495,505⟩,⟨395,415⟩⟩,K7,⟨2,⟨990,1010⟩,⟨505,525⟩,⟨395,415⟩⟩⟩
def pR:QT:=⟨K7,K7,⟨1,⟨990,1010⟩,⟨490,510⟩,⟨395,415⟩⟩,K7⟩
def QLU:Unit→Bool×AV:=fun _=>(true,Enc.enc pP)
def QGv:FC:=Q2 (Q3 QLU)
theorem QR4 :Qy (mkE Try.prog QA3) (hnd (mkE Try.prog QA3) 2) false Try.f22 (Qp.enc (():Unit)) [] 0 =
  QD.leaf (AV.agg [AV.int true i64 (0:Int),AV.int true i64 (0:Int),AV.int true i64 (0:Int),AV.int true i64 (0:Int),AV.int true
  i64 (0:Int),AV.int true i64 (0:Int),AV.int true i64 (0:Int),AV.int true i64 (1:Int),AV.int true i64 (990:Int),AV.int true
  i64 (1010:Int),AV.int true i64 (490:Int),AV.int true i64 (570:Int),AV.int true i64 (395:Int),AV.int true i64 (415:Int),AV.int
  true i64 (0:Int),AV.int true i64 (0:Int),AV.int true i64 (0:Int),AV.int true i64 (0:Int),AV.int true i64 (0:Int),AV.int true
  i64 (0:Int),AV.int true i64 (0:Int),AV.int true i64 (2:Int),AV.int true i64 (990:Int),AV.int true i64 (1010:Int),AV.int true
  i64 (505:Int),AV.int true i64 (525:Int),AV.int true i64 (395:Int),AV.int true i64 (415:Int)]) ([]):=by kernel_rfl
theorem QZ1:QO Try.prog 22 QGv:=by
 refine KC QLn 2 Try.func22 (by kernel_rfl) (by kernel_rfl) ?_
 rintro⟨⟩ hp;rw[QR4];simp only[QLU,QD.den,AV.same,AV.sameL,and_true,true_and]at hp ⊢;simp only[Enc.enc,pP,K7,AV.same,AV.sameL,and_self]
def QCW:Tab:=Qd QA3 22 QGv
theorem QJ8:QZ QCW:=QLn.add QZ1
def QHR:Unit→Bool×AV:=fun _=>(true,Enc.enc pQ)
def QLr:FC:=Q2 (Q3 QHR)
theorem QX0 :Qy (mkE Try.prog QCW) (hnd (mkE Try.prog QCW) 2) false Try.f24 (Qp.enc (():Unit)) [] 0 =
  QD.leaf (AV.agg [AV.int true i64 (0:Int),AV.int true i64 (0:Int),AV.int true i64 (0:Int),AV.int true i64 (0:Int),AV.int true
  i64 (0:Int),AV.int true i64 (0:Int),AV.int true i64 (0:Int),AV.int true i64 (1:Int),AV.int true i64 (990:Int),AV.int true
  i64 (1010:Int),AV.int true i64 (495:Int),AV.int true i64 (505:Int),AV.int true i64 (395:Int),AV.int true i64 (415:Int),AV.int
  true i64 (0:Int),AV.int true i64 (0:Int),AV.int true i64 (0:Int),AV.int true i64 (0:Int),AV.int true i64 (0:Int),AV.int true
  i64 (0:Int),AV.int true i64 (0:Int),AV.int true i64 (2:Int),AV.int true i64 (990:Int),AV.int true i64 (1010:Int),AV.int true
  i64 (505:Int),AV.int true i64 (525:Int),AV.int true i64 (395:Int),AV.int true i64 (415:Int)]) ([]):=by kernel_rfl
theorem QTK:QO Try.prog 24 QLr:=by
 refine KC QJ8 2 Try.func24 (by kernel_rfl) (by kernel_rfl) ?_
 rintro⟨⟩ hp;rw[QX0];simp only[QHR,QD.den,AV.same,AV.sameL,and_true,true_and]at hp ⊢;simp only[Enc.enc,pQ,K7,AV.same,AV.sameL,and_self]
def Hj:Tab:=Qd QCW 24 QLr
theorem QLA:QZ Hj:=QJ8.add QTK
def QHZ:Unit→Bool×AV:=fun _=>(true,Enc.enc pR)
def QM9:FC:=Q2 (Q3 QHZ)
theorem QSI :Qy (mkE Try.prog Hj) (hnd (mkE Try.prog Hj) 2) false Try.f19 (Qp.enc (():Unit)) [] 0 =
  QD.leaf (AV.agg [AV.int true i64 (0:Int),AV.int true i64 (0:Int),AV.int true i64 (0:Int),AV.int true i64 (0:Int),AV.int true
  i64 (0:Int),AV.int true i64 (0:Int),AV.int true i64 (0:Int),AV.int true i64 (0:Int),AV.int true i64 (0:Int),AV.int true
  i64 (0:Int),AV.int true i64 (0:Int),AV.int true i64 (0:Int),AV.int true i64 (0:Int),AV.int true i64 (0:Int),AV.int true
  i64 (1:Int),AV.int true i64 (990:Int),AV.int true i64 (1010:Int),AV.int true i64 (490:Int),AV.int true i64 (510:Int),AV.int
  true i64 (395:Int),AV.int true i64 (415:Int),AV.int true i64 (0:Int),AV.int true i64 (0:Int),AV.int true i64 (0:Int),AV.int
  true i64 (0:Int),AV.int true i64 (0:Int),AV.int true i64 (0:Int),AV.int true i64 (0:Int)]) ([]):=by kernel_rfl
theorem QWV:QO Try.prog 19 QM9:=by
 refine KC QLA 2 Try.func19 (by kernel_rfl) (by kernel_rfl) ?_
 rintro⟨⟩ hp;rw[QSI];simp only[QHZ,QD.den,AV.same,AV.sameL,and_true,true_and]at hp ⊢;simp only[Enc.enc,pR,K7,AV.same,AV.sameL,and_self]
def WI:Tab:=Qd Hj 19 QM9
theorem QDD:QZ WI:=QLA.add QWV
def exE(k w d:Int):Edge:=⟨k,⟨1000,1000⟩,⟨w,w⟩,⟨d,d⟩⟩
def QZc:List QT:=[⟨K7,exE 1 500 400,K7,K7⟩,⟨K7,exE 1 500 400,K7,exE 2 515 410⟩,⟨K7,exE 1 560 400,K7,exE 2 515 410⟩,⟨K7,K7,K7,exE 2 575 410⟩]
def QLs:AV := .agg [.int false .i64 2000,.int false .i64 20,.int false .i64 30,.int false .i64 0,.int false .i64 10,.int false .i64 4,.int false .i64 1,.bool false false,.slice true 0 0 4 (.lit 4)]
def QOD:Nat×Blk:=(0,.rowl 33 28 (QZc.map fun p=>(Enc.enc p).cells))
noncomputable abbrev QGq:List AV:=
  [vj 2000,vj 20,vj 30,vj 0,vj 10,vj 4,vj 1,.bool true false,.slice true 248 0 4 (Cap.lit
  4)]
noncomputable abbrev QLd:List (Nat×Blk):=
  [(248,.rowl 33 28 [[vj 0,vj 0,vj 0,vj 0,vj 0,vj 0,vj 0,vj 1,.int true .i64
  1000,vj 1000,vj 500,vj 500,vj 400,vj 400,vj 0,vj 0,vj 0,vj 0,
  .int true .i64 0,vj 0,vj 0,vj 0,vj 0,vj 0,vj 0,vj 0,vj 0,vj 0],
  [vj 0,vj 0,vj 0,vj 0,vj 0,vj 0,vj 0,vj 1,vj 1000,.int true .i64
  1000,vj 500,vj 500,vj 400,vj 400,vj 0,vj 0,vj 0,vj 0,vj 0,.int
  true .i64 0,vj 0,vj 2,vj 1000,vj 1000,vj 515,vj 515,vj 410,vj 410],[.int
  true .i64 0,vj 0,vj 0,vj 0,vj 0,vj 0,vj 0,vj 1,vj 1000,vj 1000,
  .int true .i64 560,vj 560,vj 400,vj 400,vj 0,vj 0,vj 0,vj 0,vj 0,.int true
  .i64 0,vj 0,vj 2,vj 1000,vj 1000,vj 515,vj 515,vj 410,vj 410],[.int true
  .i64 0,vj 0,vj 0,vj 0,vj 0,vj 0,vj 0,vj 0,vj 0,vj 0,.int true
  .i64 0,vj 0,vj 0,vj 0,vj 0,vj 0,vj 0,vj 0,vj 0,vj 0,.int true
  .i64 0,vj 2,vj 1000,vj 1000,vj 575,vj 575,vj 410,vj 410]])]
abbrev ji:List Prop:=
  [(0:Int)=0,(0:Int)=0,(0:Int)=0,(0:Int)=0,(0:Int)=0]
abbrev QEp:List Prop:=
  [(0:Int)=0,(0:Int)=0,(1:Int)=1,(1000:Int)=1000,(1000:Int)=1000]
abbrev QOS:List Prop:=
  [(0:Int)=0,(0:Int)=0,(0:Int)=0,(0:Int)=0,(0:Int)=0,(0:Int)=0,(0:Int)=0,(0:Int)=0,(0:Int)=0,(0:Int)=0,(0:Int)=0,(0:Int)=0]
abbrev QCx:List Prop:=
  [(0:Int)=0,(0:Int)=0,(2:Int)=2,(1000:Int)=1000,(1000:Int)=1000]
theorem QQd :QL 8 [(.agg QGq)] (QLd) (KW 8 QLs [QOD])=(some ([(2000:Int)=2000,(20:Int)=20,(30:Int)=30,(0:Int)=0,(10:Int)=10,(4:Int)=4,(1:Int)=1,
  false=false,0=0,4=4,Cap.lit 4=Cap.lit 4]++ji++QEp++[(500:Int)=500,(500:Int)=500,(400:Int)=400,(400:Int)=400]++QOS++ji++[(0:Int) =
  0,(0:Int)=0]++QEp++[(500:Int)=500,(500:Int)=500,(400:Int)=400,(400:Int)=400]++ji++QCx++[(515:Int)=515,(515:Int)=515,(410:Int) =
  410,(410:Int)=410]++ji++QEp++[(560:Int)=560,(560:Int)=560,(400:Int)=400,(400:Int)=400]++ji++QCx++[(515:Int)=515,(515:Int)=515,
  (410:Int)=410,(410:Int)=410]++QOS++ji++[(0:Int)=0,(0:Int)=0]++QCx++[(575:Int)=575,(575:Int)=575,(410:Int)=410,(410:Int)=410])):=by kernel_rfl
def HJ:WF (Unit):=fun|_=>(true,QLs,[QOD])
def QNd:FC:=wFC HJ
theorem QUV :KR (mkE Try.prog WI) (hnd (mkE Try.prog WI) 2) Try.f18 (QX.vals 0 ((()):Unit)) (QX.blks 0 ((()):Unit)) 8 = .leaf (.agg QGq) (QLd):=by kernel_rfl
theorem QQw:JN (mkE Try.prog WI) (Qo Try.f18) 8 HJ (fun x_=>(hnd (mkE Try.prog WI) 2)):=by
 refine⟨?_⟩;rintro⟨⟩ hp G h1 h2;exact Qq (QP QDD) 2 G _ h1
theorem QVE:JM (mkE Try.prog WI) Try.f18 8 HJ (fun x_=>(hnd (mkE Try.prog WI) 2)):=by
 refine⟨?_⟩;rintro⟨⟩ hp;refine⟨⟨rfl,by decide,rfl⟩,⟨?_⟩⟩
 rw[QUV];simp only[HJ]at hp;exact⟨rfl,rfl,_,QQd,by repeat' first|exact trivial|rfl|refine And.intro ?_ ?_⟩
theorem QTf:QO Try.prog 18 QNd:=
 JX (QP QDD) Try.func18 (by kernel_rfl) (by kernel_rfl) (by decide) QQw QVE
def Ke:Tab:=Qd WI 18 QNd
theorem VH:QZ Ke:=QDD.add QTf
structure Jn where
 a:Int
 i:Int
 b:Int
 j:Int
instance : QA Jn where
  ks := [.int .i64,.int .i64,.int .i64,.int .i64]
  enc p j := match j with
    | 0 => p.a
    | 1 => p.i
    | 2 => p.b
    | _ => p.j
  dec f := ⟨f 0,f 1,f 2,f 3⟩
  ok _ := rfl
instance : Enc Jn where
  enc x := .agg [.int false .i64 x.a,.int false .i64 x.i,.int false .i64 x.b,.int false .i64 x.j]
  dec | .agg [.int _ .i64 a0,.int _ .i64 a1,.int _ .i64 a2,.int _ .i64 a3] => some ⟨a0,a1,a2,a3⟩ | _ => none
  ok v x h := by
    split at h <;> (try (cases h; done))
    simp only[qsI]at h; subst h; exact⟨fun _ => rfl,rfl⟩
instance : Enc QB where
  enc x := .agg [.int false .i64 x.cell,.int false .i64 x.turn]
  dec | .agg [.int _ .i64 a0,.int _ .i64 a1] => some ⟨a0,a1⟩ | _ => none
  ok v x h := by
    split at h <;> (try (cases h; done))
    simp only[qsI]at h; subst h; exact⟨fun _ => rfl,rfl⟩
structure QE where
 d:Puz
 scans:Rw QT
 hang:Rw Jn
 lost:Int
 foreign:Int
def JJ(k:Nat)(x:QE):List AV:=[.int false .i64 x.d.play.length,.int false .i64 x.d.play.slack,.int false .i64 x.d.play.loose,.int false .i64 x.d.play.damp.lo,.int false .i64 x.d.play.damp.hi,.int false .i64 x.d.wide,.int false .i64 x.d.high,.bool false x.d.turn,Qw.val k x.d.ps,Qw.val (k+1) x.scans,Qw.val (k+2) x.hang,.int false .i64 x.lost,.int false .i64 x.foreign]
def JY(k:Nat)(x:QE):List (Nat×Blk):=Qw.blk k x.d.ps++(Qw.blk (k+1) x.scans++Qw.blk (k+2) x.hang)
instance {β : Type} [QX β] : QX (QE × β) where
  len := QX.len β + 3
  vals k x := .agg (JJ k x.1) :: QX.vals (k + 3) x.2
  blks k x := JY k x.1 ++ QX.blks (k + 3) x.2
  dec
    | v :: l,lk => (match v with
      | .agg [.int _ .i64 a,.int _ .i64 b,.int _ .i64 c,.int _ .i64 d,.int _ .i64 e,.int _ .i64 f,.int _ .i64 g,.bool _ t,s1,s2,s3,.int _ .i64 lo,.int _ .i64 fo] => (match (Qw.dec s1 lk : Option (Bool × Rw QT)),(Qw.dec s2 lk : Option (Bool × Rw QT)),(Qw.dec s3 lk : Option (Bool × Rw Jn)),(QX.dec l lk : Option (Bool × β))with
        | some (p1,x1),some (p2,x2),some (p3,x3),some (q,y) => some (p1 && (p2 && (p3 && q)),⟨⟨⟨a,b,c,⟨d,e⟩⟩,f,g,t,x1⟩,x2,x3,lo,fo⟩,y)
        | _,_,_,_ => none)
      | _ => none)
    | _,_ => none
  ok vs lk p x h hp := by
    split at h <;> (try (cases h; done))
    split at h <;> (try (cases h; done))
    split at h <;> (try (cases h; done))
    rename_i l lk' _ _ a _ b _ c _ d _ e _ f _ g _ t s1 s2 s3 _ lo _ fo _ _ _ _ p1 x1 p2 x2 p3 x3 q y h1 h2 h3 h4;simp only[qsI,qpI]at h;obtain⟨rfl,rfl⟩ := h;simp only[qbA]at hp;obtain⟨a1,a2⟩ := Qw.ok _ _ _ _ h1 hp.1;obtain⟨b1,b2⟩ := Qw.ok _ _ _ _ h2 hp.2.1;obtain⟨c1,c2⟩ := Qw.ok _ _ _ _ h3 hp.2.2.1;obtain⟨d1,d2⟩ := QX.ok _ _ _ _ h4 hp.2.2.2;refine⟨fun k => ⟨?_,fun z hz => ?_⟩,fun r w hw => ?_⟩
    · simp only[AV.allL,qbA]
      refine⟨?_,allL_mono (fun i hi => ?_) _ (d1 (k + 3)).1⟩
      · simp only[AV.all,JJ,AV.allL,Bool.true_and,Bool.and_true,qbA]
        refine⟨all_mono (fun i hi => ?_) _ (a1 k).1,all_mono (fun i hi => ?_) _ (b1 (k + 1)).1,all_mono (fun i hi => ?_) _ (c1 (k + 2)).1⟩
        · have hi : i = k := by simpa using hi
          subst hi; simp
        · have hi : i = k + 1 := by simpa using hi
          subst hi; simp
        · have hi : i = k + 2 := by simpa using hi
          subst hi; simp
      · simp only[qdE]at hi ⊢; omega
    · simp only[JY,List.mem_append]at hz
      rcases hz with (hz | hz | hz) | hz
      · obtain⟨e1,e2,e3⟩ := (a1 k).2 z hz
        exact⟨by omega,e2,e3⟩
      · obtain⟨e1,e2,e3⟩ := (b1 (k + 1)).2 z hz
        exact⟨by omega,e2,e3⟩
      · obtain⟨e1,e2,e3⟩ := (c1 (k + 2)).2 z hz
        exact⟨by omega,e2,e3⟩
      · obtain⟨e1,e2,e3⟩ := (d1 (k + 3)).2 z hz
        exact⟨by omega,e2,e3⟩
    · obtain⟨l1,e1⟩ := a2 r w hw
      obtain⟨l2,e2⟩ := b2 r w hw;obtain⟨l3,e3⟩ := c2 r w hw;obtain⟨L,e4⟩ := d2 r w hw;refine⟨fun i => match i with | 0 => l1 | 1 => l2 | 2 => l3 | i + 3 => L i,fun k r' hr => ?_⟩
      obtain⟨g1,g2⟩ := e1 k r' (by simpa using hr 0 (by omega))
      obtain⟨g3,g4⟩ := e2 (k + 1) r' (hr 1 (by omega))
      obtain⟨g5,g6⟩ := e3 (k + 2) r' (hr 2 (by omega))
      obtain⟨g7,g8⟩ := e4 (k + 3) r' (fun i hi => by have := hr (i + 3) (by omega); rw[show k + 3 + i = k + (i + 3) by omega]; exact this)
      refine⟨?_,fun z hz => ?_⟩
      · simp only[AV.denL,AV.den,JJ]at g1 g3 g5 g7 ⊢
        rw[g1,g3,g5,g7]
      · simp only[JY,List.mem_append]at hz
        rcases hz with (hz | hz | hz) | hz
        · exact g2 z hz
        · exact g4 z hz
        · exact g6 z hz
        · exact g8 z hz
end Go.Proofs.Ytbpffdkemeoajaa
