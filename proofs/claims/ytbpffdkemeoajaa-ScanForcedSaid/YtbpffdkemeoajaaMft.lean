/- - -/
import Derived.Test.YtbpffdkemeoajaaMfs
open Go.IntKind (i64)
set_option maxRecDepth 100000
namespace Go.Proofs.Ytbpffdkemeoajaa
open Go.SX
def QKg:Ex→List Nat
 | .normal=>[3,4,11,12,13]
 | .exit _=>[4]
 | .ret=>[]
variable (d:Puz)(s:QS)(o:List QB)
def jw:JSt:=⟨49,[(4,.slz 24 0 o.length (.of 0))],[KW 56 24 o ⟨0,0⟩],32⟩
noncomputable abbrev QHy(o':List QB)(s:QS):List (Nat×Blk):=
  [(16,.cells 7 33 [vi s.up.kind,vi s.up.at_.lo,vi s.up.at_.hi,vi s.up.wide.lo,vi s.up.wide.hi,.int false .i64
  s.up.deep.lo,vi s.up.deep.hi,vi s.right.kind,vi s.right.at_.lo,vi s.right.at_.hi,vi s.right.wide.lo,.int false
  .i64 s.right.wide.hi,vi s.right.deep.lo,vi s.right.deep.hi,vi s.down.kind,vi s.down.at_.lo,vi s.down.at_.hi,
  .int false .i64 s.down.wide.lo,vi s.down.wide.hi,vi s.down.deep.lo,vi s.down.deep.hi,vi s.left.kind,.int false .i64
  s.left.at_.lo,vi s.left.at_.hi,vi s.left.wide.lo,vi s.left.wide.hi,vi s.left.deep.lo,vi s.left.deep.hi]),(24,
  .rowz true 56 [.int .i64,.int .i64] o'.length fun i=>QA.enc (o'.getD i ⟨0,0⟩)),(0,.frz [.int .i64,.int .i64,.int .i64,.int .i64,.int .i64,.int .i64,.int .i64,.int
  .i64,.int .i64,.int .i64,.int .i64,.int .i64,.int .i64,.int .i64,.int .i64,.int .i64,.int .i64,.int .i64,.int .i64,.int .i64,.int .i64,.int .i64,.int .i64,.int .i64,
  .int .i64,.int .i64,.int .i64,.int .i64] d.ps.n fun i=>QA.enc (d.ps.get i))]
theorem QZ1(o o':List QB)(c:Nat)(g:Nat→Value):exec (mkE Try.prog K1) { hnd (mkE Try.prog K1) 1 with loop:=fun _=>KD 8 [] (VP d s o c 0) [(True,.exit 2,zQ d s o' c)] } (QX Try.f43 0) (JSt.inst (W6 d s
  o c) g) (KT [] QKg) = .br (decide ((c:Int)<(d.ps.n:Int))) (.need (decide ((0:Int)≤(c:Int)∧(c:Int)<(d.ps.n:Int))&&decide (d.ps.n≤d.ps.n)) (.need (decide
  (c<d.ps.n)) (.ask (0=0) (.ask (0=0) (.ask (0=0) (.ask (o.length=o.length) (.ask (cO=cO) (.ask ((c:Int)=(c:Int)) (.ask (0=0) (.ask (0=0) (.ask (0 =
  0) (.ask (d.ps.n=d.ps.n) (.ask (cO=cO) (.ask ((d.ps.n:Int)=(d.ps.n:Int)) (.ask ((c:Int)=(c:Int)) (.ask ((0:Int)=0) (.ask (s.up.kind=s.up.kind)
  (.ask (s.up.at_.lo=s.up.at_.lo) (.ask (s.up.at_.hi=s.up.at_.hi) (.ask (s.up.wide.lo=s.up.wide.lo) (.ask (s.up.wide.hi=s.up.wide.hi) (.ask (s.up.deep.lo=s.up.deep.lo) (.ask
  (s.up.deep.hi=s.up.deep.hi) (.ask (s.right.kind=s.right.kind) (.ask (s.right.at_.lo=s.right.at_.lo) (.ask (s.right.at_.hi=s.right.at_.hi) (.ask (s.right.wide.lo =
  s.right.wide.lo) (.ask (s.right.wide.hi=s.right.wide.hi) (.ask (s.right.deep.lo=s.right.deep.lo) (.ask (s.right.deep.hi=s.right.deep.hi) (.ask (s.down.kind=s.down.kind)
  (.ask (s.down.at_.lo=s.down.at_.lo) (.ask (s.down.at_.hi=s.down.at_.hi) (.ask (s.down.wide.lo=s.down.wide.lo) (.ask (s.down.wide.hi=s.down.wide.hi) (.ask (s.down.deep.lo =
  s.down.deep.lo) (.ask (s.down.deep.hi=s.down.deep.hi) (.ask (s.left.kind=s.left.kind) (.ask (s.left.at_.lo=s.left.at_.lo) (.ask (s.left.at_.hi=s.left.at_.hi) (.ask
  (s.left.wide.lo=s.left.wide.lo) (.ask (s.left.wide.hi=s.left.wide.hi) (.ask (s.left.deep.lo=s.left.deep.lo) (.ask (s.left.deep.hi=s.left.deep.hi) (.ask (o.length≤o.length)
  (.ask (QC 2 o.length (fun i=>QA.enc (o.getD i ⟨0,0⟩)) fun i=>QA.enc (o.getD i ⟨0,0⟩)) (.ask ((d.ps.get c).up.kind=(d.ps.get c).up.kind) (.ask ((d.ps.get c).up.at_.lo
  = (d.ps.get c).up.at_.lo) (.ask ((d.ps.get c).up.at_.hi=(d.ps.get c).up.at_.hi) (.ask ((d.ps.get c).up.wide.lo=(d.ps.get c).up.wide.lo) (.ask ((d.ps.get c).up.wide.hi =
  (d.ps.get c).up.wide.hi) (.ask ((d.ps.get c).up.deep.lo=(d.ps.get c).up.deep.lo) (.ask ((d.ps.get c).up.deep.hi=(d.ps.get c).up.deep.hi) (.ask ((d.ps.get c).right.kind =
  (d.ps.get c).right.kind) (.ask ((d.ps.get c).right.at_.lo=(d.ps.get c).right.at_.lo) (.ask ((d.ps.get c).right.at_.hi=(d.ps.get c).right.at_.hi) (.ask ((d.ps.get
  c).right.wide.lo=(d.ps.get c).right.wide.lo) (.ask ((d.ps.get c).right.wide.hi=(d.ps.get c).right.wide.hi) (.ask ((d.ps.get c).right.deep.lo=(d.ps.get c).right.deep.lo) (.ask
  ((d.ps.get c).right.deep.hi=(d.ps.get c).right.deep.hi) (.ask ((d.ps.get c).down.kind=(d.ps.get c).down.kind) (.ask ((d.ps.get c).down.at_.lo=(d.ps.get c).down.at_.lo) (.ask
  ((d.ps.get c).down.at_.hi=(d.ps.get c).down.at_.hi) (.ask ((d.ps.get c).down.wide.lo=(d.ps.get c).down.wide.lo) (.ask ((d.ps.get c).down.wide.hi=(d.ps.get c).down.wide.hi)
  (.ask ((d.ps.get c).down.deep.lo=(d.ps.get c).down.deep.lo) (.ask ((d.ps.get c).down.deep.hi=(d.ps.get c).down.deep.hi) (.ask ((d.ps.get c).left.kind=(d.ps.get c).left.kind)
  (.ask ((d.ps.get c).left.at_.lo=(d.ps.get c).left.at_.lo) (.ask ((d.ps.get c).left.at_.hi=(d.ps.get c).left.at_.hi) (.ask ((d.ps.get c).left.wide.lo=(d.ps.get c).left.wide.lo)
  (.ask ((d.ps.get c).left.wide.hi=(d.ps.get c).left.wide.hi) (.ask ((d.ps.get c).left.deep.lo=(d.ps.get c).left.deep.lo) (.ask ((d.ps.get c).left.deep.hi=(d.ps.get
  c).left.deep.hi) (.ask (d.ps.n≤d.ps.n) (.ask (QC 28 d.ps.n (fun i=>QA.enc (d.ps.get i)) fun i=>QA.enc (d.ps.get i)) (.asm (True) (.all (fun(g0:Nat→Value) => .leaf
  (.tup [.nilp,.ptr 49 0 0,.ptr 16 0 0,.slz 24 0 o'.length cO,.slz 0 0 d.ps.n cO,vi (d.ps.n:Int),vi (i64.wrap ((c:Int) +
  1))]) ((QHy d o' s))))))))))))))))))))))))))))))))))))))))))))))))))))))))))))))))))))))))))))))))) (.leaf (.tup [.ptr 0 0 0,.ptr 49 0 0,.slz 24 0 o.length cO]) ([(24,
  .rowz true 56 [.int .i64,.int .i64] o.length fun i=>QA.enc (o.getD i ⟨0,0⟩))])):=by kernel_rfl
theorem QQx(o' o2:List QB)(c c1:Nat):QL 8 [.ptr 16 0 0,.slz 24 0 o'.length cO,.slz 0 0 d.ps.n cO,vi (d.ps.n:Int),vi (i64.wrap ((c:Int)+1))] ((QHy d o' s))
  (W6 d s o2 c1)=(some [0=0,0=0,0=0,o'.length=o2.length,cO=cO,0=0,d.ps.n=d.ps.n,cO=cO,(d.ps.n:Int)=(d.ps.n:Int),
  i64.wrap ((c:Int)+1)=(c1:Int),s.up.kind=s.up.kind,s.up.at_.lo=s.up.at_.lo,s.up.at_.hi=s.up.at_.hi,s.up.wide.lo=s.up.wide.lo,s.up.wide.hi=s.up.wide.hi,
  s.up.deep.lo=s.up.deep.lo,s.up.deep.hi=s.up.deep.hi,s.right.kind=s.right.kind,s.right.at_.lo=s.right.at_.lo,s.right.at_.hi=s.right.at_.hi,s.right.wide.lo =
  s.right.wide.lo,s.right.wide.hi=s.right.wide.hi,s.right.deep.lo=s.right.deep.lo,s.right.deep.hi=s.right.deep.hi,s.down.kind=s.down.kind,s.down.at_.lo=s.down.at_.lo,
  s.down.at_.hi=s.down.at_.hi,s.down.wide.lo=s.down.wide.lo,s.down.wide.hi=s.down.wide.hi,s.down.deep.lo=s.down.deep.lo,s.down.deep.hi=s.down.deep.hi,s.left.kind =
  s.left.kind,s.left.at_.lo=s.left.at_.lo,s.left.at_.hi=s.left.at_.hi,s.left.wide.lo=s.left.wide.lo,s.left.wide.hi=s.left.wide.hi,s.left.deep.lo=s.left.deep.lo,
  s.left.deep.hi=s.left.deep.hi,o2.length≤o'.length,QC 2 o2.length (fun i=>QA.enc (o'.getD i ⟨0,0⟩)) fun i=>QA.enc (o2.getD i ⟨0,0⟩),d.ps.n≤d.ps.n,QC 28
  d.ps.n (fun i=>QA.enc (d.ps.get i)) fun i=>QA.enc (d.ps.get i)]):=by kernel_rfl
theorem QXS(o o2:List QB):QL 8 [AV.slz (24:Nat) (0:Nat) o.length (Cap.of (0:Nat))] ([((24:Nat),Blk.rowz true (56:Nat) [CK.int i64,CK.int i64] o.length fun i=>QA.enc (o.getD i (QB.mk (0:Int) (0:Int))))]) (jw o2)=(
  some [(0:Nat)=(0:Nat),o.length=o2.length,Cap.of (0:Nat)=Cap.of (0:Nat),o2.length≤o.length,QC (2:Nat) o2.length (fun i=>QA.enc (o.getD i (QB.mk (0 :
  Int) (0:Int)))) fun i=>QA.enc (o2.getD i (QB.mk (0:Int) (0:Int)))]):=by kernel_rfl
theorem QUS:QL 8 [.slz 24 0 o.length cO] [(24,.rowz true 56 [.int .i64,.int .i64] o.length fun i=>QA.enc (o.getD i ⟨0,0⟩))] (Kg 8 (.slz 0 0 o.length cO) [KW 56 0 o ⟨0,0⟩])=(
  some [(0:Nat)=(0:Nat),o.length=o.length,Cap.of (0:Nat)=Cap.of (0:Nat),o.length≤o.length,QC (2:Nat) o.length (fun i=>QA.enc (o.getD i (QB.mk (0:Int)
  (0:Int)))) fun i=>QA.enc (o.getD i (QB.mk (0:Int) (0:Int)))]):=by kernel_rfl
theorem QZN(c:Nat)(ho:o.length≤4000)(G:Ctx)(hrd:G.rd=none)(hG:G.n=8):KC (mkE Try.prog K1) G { hnd (mkE Try.prog K1) 1 with loop:=fun _=>KD 8 [] (VP d s o c 0) [(True,.exit 2,zQ d s (KK d s o c 4) c)] } (QX Try.f43 0):=by
 refine Jj (body:=Vn (QX Try.f43 0)) (QT W5) hrd (by kernel_rfl) ?_
 refine JW (n0:=8) (QT W5) (by omega) (fun t ht=>Qy (QT W5) 6 G _ hrd) (fun t ht=>(by decide:8≤40)) ?_ (QSh d s o c ho) (s0:=0) (Nat.zero_le _) ?_
 ·rintro t e J ⟨_,rfl⟩;exact(by decide:8≤40)
 ·rintro e J ⟨rfl,rfl⟩;exact⟨_,List.mem_cons_self,trivial,rfl,rfl⟩
theorem QUG(hn:d.ps.n≤900):JJ (fun c=>W6 d s (KI d s c) c) (fun c=>c≤d.ps.n) (fun c=>d.ps.n-c) (fun _ e J=>e = .exit 0∧J=jw (KI d s d.ps.n)) 8 QKg [] (mkE Try.prog K1) (fun c=>{ hnd (mkE Try.prog K1) 1 with loop:=fun _=>KD 8 [] (VP d s (KI d s c) c 0) [(True,.exit 2,zQ d s (KK d s (KI d s c) c 4) c)] }) (QX Try.f43 0):=by
 refine⟨fun c g hc=>qH (QZ1 d s _ _ c g) ?_⟩;refine QG (fun h => ?_) (fun h => ?_)
 ·have h:c<d.ps.n:=by have:=qdt h;omega
  have hw:i64.wrap ((c:Int)+1)=((c+1:Nat):Int):=(w64 (by omega) (by omega)).trans (by omega)
  refine QF (by simp;omega) (QF (by simp;omega) ?_)
  repeat' first|refine Qa (show _=_ by with_reducible rfl) ?_|refine Qa (show _≤_ from qlr _) ?_|refine Qa (show QC _ _ _ _ from qRr) ?_
  refine KJ fun _=>KF fun g => ?_;refine⟨c+1,h,by show d.ps.n-(c+1)<d.ps.n-c;omega,fun _ _ h=>h,rfl,rfl,_,QQx d s _ (KI d s (c+1)) c (c+1),?_⟩
  repeat' first|exact trivial|with_reducible rfl|exact qlr _|exact qRr|exact hw|refine And.intro ?_ ?_
  rfl
 ·have:c=d.ps.n:=by have:=of_decide_eq_false h;omega
  subst this;refine⟨_,⟨rfl,rfl⟩,rfl,rfl,_,QXS _ _,?_⟩
  repeat' first|exact trivial|with_reducible rfl|exact qlr _|exact qRr|refine And.intro ?_ ?_
theorem QQG(hn:d.ps.n≤900)(G:Ctx)(hrd:G.rd=none)(hG:G.n=8):KC (mkE Try.prog K1) G { hnd (mkE Try.prog K1) 1 with loop:=fun _=>KD 8 [] (W6 d s [] (0:Nat)) [(True,.exit 0,jw (KI d s d.ps.n))] } (Qs Try.f43):=by
 refine Jj (body:=QX Try.f43 0) (QT W5) hrd (by kernel_rfl) ?_
 refine JW (n0:=8) (QT W5) (by omega) (fun c hc=>QZN d s (KI d s c) c (by have:=Wt d s c;have:c≤d.ps.n:=hc;omega) G hrd hG) (fun c hc=>(by decide:8≤32)) ?_ (QUG d s hn) (s0:=0) (Nat.zero_le _) ?_
 ·rintro t e J ⟨_,rfl⟩;exact(by decide:8≤32)
 ·rintro e J ⟨rfl,rfl⟩;exact⟨_,List.mem_cons_self,trivial,rfl,rfl⟩
def G8:WF (Puz×QS×Unit):=fun|(d,(s,_))=>(decide (d.ps.n≤900),.slz 0 0 (KI d s d.ps.n).length (.of 0),[KW 56 0 (KI d s d.ps.n) ⟨0,0⟩])
def QGT:FC:=wFC G8
theorem QUO :KO (mkE Try.prog K1) { hnd (mkE Try.prog K1) 1 with loop:=fun _=>KD 8 [] (W6 d s [] (0:Nat)) [(True,.exit 0,jw (KI d s d.ps.n))] } Try.f43 (QV.vals
  0 ((d,s,()):Puz×QS×Unit)) (QV.blks 0 ((d,s,()):Puz×QS×Unit)) 8 = .ask (0=0) (.ask (0=0) (.ask (0=0) (.ask (0=0) (.ask (d.ps.n=d.ps.n) (.ask
  (cO=cO) (.ask ((d.ps.n:Int)=(d.ps.n:Int)) (.ask ((0:Int)=0) (.ask (s.up.kind=s.up.kind) (.ask (s.up.at_.lo=s.up.at_.lo) (.ask (s.up.at_.hi=s.up.at_.hi)
  (.ask (s.up.wide.lo=s.up.wide.lo) (.ask (s.up.wide.hi=s.up.wide.hi) (.ask (s.up.deep.lo=s.up.deep.lo) (.ask (s.up.deep.hi=s.up.deep.hi) (.ask (s.right.kind=s.right.kind)
  (.ask (s.right.at_.lo=s.right.at_.lo) (.ask (s.right.at_.hi=s.right.at_.hi) (.ask (s.right.wide.lo=s.right.wide.lo) (.ask (s.right.wide.hi=s.right.wide.hi) (.ask
  (s.right.deep.lo=s.right.deep.lo) (.ask (s.right.deep.hi=s.right.deep.hi) (.ask (s.down.kind=s.down.kind) (.ask (s.down.at_.lo=s.down.at_.lo) (.ask (s.down.at_.hi =
  s.down.at_.hi) (.ask (s.down.wide.lo=s.down.wide.lo) (.ask (s.down.wide.hi=s.down.wide.hi) (.ask (s.down.deep.lo=s.down.deep.lo) (.ask (s.down.deep.hi=s.down.deep.hi) (.ask
  (s.left.kind=s.left.kind) (.ask (s.left.at_.lo=s.left.at_.lo) (.ask (s.left.at_.hi=s.left.at_.hi) (.ask (s.left.wide.lo=s.left.wide.lo) (.ask (s.left.wide.hi =
  s.left.wide.hi) (.ask (s.left.deep.lo=s.left.deep.lo) (.ask (s.left.deep.hi=s.left.deep.hi) (.ask (0=0) (.ask (d.ps.n≤d.ps.n) (.ask (QC 28 d.ps.n (fun i=>QA.enc
  (d.ps.get i)) fun i=>QA.enc (d.ps.get i)) (.asm (True) (.all (fun(g0:Nat→Value) => .leaf (.slz 24 0 (KI d s d.ps.n).length cO) ([(24,.rowz true 56 [.int .i64,
  .int .i64] (KI d s d.ps.n).length fun i=>QA.enc ((KI d s d.ps.n).getD i ⟨0,0⟩))])))))))))))))))))))))))))))))))))))))))))):=by kernel_rfl
theorem QQM:JN (mkE Try.prog K1) (Qs Try.f43) 8 G8 (fun x_=>{ hnd (mkE Try.prog K1) 1 with loop:=fun _=>KD 8 [] (W6 x_.1 x_.2.1 [] (0:Nat)) [(True,.exit 0,jw (KI x_.1 x_.2.1 x_.1.ps.n))] }):=by
 refine⟨?_⟩;rintro⟨d,⟨s,⟨⟩⟩⟩ hp G h1 h2;exact QQG d s (qdt hp) G h1 h2
theorem QRe:JS (mkE Try.prog K1) Try.f43 8 G8 (fun x_=>{ hnd (mkE Try.prog K1) 1 with loop:=fun _=>KD 8 [] (W6 x_.1 x_.2.1 [] (0:Nat)) [(True,.exit 0,jw (KI x_.1 x_.2.1 x_.1.ps.n))] }):=by
 refine⟨?_⟩;rintro⟨d,⟨s,⟨⟩⟩⟩ hp;refine⟨⟨rfl,by simp[G8,KW,Blk.own,Blk.all],rfl⟩,⟨?_⟩⟩
 rw[QUO d s];simp only[G8]at hp
 repeat' first|refine Qa (show _=_ by with_reducible rfl) ?_|refine Qa (show _≤_ from qlr _) ?_|refine Qa (show QC _ _ _ _ from qRr) ?_
 refine KJ fun _=>KF fun g=>⟨rfl,rfl,_,QUS _,?_⟩
 repeat' first|exact trivial|with_reducible rfl|exact qlr _|exact qRr|refine And.intro ?_ ?_
theorem QK4:QP Try.prog 43 QGT:=
 Jc (QT W5) Try.func43 (by kernel_rfl) (by kernel_rfl) (by decide) QQM QRe
def WI:Tab:=Qg K1 43 QGT
theorem QEP:QZ WI:=W5.add QK4
def ZW:Bool:=d.ok&&VK d.play ⟨1,fun _=>s⟩
def Q3:List QB:=match ZW d s with
 | true=>KI d s d.ps.n
 | false=>[]
def Yv:Int:=match ZW d s with
 | true=>0
 | false=>1
theorem QY2(e f:Int)(o:List QB):QL 8 [.tup [.nils,vj e]] [] (Kg 8 (.tup [.slz 0 0 o.length cO,vi f]) [KW 56 0 o ⟨0,0⟩])=(
  some [o.length=(0:Nat),e=f,o.length=(0:Nat)]):=by kernel_rfl
theorem QWZ(n:Nat)(g:Nat→Nat→Int)(e f:Int)(o:List QB):QL 8 [.tup [.slz 144 0 n cO,vj e]] [(144,.rowz true 56 [.int .i64,.int .i64] n g)] (Kg 8 (.tup [.slz 0 0 o.length cO,vi f]) [KW 56 0 o ⟨0,0⟩])=(
  some [(0:Nat)=(0:Nat),n=o.length,Cap.of (0:Nat)=Cap.of (0:Nat),e=f,o.length≤n,QC (2:Nat) o.length g fun i=>QA.enc (o.getD i (QB.mk (0:Int) (0 :
  Int)))]):=by kernel_rfl
def qn:WF (Puz×QS×Unit):=fun|(d,(s,_))=>(decide (d.ps.n≤900),.tup [.slz 0 0 (Q3 d s).length (.of 0),.int false .i64 (Yv d s)],[KW 56 0 (Q3 d s) ⟨0,0⟩])
def QEv:FC:=wFC qn
noncomputable abbrev Ky:List AV:=
  [vi s.up.kind,vi s.up.at_.lo,vi s.up.at_.hi,vi s.up.wide.lo,vi s.up.wide.hi,vi s.up.deep.lo,.int
  false .i64 s.up.deep.hi,vi s.right.kind,vi s.right.at_.lo,vi s.right.at_.hi,vi s.right.wide.lo,.int false .i64
  s.right.wide.hi,vi s.right.deep.lo,vi s.right.deep.hi,vi s.down.kind,vi s.down.at_.lo,vi s.down.at_.hi,.int
  false .i64 s.down.wide.lo,vi s.down.wide.hi,vi s.down.deep.lo,vi s.down.deep.hi,vi s.left.kind,.int false .i64
  s.left.at_.lo,vi s.left.at_.hi,vi s.left.wide.lo,vi s.left.wide.hi,vi s.left.deep.lo,vi s.left.deep.hi]
theorem QVY :KO (mkE Try.prog WI) (hnd (mkE Try.prog WI) 0) Try.f15 (QV.vals 0 ((d,s,()):Puz×QS×Unit)) (QV.blks 0 ((d,s,()):Puz×QS×Unit)) 8 = .need
  (decide (d.ps.n≤d.ps.n)&&true&&decide (d.ps.n≤1000)) (.br (!d.ok) (.leaf (.tup [.nils,vj 1]) ([])) (.need (true&&(true&&true)&&decide (1≤1000)) (.br
  (!VK d.play (Rw.mk 1 fun i=>QS.mk (Edge.mk (QU [(Ky s)] 0 i 0) (Sp.mk (QU [(Ky s)] 0 i 1) (QU [(Ky s)] 0 i 2)) (Sp.mk (QU [(Ky s)] 0 i 3) (QU [(Ky s)] 0 i
  4)) (Sp.mk (QU [(Ky s)] 0 i 5) (QU [(Ky s)] 0 i 6))) (Edge.mk (QU [(Ky s)] 0 i 7) (Sp.mk (QU [(Ky s)] 0 i 8) (QU [(Ky s)] 0 i 9)) (Sp.mk (QU [(Ky s)] 0 i 10)
  (QU [(Ky s)] 0 i 11)) (Sp.mk (QU [(Ky s)] 0 i 12) (QU [(Ky s)] 0 i 13))) (Edge.mk (QU [(Ky s)] 0 i 14) (Sp.mk (QU [(Ky s)] 0 i 15) (QU [(Ky s)] 0 i 16))
  (Sp.mk (QU [(Ky s)] 0 i 17) (QU [(Ky s)] 0 i 18)) (Sp.mk (QU [(Ky s)] 0 i 19) (QU [(Ky s)] 0 i 20))) (Edge.mk (QU [(Ky s)] 0 i 21) (Sp.mk (QU [(Ky s)] 0 i
  22) (QU [(Ky s)] 0 i 23)) (Sp.mk (QU [(Ky s)] 0 i 24) (QU [(Ky s)] 0 i 25)) (Sp.mk (QU [(Ky s)] 0 i 26) (QU [(Ky s)] 0 i 27))))) (.leaf (.tup [.nils,.int true
  .i64 1]) ([])) (.need (decide (d.ps.n≤d.ps.n)&&(true&&true)&&decide (d.ps.n≤900)) (.leaf (.tup [.slz 144 0 (KI d s d.ps.n).length cO,vj 0]) ([(144,
  .rowz true 56 [.int .i64,.int .i64] (KI d s d.ps.n).length fun i=>QA.enc ((KI d s d.ps.n).getD i ⟨0,0⟩))])))))):=by kernel_rfl
theorem QPz:JN (mkE Try.prog WI) (Qs Try.f15) 8 qn (fun x_=>(hnd (mkE Try.prog WI) 0)):=by
 refine⟨?_⟩;rintro⟨d,⟨s,⟨⟩⟩⟩ hp G h1 h2;exact Qy (QT QEP) 0 G _ h1
theorem QWk:JS (mkE Try.prog WI) Try.f15 8 qn (fun x_=>(hnd (mkE Try.prog WI) 0)):=by
 refine⟨?_⟩;rintro⟨d,⟨s,⟨⟩⟩⟩ hp;refine⟨⟨rfl,by simp[qn,KW,Blk.own,Blk.all],rfl⟩,⟨?_⟩⟩
 rw[QVY d s];simp only[qn]at hp;have hn:d.ps.n≤900:=qdt hp
 have no:ZW d s=false→(QD.leaf (AV.tup [AV.nils,AV.int true i64 1]) []).den (Vg 8 (qn (d,s,())).2.1 (qn (d,s,())).2.2):=by
  intro h;have h1:Q3 d s=[]:=by simp only[Q3,h]
  have h2:Yv d s=1:=by simp only[Yv,h]
  refine⟨rfl,rfl,_,QY2 _ _ _,?_⟩;rw[h1,h2]
  repeat' first|exact trivial|with_reducible rfl|exact qlr _|exact qRr|refine And.intro ?_ ?_
  all_goals rfl
 refine QF (by simp;omega) (QG (fun h=>no ?_) (fun h=>QF rfl (QG (fun h2=>no ?_) (fun h2=>QF (by simp;omega) ?_))))
 ·have h:d.ok=false:=by simpa using h
  simp only[ZW,h,Bool.false_and]
 ·have h2:VK d.play ⟨1,fun _=>s⟩=false:=by simpa using (show(!VK d.play ⟨1,fun _=>s⟩)=true from h2)
  simp only[ZW,h2,Bool.and_false]
 ·have h:d.ok=true:=by simpa using h
  have h2:VK d.play ⟨1,fun _=>s⟩=true:=by simpa using (show(!VK d.play ⟨1,fun _=>s⟩)=false from h2)
  have hO:ZW d s=true:=by simp only[ZW,h,h2,Bool.and_self]
  have h3:Q3 d s=KI d s d.ps.n:=by simp only[Q3,hO]
  have h4:Yv d s=0:=by simp only[Yv,hO]
  refine⟨rfl,rfl,_,QWZ _ _ _ _ _,?_⟩;rw[h3,h4]
  repeat' first|exact trivial|with_reducible rfl|exact qlr _|exact qRr|refine And.intro ?_ ?_
theorem QJF:QP Try.prog 15 QEv:=
 Jc (QT QEP) Try.func15 (by kernel_rfl) (by kernel_rfl) (by decide) QPz QWk
def Wr:Tab:=Qg WI 15 QEv
theorem QBv:QZ Wr:=QEP.add QJF
def QIQ:Int×Int×Unit→Bool×AV:=fun|(lo,(hi,_))=>(true,Enc.enc (⟨lo,hi⟩:Sp))
def QOH:FC:=Q8 (KA QIQ)
theorem QZG(lo:Int)(hi:Int):Q5 (mkE Try.prog Wr) (hnd (mkE Try.prog Wr) 2) false Try.f46 (Qt.enc ((lo,hi,()):Int×Int×Unit)) [] 0 =
  QD.leaf (AV.agg [AV.int false i64 lo,AV.int false i64 hi]) ([]):=by kernel_rfl
theorem QXl:QP Try.prog 46 QOH:=by
 refine KN QBv 2 Try.func46 (by kernel_rfl) (by kernel_rfl) ?_
 rintro⟨lo,hi,⟨⟩⟩ hp;rw[QZG lo hi];simp only[QIQ,QD.den,AV.same,AV.sameL,and_true,true_and]at hp ⊢;simp only[Enc.enc,AV.same,AV.sameL,and_self]
def QAO:Tab:=Qg Wr 46 QOH
theorem QHO:QZ QAO:=QBv.add QXl
def QKs:Int×Int×Int×Unit→Bool×AV:=fun|(k,(w,(d,_)))=>(true,Enc.enc (⟨k,⟨1000,1000⟩,⟨w,w⟩,⟨d,d⟩⟩:Edge))
def QMR:FC:=Q8 (KA QKs)
theorem QU4(k:Int)(w:Int)(d:Int):Q5 (mkE Try.prog QAO) (hnd (mkE Try.prog QAO) 2) false Try.f45 (Qt.enc ((k,w,d,()):Int×Int×Int×Unit)) [] 0 =
  QD.need (true) (QD.need (true) (QD.leaf (AV.agg [AV.int false i64 k,AV.int true i64 (1000:Int),AV.int true i64 (1000:Int),AV.int false
  i64 w,AV.int false i64 w,AV.int false i64 d,AV.int false i64 d]) ([]))):=by kernel_rfl
theorem QQg:QP Try.prog 45 QMR:=by
 refine KN QHO 2 Try.func45 (by kernel_rfl) (by kernel_rfl) ?_
 rintro⟨k,w,d,⟨⟩⟩ hp;rw[QU4 k w d];simp only[QKs,QD.den,AV.same,AV.sameL,and_true,true_and]at hp ⊢;simp only[Enc.enc,AV.same,AV.sameL,and_self]
def QCh:Tab:=Qg QAO 45 QMR
theorem QKo:QZ QCh:=QHO.add QQg
def QLP:Int×Int×Int×Unit→Bool×AV:=fun|(k,(lo,(hi,_)))=>(true,Enc.enc (⟨k,⟨990,1010⟩,⟨lo,hi⟩,⟨395,415⟩⟩:Edge))
def QJj:FC:=Q8 (KA QLP)
theorem QQ4(k:Int)(lo:Int)(hi:Int):Q5 (mkE Try.prog QCh) (hnd (mkE Try.prog QCh) 2) false Try.f48 (Qt.enc ((k,lo,hi,()):Int×Int×Int×Unit)) [] 0 =
  QD.need (true) (QD.leaf (AV.agg [AV.int false i64 k,AV.int true i64 (990:Int),AV.int true i64 (1010:Int),AV.int false i64 lo,AV.int false
  i64 hi,AV.int true i64 (395:Int),AV.int true i64 (415:Int)]) ([])):=by kernel_rfl
theorem QSo:QP Try.prog 48 QJj:=by
 refine KN QKo 2 Try.func48 (by kernel_rfl) (by kernel_rfl) ?_
 rintro⟨k,lo,hi,⟨⟩⟩ hp;rw[QQ4 k lo hi];simp only[QLP,QD.den,AV.same,AV.sameL,and_true,true_and]at hp ⊢;simp only[Enc.enc,AV.same,AV.sameL,and_self]
def QAm:Tab:=Qg QCh 48 QJj
theorem QL8:QZ QAm:=QKo.add QSo
def QNq:Edge×Edge×Unit→Bool×AV:=fun|(r,(l,_))=>(true,Enc.enc (⟨K7,r,K7,l⟩:QS))
def QHA:FC:=Q8 (KA QNq)
theorem QTA(r:Edge)(l:Edge):Q5 (mkE Try.prog QAm) (hnd (mkE Try.prog QAm) 2) false Try.f47 (Qt.enc ((r,l,()):Edge×Edge×Unit)) [] 0 =
  QD.leaf (AV.agg [AV.int true i64 (0:Int),AV.int true i64 (0:Int),AV.int true i64 (0:Int),AV.int true i64 (0:Int),AV.int true
  i64 (0:Int),AV.int true i64 (0:Int),AV.int true i64 (0:Int),AV.int false i64 r.kind,AV.int false i64 r.at_.lo,AV.int false
  i64 r.at_.hi,AV.int false i64 r.wide.lo,AV.int false i64 r.wide.hi,AV.int false i64 r.deep.lo,AV.int false i64 r.deep.hi,AV.int true
  i64 (0:Int),AV.int true i64 (0:Int),AV.int true i64 (0:Int),AV.int true i64 (0:Int),AV.int true i64 (0:Int),AV.int true
  i64 (0:Int),AV.int true i64 (0:Int),AV.int false i64 l.kind,AV.int false i64 l.at_.lo,AV.int false i64 l.at_.hi,AV.int false
  i64 l.wide.lo,AV.int false i64 l.wide.hi,AV.int false i64 l.deep.lo,AV.int false i64 l.deep.hi]) ([]):=by kernel_rfl
theorem QVH:QP Try.prog 47 QHA:=by
 refine KN QL8 2 Try.func47 (by kernel_rfl) (by kernel_rfl) ?_
 rintro⟨r,l,⟨⟩⟩ hp;rw[QTA r l];simp only[QNq,QD.den,AV.same,AV.sameL,and_true,true_and]at hp ⊢;simp only[Enc.enc,K7,AV.same,AV.sameL,and_self]
def QAi:Tab:=Qg QAm 47 QHA
theorem QHv:QZ QAi:=QL8.add QVH
def pP:QS:=⟨K7,⟨1,⟨990,1010⟩,⟨490,570⟩,⟨395,415⟩⟩,K7,⟨2,⟨990,1010⟩,⟨505,525⟩,⟨395,415⟩⟩⟩
def pQ:QS:=⟨K7,⟨1,⟨990,1010⟩,⟨495,505⟩,⟨395,415⟩⟩,K7,⟨2,⟨990,1010⟩,⟨505,525⟩,⟨395,415⟩⟩⟩
def pR:QS:=⟨K7,K7,⟨1,⟨990,1010⟩,⟨490,510⟩,⟨395,415⟩⟩,K7⟩
def QLM:Unit→Bool×AV:=fun _=>(true,Enc.enc pP)
def QNu:FC:=Q8 (KA QLM)
theorem QPW :Q5 (mkE Try.prog QAi) (hnd (mkE Try.prog QAi) 2) false Try.f22 (Qt.enc (():Unit)) [] 0 =
  QD.leaf (AV.agg [AV.int true i64 (0:Int),AV.int true i64 (0:Int),AV.int true i64 (0:Int),AV.int true i64 (0:Int),AV.int true
  i64 (0:Int),AV.int true i64 (0:Int),AV.int true i64 (0:Int),AV.int true i64 (1:Int),AV.int true i64 (990:Int),AV.int true
  i64 (1010:Int),AV.int true i64 (490:Int),AV.int true i64 (570:Int),AV.int true i64 (395:Int),AV.int true i64 (415:Int),AV.int
  true i64 (0:Int),AV.int true i64 (0:Int),AV.int true i64 (0:Int),AV.int true i64 (0:Int),AV.int true i64 (0:Int),AV.int true
  i64 (0:Int),AV.int true i64 (0:Int),AV.int true i64 (2:Int),AV.int true i64 (990:Int),AV.int true i64 (1010:Int),AV.int true
  i64 (505:Int),AV.int true i64 (525:Int),AV.int true i64 (395:Int),AV.int true i64 (415:Int)]) ([]):=by kernel_rfl
theorem QZO:QP Try.prog 22 QNu:=by
 refine KN QHv 2 Try.func22 (by kernel_rfl) (by kernel_rfl) ?_
 rintro⟨⟩ hp;rw[QPW];simp only[QLM,QD.den,AV.same,AV.sameL,and_true,true_and]at hp ⊢;simp only[Enc.enc,pP,K7,AV.same,AV.sameL,and_self]
def QCm:Tab:=Qg QAi 22 QNu
theorem QNO:QZ QCm:=QHv.add QZO
def QOC:Unit→Bool×AV:=fun _=>(true,Enc.enc pQ)
def QH2:FC:=Q8 (KA QOC)
theorem QT5 :Q5 (mkE Try.prog QCm) (hnd (mkE Try.prog QCm) 2) false Try.f24 (Qt.enc (():Unit)) [] 0 =
  QD.leaf (AV.agg [AV.int true i64 (0:Int),AV.int true i64 (0:Int),AV.int true i64 (0:Int),AV.int true i64 (0:Int),AV.int true
  i64 (0:Int),AV.int true i64 (0:Int),AV.int true i64 (0:Int),AV.int true i64 (1:Int),AV.int true i64 (990:Int),AV.int true
  i64 (1010:Int),AV.int true i64 (495:Int),AV.int true i64 (505:Int),AV.int true i64 (395:Int),AV.int true i64 (415:Int),AV.int
  true i64 (0:Int),AV.int true i64 (0:Int),AV.int true i64 (0:Int),AV.int true i64 (0:Int),AV.int true i64 (0:Int),AV.int true
  i64 (0:Int),AV.int true i64 (0:Int),AV.int true i64 (2:Int),AV.int true i64 (990:Int),AV.int true i64 (1010:Int),AV.int true
  i64 (505:Int),AV.int true i64 (525:Int),AV.int true i64 (395:Int),AV.int true i64 (415:Int)]) ([]):=by kernel_rfl
theorem QQV:QP Try.prog 24 QH2:=by
 refine KN QNO 2 Try.func24 (by kernel_rfl) (by kernel_rfl) ?_
 rintro⟨⟩ hp;rw[QT5];simp only[QOC,QD.den,AV.same,AV.sameL,and_true,true_and]at hp ⊢;simp only[Enc.enc,pQ,K7,AV.same,AV.sameL,and_self]
def QAr:Tab:=Qg QCm 24 QH2
theorem QGt:QZ QAr:=QNO.add QQV
def QKa:Unit→Bool×AV:=fun _=>(true,Enc.enc pR)
def QIe:FC:=Q8 (KA QKa)
theorem QZt :Q5 (mkE Try.prog QAr) (hnd (mkE Try.prog QAr) 2) false Try.f19 (Qt.enc (():Unit)) [] 0 =
  QD.leaf (AV.agg [AV.int true i64 (0:Int),AV.int true i64 (0:Int),AV.int true i64 (0:Int),AV.int true i64 (0:Int),AV.int true
  i64 (0:Int),AV.int true i64 (0:Int),AV.int true i64 (0:Int),AV.int true i64 (0:Int),AV.int true i64 (0:Int),AV.int true
  i64 (0:Int),AV.int true i64 (0:Int),AV.int true i64 (0:Int),AV.int true i64 (0:Int),AV.int true i64 (0:Int),AV.int true
  i64 (1:Int),AV.int true i64 (990:Int),AV.int true i64 (1010:Int),AV.int true i64 (490:Int),AV.int true i64 (510:Int),AV.int
  true i64 (395:Int),AV.int true i64 (415:Int),AV.int true i64 (0:Int),AV.int true i64 (0:Int),AV.int true i64 (0:Int),AV.int
  true i64 (0:Int),AV.int true i64 (0:Int),AV.int true i64 (0:Int),AV.int true i64 (0:Int)]) ([]):=by kernel_rfl
theorem QVv:QP Try.prog 19 QIe:=by
 refine KN QGt 2 Try.func19 (by kernel_rfl) (by kernel_rfl) ?_
 rintro⟨⟩ hp;rw[QZt];simp only[QKa,QD.den,AV.same,AV.sameL,and_true,true_and]at hp ⊢;simp only[Enc.enc,pR,K7,AV.same,AV.sameL,and_self]
def Wj:Tab:=Qg QAr 19 QIe
theorem QDI:QZ Wj:=QGt.add QVv
def exE(k w d:Int):Edge:=⟨k,⟨1000,1000⟩,⟨w,w⟩,⟨d,d⟩⟩
def QXQ:List QS:=[⟨K7,exE 1 500 400,K7,K7⟩,⟨K7,exE 1 500 400,K7,exE 2 515 410⟩,⟨K7,exE 1 560 400,K7,exE 2 515 410⟩,⟨K7,K7,K7,exE 2 575 410⟩]
def QOk:AV := .agg [.int false .i64 2000,.int false .i64 20,.int false .i64 30,.int false .i64 0,.int false .i64 10,.int false .i64 4,.int false .i64 1,.bool false false,.slice true 0 0 4 (.lit 4)]
def QG2:Nat×Blk:=(0,.rowl 33 28 (QXQ.map fun p=>(Enc.enc p).cells))
noncomputable abbrev QLH:List AV:=
  [vj 2000,vj 20,vj 30,vj 0,vj 10,vj 4,vj 1,.bool true false,.slice true 248 0 4 (Cap.lit
  4)]
noncomputable abbrev QJN:List (Nat×Blk):=
  [(248,.rowl 33 28 [[vj 0,vj 0,vj 0,vj 0,vj 0,vj 0,vj 0,vj 1,.int true .i64
  1000,vj 1000,vj 500,vj 500,vj 400,vj 400,vj 0,vj 0,vj 0,vj 0,
  .int true .i64 0,vj 0,vj 0,vj 0,vj 0,vj 0,vj 0,vj 0,vj 0,vj 0],
  [vj 0,vj 0,vj 0,vj 0,vj 0,vj 0,vj 0,vj 1,vj 1000,.int true .i64
  1000,vj 500,vj 500,vj 400,vj 400,vj 0,vj 0,vj 0,vj 0,vj 0,.int
  true .i64 0,vj 0,vj 2,vj 1000,vj 1000,vj 515,vj 515,vj 410,vj 410],[.int
  true .i64 0,vj 0,vj 0,vj 0,vj 0,vj 0,vj 0,vj 1,vj 1000,vj 1000,
  .int true .i64 560,vj 560,vj 400,vj 400,vj 0,vj 0,vj 0,vj 0,vj 0,.int true
  .i64 0,vj 0,vj 2,vj 1000,vj 1000,vj 515,vj 515,vj 410,vj 410],[.int true
  .i64 0,vj 0,vj 0,vj 0,vj 0,vj 0,vj 0,vj 0,vj 0,vj 0,.int true
  .i64 0,vj 0,vj 0,vj 0,vj 0,vj 0,vj 0,vj 0,vj 0,vj 0,.int true
  .i64 0,vj 2,vj 1000,vj 1000,vj 575,vj 575,vj 410,vj 410]])]
abbrev jW:List Prop:=
  [(0:Int)=0,(0:Int)=0,(0:Int)=0,(0:Int)=0,(0:Int)=0]
abbrev QC4:List Prop:=
  [(0:Int)=0,(0:Int)=0,(1:Int)=1,(1000:Int)=1000,(1000:Int)=1000]
abbrev QJl:List Prop:=
  [(0:Int)=0,(0:Int)=0,(0:Int)=0,(0:Int)=0,(0:Int)=0,(0:Int)=0,(0:Int)=0,(0:Int)=0,(0:Int)=0,(0:Int)=0,(0:Int)=0,(0:Int)=0]
abbrev QC1:List Prop:=
  [(0:Int)=0,(0:Int)=0,(2:Int)=2,(1000:Int)=1000,(1000:Int)=1000]
theorem QRf :QL 8 [(.agg QLH)] (QJN) (Kg 8 QOk [QG2])=(some ([(2000:Int)=2000,(20:Int)=20,(30:Int)=30,(0:Int)=0,(10:Int)=10,(4:Int)=4,(1:Int)=1,
  false=false,0=0,4=4,Cap.lit 4=Cap.lit 4]++jW++QC4++[(500:Int)=500,(500:Int)=500,(400:Int)=400,(400:Int)=400]++QJl++jW++[(0:Int) =
  0,(0:Int)=0]++QC4++[(500:Int)=500,(500:Int)=500,(400:Int)=400,(400:Int)=400]++jW++QC1++[(515:Int)=515,(515:Int)=515,(410:Int) =
  410,(410:Int)=410]++jW++QC4++[(560:Int)=560,(560:Int)=560,(400:Int)=400,(400:Int)=400]++jW++QC1++[(515:Int)=515,(515:Int)=515,
  (410:Int)=410,(410:Int)=410]++QJl++jW++[(0:Int)=0,(0:Int)=0]++QC1++[(575:Int)=575,(575:Int)=575,(410:Int)=410,(410:Int)=410])):=by kernel_rfl
def QBn:WF (Unit):=fun|_=>(true,QOk,[QG2])
def QOy:FC:=wFC QBn
theorem QZD :KO (mkE Try.prog Wj) (hnd (mkE Try.prog Wj) 2) Try.f18 (QV.vals 0 ((()):Unit)) (QV.blks 0 ((()):Unit)) 8 = .leaf (.agg QLH) (QJN):=by kernel_rfl
theorem QUX:JN (mkE Try.prog Wj) (Qs Try.f18) 8 QBn (fun x_=>(hnd (mkE Try.prog Wj) 2)):=by
 refine⟨?_⟩;rintro⟨⟩ hp G h1 h2;exact Qy (QT QDI) 2 G _ h1
theorem QYm:JS (mkE Try.prog Wj) Try.f18 8 QBn (fun x_=>(hnd (mkE Try.prog Wj) 2)):=by
 refine⟨?_⟩;rintro⟨⟩ hp;refine⟨⟨rfl,by decide,rfl⟩,⟨?_⟩⟩
 rw[QZD];simp only[QBn]at hp;exact⟨rfl,rfl,_,QRf,by repeat' first|exact trivial|rfl|refine And.intro ?_ ?_⟩
theorem QYF:QP Try.prog 18 QOy:=
 Jc (QT QDI) Try.func18 (by kernel_rfl) (by kernel_rfl) (by decide) QUX QYm
def V4:Tab:=Qg Wj 18 QOy
theorem Wb:QZ V4:=QDI.add QYF
structure Jn where
 a:Int
 i:Int
 b:Int
 j:Int
instance : QA Jn where
  ks := [.int .i64,.int .i64,.int .i64,.int .i64]
  enc p j := match j with
    | 0 => p.a
    | 1 => p.i
    | 2 => p.b
    | _ => p.j
  dec f := ⟨f 0,f 1,f 2,f 3⟩
  ok _ := rfl
instance : Enc Jn where
  enc x := .agg [.int false .i64 x.a,.int false .i64 x.i,.int false .i64 x.b,.int false .i64 x.j]
  dec | .agg [.int _ .i64 a0,.int _ .i64 a1,.int _ .i64 a2,.int _ .i64 a3] => some ⟨a0,a1,a2,a3⟩ | _ => none
  ok v x h := by
    split at h <;> (try (cases h; done))
    simp only[qsI]at h; subst h; exact⟨fun _ => rfl,rfl⟩
instance : Enc QB where
  enc x := .agg [.int false .i64 x.cell,.int false .i64 x.turn]
  dec | .agg [.int _ .i64 a0,.int _ .i64 a1] => some ⟨a0,a1⟩ | _ => none
  ok v x h := by
    split at h <;> (try (cases h; done))
    simp only[qsI]at h; subst h; exact⟨fun _ => rfl,rfl⟩
structure QE where
 d:Puz
 scans:Rw QS
 hang:Rw Jn
 lost:Int
 foreign:Int
def JG(k:Nat)(x:QE):List AV:=[.int false .i64 x.d.play.length,.int false .i64 x.d.play.slack,.int false .i64 x.d.play.loose,.int false .i64 x.d.play.damp.lo,.int false .i64 x.d.play.damp.hi,.int false .i64 x.d.wide,.int false .i64 x.d.high,.bool false x.d.turn,Q7.val k x.d.ps,Q7.val (k+1) x.scans,Q7.val (k+2) x.hang,.int false .i64 x.lost,.int false .i64 x.foreign]
def Jd(k:Nat)(x:QE):List (Nat×Blk):=Q7.blk k x.d.ps++(Q7.blk (k+1) x.scans++Q7.blk (k+2) x.hang)
instance {β : Type} [QV β] : QV (QE × β) where
  len := QV.len β + 3
  vals k x := .agg (JG k x.1) :: QV.vals (k + 3) x.2
  blks k x := Jd k x.1 ++ QV.blks (k + 3) x.2
  dec
    | v :: l,lk => (match v with
      | .agg [.int _ .i64 a,.int _ .i64 b,.int _ .i64 c,.int _ .i64 d,.int _ .i64 e,.int _ .i64 f,.int _ .i64 g,.bool _ t,s1,s2,s3,.int _ .i64 lo,.int _ .i64 fo] => (match (Q7.dec s1 lk : Option (Bool × Rw QS)),(Q7.dec s2 lk : Option (Bool × Rw QS)),(Q7.dec s3 lk : Option (Bool × Rw Jn)),(QV.dec l lk : Option (Bool × β))with
        | some (p1,x1),some (p2,x2),some (p3,x3),some (q,y) => some (p1 && (p2 && (p3 && q)),⟨⟨⟨a,b,c,⟨d,e⟩⟩,f,g,t,x1⟩,x2,x3,lo,fo⟩,y)
        | _,_,_,_ => none)
      | _ => none)
    | _,_ => none
  ok vs lk p x h hp := by
    split at h <;> (try (cases h; done))
    split at h <;> (try (cases h; done))
    split at h <;> (try (cases h; done))
    rename_i l lk' _ _ a _ b _ c _ d _ e _ f _ g _ t s1 s2 s3 _ lo _ fo _ _ _ _ p1 x1 p2 x2 p3 x3 q y h1 h2 h3 h4;simp only[qsI,qpI]at h;obtain⟨rfl,rfl⟩ := h;simp only[qbA]at hp;obtain⟨a1,a2⟩ := Q7.ok _ _ _ _ h1 hp.1;obtain⟨b1,b2⟩ := Q7.ok _ _ _ _ h2 hp.2.1;obtain⟨c1,c2⟩ := Q7.ok _ _ _ _ h3 hp.2.2.1;obtain⟨d1,d2⟩ := QV.ok _ _ _ _ h4 hp.2.2.2;refine⟨fun k => ⟨?_,fun z hz => ?_⟩,fun r w hw => ?_⟩
    · simp only[AV.allL,qbA]
      refine⟨?_,allL_mono (fun i hi => ?_) _ (d1 (k + 3)).1⟩
      · simp only[AV.all,JG,AV.allL,Bool.true_and,Bool.and_true,qbA]
        refine⟨all_mono (fun i hi => ?_) _ (a1 k).1,all_mono (fun i hi => ?_) _ (b1 (k + 1)).1,all_mono (fun i hi => ?_) _ (c1 (k + 2)).1⟩
        · have hi : i = k := by simpa using hi
          subst hi; simp
        · have hi : i = k + 1 := by simpa using hi
          subst hi; simp
        · have hi : i = k + 2 := by simpa using hi
          subst hi; simp
      · simp only[qdE]at hi ⊢; omega
    · simp only[Jd,List.mem_append]at hz
      rcases hz with (hz | hz | hz) | hz
      · obtain⟨e1,e2,e3⟩ := (a1 k).2 z hz
        exact⟨by omega,e2,e3⟩
      · obtain⟨e1,e2,e3⟩ := (b1 (k + 1)).2 z hz
        exact⟨by omega,e2,e3⟩
      · obtain⟨e1,e2,e3⟩ := (c1 (k + 2)).2 z hz
        exact⟨by omega,e2,e3⟩
      · obtain⟨e1,e2,e3⟩ := (d1 (k + 3)).2 z hz
        exact⟨by omega,e2,e3⟩
    · obtain⟨l1,e1⟩ := a2 r w hw
      obtain⟨l2,e2⟩ := b2 r w hw;obtain⟨l3,e3⟩ := c2 r w hw;obtain⟨L,e4⟩ := d2 r w hw;refine⟨fun i => match i with | 0 => l1 | 1 => l2 | 2 => l3 | i + 3 => L i,fun k r' hr => ?_⟩
      obtain⟨g1,g2⟩ := e1 k r' (by simpa using hr 0 (by omega))
      obtain⟨g3,g4⟩ := e2 (k + 1) r' (hr 1 (by omega))
      obtain⟨g5,g6⟩ := e3 (k + 2) r' (hr 2 (by omega))
      obtain⟨g7,g8⟩ := e4 (k + 3) r' (fun i hi => by have := hr (i + 3) (by omega); rw[show k + 3 + i = k + (i + 3) by omega]; exact this)
      refine⟨?_,fun z hz => ?_⟩
      · simp only[AV.denL,AV.den,JG]at g1 g3 g5 g7 ⊢
        rw[g1,g3,g5,g7]
      · simp only[Jd,List.mem_append]at hz
        rcases hz with (hz | hz | hz) | hz
        · exact g2 z hz
        · exact g4 z hz
        · exact g6 z hz
        · exact g8 z hz
end Go.Proofs.Ytbpffdkemeoajaa
