/- - -/
import Derived.Test.YtbpffdkemeoajaaMxs
open Go.IntKind (i64)
set_option maxRecDepth 100000
namespace Go.Proofs.Ytbpffdkemeoajaa
open Go.SX
def QE4:Ex→List Nat
 | .normal=>[3,4,11,12,13]
 | .exit _=>[4]
 | .ret=>[]
variable (d:Puz)(s:QI)(o:List QC)
def qM:JSt:=⟨49,[(4,.slz 24 0 o.length (.of 0))],[Kf 56 24 o ⟨0,0⟩],32⟩
noncomputable abbrev QKi(o':List QC)(s:QI):List (Nat×Blk):=
  [(16,.cells 7 33 [vi s.up.kind,vi s.up.at_.lo,vi s.up.at_.hi,vi s.up.wide.lo,vi s.up.wide.hi,.int false .i64
  s.up.deep.lo,vi s.up.deep.hi,vi s.right.kind,vi s.right.at_.lo,vi s.right.at_.hi,vi s.right.wide.lo,.int false
  .i64 s.right.wide.hi,vi s.right.deep.lo,vi s.right.deep.hi,vi s.down.kind,vi s.down.at_.lo,vi s.down.at_.hi,
  .int false .i64 s.down.wide.lo,vi s.down.wide.hi,vi s.down.deep.lo,vi s.down.deep.hi,vi s.left.kind,.int false .i64
  s.left.at_.lo,vi s.left.at_.hi,vi s.left.wide.lo,vi s.left.wide.hi,vi s.left.deep.lo,vi s.left.deep.hi]),(24,
  .rowz true 56 [.int .i64,.int .i64] o'.length fun i=>QA.enc (o'.getD i ⟨0,0⟩)),(0,.frz [.int .i64,.int .i64,.int .i64,.int .i64,.int .i64,.int .i64,.int .i64,.int
  .i64,.int .i64,.int .i64,.int .i64,.int .i64,.int .i64,.int .i64,.int .i64,.int .i64,.int .i64,.int .i64,.int .i64,.int .i64,.int .i64,.int .i64,.int .i64,.int .i64,
  .int .i64,.int .i64,.int .i64,.int .i64] d.ps.n fun i=>QA.enc (d.ps.get i))]
theorem QSe(o o':List QC)(c:Nat)(g:Nat→Value):exec (mkE Try.prog Kd) { hnd (mkE Try.prog Kd) 1 with loop:=fun _=>KE 8 [] (Jj d s o c 0) [(True,.exit 2,vJ d s o' c)] } (QZ Try.f43 0) (JSt.inst (Wh d s
  o c) g) (KW [] QE4) = .br (decide ((c:Int)<(d.ps.n:Int))) (.need (decide ((0:Int)≤(c:Int)∧(c:Int)<(d.ps.n:Int))&&decide (d.ps.n≤d.ps.n)) (.need (decide
  (c<d.ps.n)) (.ask (0=0) (.ask (0=0) (.ask (0=0) (.ask (o.length=o.length) (.ask (cO=cO) (.ask ((c:Int)=(c:Int)) (.ask (0=0) (.ask (0=0) (.ask (0 =
  0) (.ask (d.ps.n=d.ps.n) (.ask (cO=cO) (.ask ((d.ps.n:Int)=(d.ps.n:Int)) (.ask ((c:Int)=(c:Int)) (.ask ((0:Int)=0) (.ask (s.up.kind=s.up.kind)
  (.ask (s.up.at_.lo=s.up.at_.lo) (.ask (s.up.at_.hi=s.up.at_.hi) (.ask (s.up.wide.lo=s.up.wide.lo) (.ask (s.up.wide.hi=s.up.wide.hi) (.ask (s.up.deep.lo=s.up.deep.lo) (.ask
  (s.up.deep.hi=s.up.deep.hi) (.ask (s.right.kind=s.right.kind) (.ask (s.right.at_.lo=s.right.at_.lo) (.ask (s.right.at_.hi=s.right.at_.hi) (.ask (s.right.wide.lo =
  s.right.wide.lo) (.ask (s.right.wide.hi=s.right.wide.hi) (.ask (s.right.deep.lo=s.right.deep.lo) (.ask (s.right.deep.hi=s.right.deep.hi) (.ask (s.down.kind=s.down.kind)
  (.ask (s.down.at_.lo=s.down.at_.lo) (.ask (s.down.at_.hi=s.down.at_.hi) (.ask (s.down.wide.lo=s.down.wide.lo) (.ask (s.down.wide.hi=s.down.wide.hi) (.ask (s.down.deep.lo =
  s.down.deep.lo) (.ask (s.down.deep.hi=s.down.deep.hi) (.ask (s.left.kind=s.left.kind) (.ask (s.left.at_.lo=s.left.at_.lo) (.ask (s.left.at_.hi=s.left.at_.hi) (.ask
  (s.left.wide.lo=s.left.wide.lo) (.ask (s.left.wide.hi=s.left.wide.hi) (.ask (s.left.deep.lo=s.left.deep.lo) (.ask (s.left.deep.hi=s.left.deep.hi) (.ask (o.length≤o.length)
  (.ask (QE 2 o.length (fun i=>QA.enc (o.getD i ⟨0,0⟩)) fun i=>QA.enc (o.getD i ⟨0,0⟩)) (.ask ((d.ps.get c).up.kind=(d.ps.get c).up.kind) (.ask ((d.ps.get c).up.at_.lo
  = (d.ps.get c).up.at_.lo) (.ask ((d.ps.get c).up.at_.hi=(d.ps.get c).up.at_.hi) (.ask ((d.ps.get c).up.wide.lo=(d.ps.get c).up.wide.lo) (.ask ((d.ps.get c).up.wide.hi =
  (d.ps.get c).up.wide.hi) (.ask ((d.ps.get c).up.deep.lo=(d.ps.get c).up.deep.lo) (.ask ((d.ps.get c).up.deep.hi=(d.ps.get c).up.deep.hi) (.ask ((d.ps.get c).right.kind =
  (d.ps.get c).right.kind) (.ask ((d.ps.get c).right.at_.lo=(d.ps.get c).right.at_.lo) (.ask ((d.ps.get c).right.at_.hi=(d.ps.get c).right.at_.hi) (.ask ((d.ps.get
  c).right.wide.lo=(d.ps.get c).right.wide.lo) (.ask ((d.ps.get c).right.wide.hi=(d.ps.get c).right.wide.hi) (.ask ((d.ps.get c).right.deep.lo=(d.ps.get c).right.deep.lo) (.ask
  ((d.ps.get c).right.deep.hi=(d.ps.get c).right.deep.hi) (.ask ((d.ps.get c).down.kind=(d.ps.get c).down.kind) (.ask ((d.ps.get c).down.at_.lo=(d.ps.get c).down.at_.lo) (.ask
  ((d.ps.get c).down.at_.hi=(d.ps.get c).down.at_.hi) (.ask ((d.ps.get c).down.wide.lo=(d.ps.get c).down.wide.lo) (.ask ((d.ps.get c).down.wide.hi=(d.ps.get c).down.wide.hi)
  (.ask ((d.ps.get c).down.deep.lo=(d.ps.get c).down.deep.lo) (.ask ((d.ps.get c).down.deep.hi=(d.ps.get c).down.deep.hi) (.ask ((d.ps.get c).left.kind=(d.ps.get c).left.kind)
  (.ask ((d.ps.get c).left.at_.lo=(d.ps.get c).left.at_.lo) (.ask ((d.ps.get c).left.at_.hi=(d.ps.get c).left.at_.hi) (.ask ((d.ps.get c).left.wide.lo=(d.ps.get c).left.wide.lo)
  (.ask ((d.ps.get c).left.wide.hi=(d.ps.get c).left.wide.hi) (.ask ((d.ps.get c).left.deep.lo=(d.ps.get c).left.deep.lo) (.ask ((d.ps.get c).left.deep.hi=(d.ps.get
  c).left.deep.hi) (.ask (d.ps.n≤d.ps.n) (.ask (QE 28 d.ps.n (fun i=>QA.enc (d.ps.get i)) fun i=>QA.enc (d.ps.get i)) (.asm (True) (.all (fun(g0:Nat→Value) => .leaf
  (.tup [.nilp,.ptr 49 0 0,.ptr 16 0 0,.slz 24 0 o'.length cO,.slz 0 0 d.ps.n cO,vi (d.ps.n:Int),vi (i64.wrap ((c:Int) +
  1))]) ((QKi d o' s))))))))))))))))))))))))))))))))))))))))))))))))))))))))))))))))))))))))))))))))) (.leaf (.tup [.ptr 0 0 0,.ptr 49 0 0,.slz 24 0 o.length cO]) ([(24,
  .rowz true 56 [.int .i64,.int .i64] o.length fun i=>QA.enc (o.getD i ⟨0,0⟩))])):=by kernel_rfl
theorem QPh(o' o2:List QC)(c c1:Nat):QO 8 [.ptr 16 0 0,.slz 24 0 o'.length cO,.slz 0 0 d.ps.n cO,vi (d.ps.n:Int),vi (i64.wrap ((c:Int)+1))] ((QKi d o' s))
  (Wh d s o2 c1)=(some [0=0,0=0,0=0,o'.length=o2.length,cO=cO,0=0,d.ps.n=d.ps.n,cO=cO,(d.ps.n:Int)=(d.ps.n:Int),
  i64.wrap ((c:Int)+1)=(c1:Int),s.up.kind=s.up.kind,s.up.at_.lo=s.up.at_.lo,s.up.at_.hi=s.up.at_.hi,s.up.wide.lo=s.up.wide.lo,s.up.wide.hi=s.up.wide.hi,
  s.up.deep.lo=s.up.deep.lo,s.up.deep.hi=s.up.deep.hi,s.right.kind=s.right.kind,s.right.at_.lo=s.right.at_.lo,s.right.at_.hi=s.right.at_.hi,s.right.wide.lo =
  s.right.wide.lo,s.right.wide.hi=s.right.wide.hi,s.right.deep.lo=s.right.deep.lo,s.right.deep.hi=s.right.deep.hi,s.down.kind=s.down.kind,s.down.at_.lo=s.down.at_.lo,
  s.down.at_.hi=s.down.at_.hi,s.down.wide.lo=s.down.wide.lo,s.down.wide.hi=s.down.wide.hi,s.down.deep.lo=s.down.deep.lo,s.down.deep.hi=s.down.deep.hi,s.left.kind =
  s.left.kind,s.left.at_.lo=s.left.at_.lo,s.left.at_.hi=s.left.at_.hi,s.left.wide.lo=s.left.wide.lo,s.left.wide.hi=s.left.wide.hi,s.left.deep.lo=s.left.deep.lo,
  s.left.deep.hi=s.left.deep.hi,o2.length≤o'.length,QE 2 o2.length (fun i=>QA.enc (o'.getD i ⟨0,0⟩)) fun i=>QA.enc (o2.getD i ⟨0,0⟩),d.ps.n≤d.ps.n,QE 28
  d.ps.n (fun i=>QA.enc (d.ps.get i)) fun i=>QA.enc (d.ps.get i)]):=by kernel_rfl
theorem QTR(o o2:List QC):QO 8 [AV.slz (24:Nat) (0:Nat) o.length (Cap.of (0:Nat))] ([((24:Nat),Blk.rowz true (56:Nat) [CK.int i64,CK.int i64] o.length fun i=>QA.enc (o.getD i (QC.mk (0:Int) (0:Int))))]) (qM o2)=(
  some [(0:Nat)=(0:Nat),o.length=o2.length,Cap.of (0:Nat)=Cap.of (0:Nat),o2.length≤o.length,QE (2:Nat) o2.length (fun i=>QA.enc (o.getD i (QC.mk (0 :
  Int) (0:Int)))) fun i=>QA.enc (o2.getD i (QC.mk (0:Int) (0:Int)))]):=by kernel_rfl
theorem QOi:QO 8 [.slz 24 0 o.length cO] [(24,.rowz true 56 [.int .i64,.int .i64] o.length fun i=>QA.enc (o.getD i ⟨0,0⟩))] (K0 8 (.slz 0 0 o.length cO) [Kf 56 0 o ⟨0,0⟩])=(
  some [(0:Nat)=(0:Nat),o.length=o.length,Cap.of (0:Nat)=Cap.of (0:Nat),o.length≤o.length,QE (2:Nat) o.length (fun i=>QA.enc (o.getD i (QC.mk (0:Int)
  (0:Int)))) fun i=>QA.enc (o.getD i (QC.mk (0:Int) (0:Int)))]):=by kernel_rfl
theorem QR4(c:Nat)(ho:o.length≤4000)(G:Ctx)(hrd:G.rd=none)(hG:G.n=8):Q5 (mkE Try.prog Kd) G { hnd (mkE Try.prog Kd) 1 with loop:=fun _=>KE 8 [] (Jj d s o c 0) [(True,.exit 2,vJ d s (KC d s o c 4) c)] } (QZ Try.f43 0):=by
 refine JT (body:=WR (QZ Try.f43 0)) (QR WW) hrd (by kernel_rfl) ?_
 refine JX (n0:=8) (QR WW) (by omega) (fun t ht=>Qv (QR WW) 6 G _ hrd) (fun t ht=>(by decide:8≤40)) ?_ (QRK d s o c ho) (s0:=0) (Nat.zero_le _) ?_
 ·rintro t e J ⟨_,rfl⟩;exact(by decide:8≤40)
 ·rintro e J ⟨rfl,rfl⟩;exact⟨_,List.mem_cons_self,trivial,rfl,rfl⟩
theorem QRk(hn:d.ps.n≤900):JD (fun c=>Wh d s (Q8 d s c) c) (fun c=>c≤d.ps.n) (fun c=>d.ps.n-c) (fun _ e J=>e = .exit 0∧J=qM (Q8 d s d.ps.n)) 8 QE4 [] (mkE Try.prog Kd) (fun c=>{ hnd (mkE Try.prog Kd) 1 with loop:=fun _=>KE 8 [] (Jj d s (Q8 d s c) c 0) [(True,.exit 2,vJ d s (KC d s (Q8 d s c) c 4) c)] }) (QZ Try.f43 0):=by
 refine⟨fun c g hc=>Wg (QSe d s _ _ c g) ?_⟩;refine QK (fun h => ?_) (fun h => ?_)
 ·have h:c<d.ps.n:=by have:=qdt h;omega
  have hw:i64.wrap ((c:Int)+1)=((c+1:Nat):Int):=(w64 (by omega) (by omega)).trans (by omega)
  refine QF (by simp;omega) (QF (by simp;omega) ?_)
  repeat' first|refine Qa (show _=_ by with_reducible rfl) ?_|refine Qa (show _≤_ from qlr _) ?_|refine Qa (show QE _ _ _ _ from qRr) ?_
  refine KQ fun _=>KN fun g => ?_;refine⟨c+1,h,by show d.ps.n-(c+1)<d.ps.n-c;omega,fun _ _ h=>h,rfl,rfl,_,QPh d s _ (Q8 d s (c+1)) c (c+1),?_⟩
  repeat' first|exact trivial|with_reducible rfl|exact qlr _|exact qRr|exact hw|refine And.intro ?_ ?_
  rfl
 ·have:c=d.ps.n:=by have:=of_decide_eq_false h;omega
  subst this;refine⟨_,⟨rfl,rfl⟩,rfl,rfl,_,QTR _ _,?_⟩
  repeat' first|exact trivial|with_reducible rfl|exact qlr _|exact qRr|refine And.intro ?_ ?_
theorem QQE(hn:d.ps.n≤900)(G:Ctx)(hrd:G.rd=none)(hG:G.n=8):Q5 (mkE Try.prog Kd) G { hnd (mkE Try.prog Kd) 1 with loop:=fun _=>KE 8 [] (Wh d s [] (0:Nat)) [(True,.exit 0,qM (Q8 d s d.ps.n))] } (Qq Try.f43):=by
 refine JT (body:=QZ Try.f43 0) (QR WW) hrd (by kernel_rfl) ?_
 refine JX (n0:=8) (QR WW) (by omega) (fun c hc=>QR4 d s (Q8 d s c) c (by have:=jv d s c;have:c≤d.ps.n:=hc;omega) G hrd hG) (fun c hc=>(by decide:8≤32)) ?_ (QRk d s hn) (s0:=0) (Nat.zero_le _) ?_
 ·rintro t e J ⟨_,rfl⟩;exact(by decide:8≤32)
 ·rintro e J ⟨rfl,rfl⟩;exact⟨_,List.mem_cons_self,trivial,rfl,rfl⟩
def vr:WF (Puz×QI×Unit):=fun|(d,(s,_))=>(decide (d.ps.n≤900),.slz 0 0 (Q8 d s d.ps.n).length (.of 0),[Kf 56 0 (Q8 d s d.ps.n) ⟨0,0⟩])
def QCw:FC:=wFC vr
theorem QVo :KY (mkE Try.prog Kd) { hnd (mkE Try.prog Kd) 1 with loop:=fun _=>KE 8 [] (Wh d s [] (0:Nat)) [(True,.exit 0,qM (Q8 d s d.ps.n))] } Try.f43 (QS.vals
  0 ((d,s,()):Puz×QI×Unit)) (QS.blks 0 ((d,s,()):Puz×QI×Unit)) 8 = .ask (0=0) (.ask (0=0) (.ask (0=0) (.ask (0=0) (.ask (d.ps.n=d.ps.n) (.ask
  (cO=cO) (.ask ((d.ps.n:Int)=(d.ps.n:Int)) (.ask ((0:Int)=0) (.ask (s.up.kind=s.up.kind) (.ask (s.up.at_.lo=s.up.at_.lo) (.ask (s.up.at_.hi=s.up.at_.hi)
  (.ask (s.up.wide.lo=s.up.wide.lo) (.ask (s.up.wide.hi=s.up.wide.hi) (.ask (s.up.deep.lo=s.up.deep.lo) (.ask (s.up.deep.hi=s.up.deep.hi) (.ask (s.right.kind=s.right.kind)
  (.ask (s.right.at_.lo=s.right.at_.lo) (.ask (s.right.at_.hi=s.right.at_.hi) (.ask (s.right.wide.lo=s.right.wide.lo) (.ask (s.right.wide.hi=s.right.wide.hi) (.ask
  (s.right.deep.lo=s.right.deep.lo) (.ask (s.right.deep.hi=s.right.deep.hi) (.ask (s.down.kind=s.down.kind) (.ask (s.down.at_.lo=s.down.at_.lo) (.ask (s.down.at_.hi =
  s.down.at_.hi) (.ask (s.down.wide.lo=s.down.wide.lo) (.ask (s.down.wide.hi=s.down.wide.hi) (.ask (s.down.deep.lo=s.down.deep.lo) (.ask (s.down.deep.hi=s.down.deep.hi) (.ask
  (s.left.kind=s.left.kind) (.ask (s.left.at_.lo=s.left.at_.lo) (.ask (s.left.at_.hi=s.left.at_.hi) (.ask (s.left.wide.lo=s.left.wide.lo) (.ask (s.left.wide.hi =
  s.left.wide.hi) (.ask (s.left.deep.lo=s.left.deep.lo) (.ask (s.left.deep.hi=s.left.deep.hi) (.ask (0=0) (.ask (d.ps.n≤d.ps.n) (.ask (QE 28 d.ps.n (fun i=>QA.enc
  (d.ps.get i)) fun i=>QA.enc (d.ps.get i)) (.asm (True) (.all (fun(g0:Nat→Value) => .leaf (.slz 24 0 (Q8 d s d.ps.n).length cO) ([(24,.rowz true 56 [.int .i64,
  .int .i64] (Q8 d s d.ps.n).length fun i=>QA.enc ((Q8 d s d.ps.n).getD i ⟨0,0⟩))])))))))))))))))))))))))))))))))))))))))))):=by kernel_rfl
theorem QTU:Kx (mkE Try.prog Kd) (Qq Try.f43) 8 vr (fun x_=>{ hnd (mkE Try.prog Kd) 1 with loop:=fun _=>KE 8 [] (Wh x_.1 x_.2.1 [] (0:Nat)) [(True,.exit 0,qM (Q8 x_.1 x_.2.1 x_.1.ps.n))] }):=by
 refine⟨?_⟩;rintro⟨d,⟨s,⟨⟩⟩⟩ hp G h1 h2;exact QQE d s (qdt hp) G h1 h2
theorem QMy:K3 (mkE Try.prog Kd) Try.f43 8 vr (fun x_=>{ hnd (mkE Try.prog Kd) 1 with loop:=fun _=>KE 8 [] (Wh x_.1 x_.2.1 [] (0:Nat)) [(True,.exit 0,qM (Q8 x_.1 x_.2.1 x_.1.ps.n))] }):=by
 refine⟨?_⟩;rintro⟨d,⟨s,⟨⟩⟩⟩ hp;refine⟨⟨rfl,by simp[vr,Kf,Blk.own,Blk.all],rfl⟩,⟨?_⟩⟩
 rw[QVo d s];simp only[vr]at hp
 repeat' first|refine Qa (show _=_ by with_reducible rfl) ?_|refine Qa (show _≤_ from qlr _) ?_|refine Qa (show QE _ _ _ _ from qRr) ?_
 refine KQ fun _=>KN fun g=>⟨rfl,rfl,_,QOi _,?_⟩
 repeat' first|exact trivial|with_reducible rfl|exact qlr _|exact qRr|refine And.intro ?_ ?_
theorem QKH:QQ Try.prog 43 QCw:=
 K9 (QR WW) Try.func43 (by kernel_rfl) (by kernel_rfl) (by decide) QTU QMy
def Za:Tab:=Qb Kd 43 QCw
theorem QCV:QV Za:=WW.add QKH
def Wa:Bool:=d.ok&&Js d.play ⟨1,fun _=>s⟩
def jF:List QC:=match Wa d s with
 | true=>Q8 d s d.ps.n
 | false=>[]
def zX:Int:=match Wa d s with
 | true=>0
 | false=>1
theorem QWM(e f:Int)(o:List QC):QO 8 [.tup [.nils,vj e]] [] (K0 8 (.tup [.slz 0 0 o.length cO,vi f]) [Kf 56 0 o ⟨0,0⟩])=(
  some [o.length=(0:Nat),e=f,o.length=(0:Nat)]):=by kernel_rfl
theorem QSz(n:Nat)(g:Nat→Nat→Int)(e f:Int)(o:List QC):QO 8 [.tup [.slz 144 0 n cO,vj e]] [(144,.rowz true 56 [.int .i64,.int .i64] n g)] (K0 8 (.tup [.slz 0 0 o.length cO,vi f]) [Kf 56 0 o ⟨0,0⟩])=(
  some [(0:Nat)=(0:Nat),n=o.length,Cap.of (0:Nat)=Cap.of (0:Nat),e=f,o.length≤n,QE (2:Nat) o.length g fun i=>QA.enc (o.getD i (QC.mk (0:Int) (0 :
  Int)))]):=by kernel_rfl
def WZ:WF (Puz×QI×Unit):=fun|(d,(s,_))=>(decide (d.ps.n≤900),.tup [.slz 0 0 (jF d s).length (.of 0),.int false .i64 (zX d s)],[Kf 56 0 (jF d s) ⟨0,0⟩])
def QGA:FC:=wFC WZ
noncomputable abbrev Kb:List AV:=
  [vi s.up.kind,vi s.up.at_.lo,vi s.up.at_.hi,vi s.up.wide.lo,vi s.up.wide.hi,vi s.up.deep.lo,.int
  false .i64 s.up.deep.hi,vi s.right.kind,vi s.right.at_.lo,vi s.right.at_.hi,vi s.right.wide.lo,.int false .i64
  s.right.wide.hi,vi s.right.deep.lo,vi s.right.deep.hi,vi s.down.kind,vi s.down.at_.lo,vi s.down.at_.hi,.int
  false .i64 s.down.wide.lo,vi s.down.wide.hi,vi s.down.deep.lo,vi s.down.deep.hi,vi s.left.kind,.int false .i64
  s.left.at_.lo,vi s.left.at_.hi,vi s.left.wide.lo,vi s.left.wide.hi,vi s.left.deep.lo,vi s.left.deep.hi]
theorem QUA :KY (mkE Try.prog Za) (hnd (mkE Try.prog Za) 0) Try.f15 (QS.vals 0 ((d,s,()):Puz×QI×Unit)) (QS.blks 0 ((d,s,()):Puz×QI×Unit)) 8 = .need
  (decide (d.ps.n≤d.ps.n)&&true&&decide (d.ps.n≤1000)) (.br (!d.ok) (.leaf (.tup [.nils,vj 1]) ([])) (.need (true&&(true&&true)&&decide (1≤1000)) (.br
  (!Js d.play (Rw.mk 1 fun i=>QI.mk (Edge.mk (QJ [(Kb s)] 0 i 0) (Sp.mk (QJ [(Kb s)] 0 i 1) (QJ [(Kb s)] 0 i 2)) (Sp.mk (QJ [(Kb s)] 0 i 3) (QJ [(Kb s)] 0 i
  4)) (Sp.mk (QJ [(Kb s)] 0 i 5) (QJ [(Kb s)] 0 i 6))) (Edge.mk (QJ [(Kb s)] 0 i 7) (Sp.mk (QJ [(Kb s)] 0 i 8) (QJ [(Kb s)] 0 i 9)) (Sp.mk (QJ [(Kb s)] 0 i 10)
  (QJ [(Kb s)] 0 i 11)) (Sp.mk (QJ [(Kb s)] 0 i 12) (QJ [(Kb s)] 0 i 13))) (Edge.mk (QJ [(Kb s)] 0 i 14) (Sp.mk (QJ [(Kb s)] 0 i 15) (QJ [(Kb s)] 0 i 16))
  (Sp.mk (QJ [(Kb s)] 0 i 17) (QJ [(Kb s)] 0 i 18)) (Sp.mk (QJ [(Kb s)] 0 i 19) (QJ [(Kb s)] 0 i 20))) (Edge.mk (QJ [(Kb s)] 0 i 21) (Sp.mk (QJ [(Kb s)] 0 i
  22) (QJ [(Kb s)] 0 i 23)) (Sp.mk (QJ [(Kb s)] 0 i 24) (QJ [(Kb s)] 0 i 25)) (Sp.mk (QJ [(Kb s)] 0 i 26) (QJ [(Kb s)] 0 i 27))))) (.leaf (.tup [.nils,.int true
  .i64 1]) ([])) (.need (decide (d.ps.n≤d.ps.n)&&(true&&true)&&decide (d.ps.n≤900)) (.leaf (.tup [.slz 144 0 (Q8 d s d.ps.n).length cO,vj 0]) ([(144,
  .rowz true 56 [.int .i64,.int .i64] (Q8 d s d.ps.n).length fun i=>QA.enc ((Q8 d s d.ps.n).getD i ⟨0,0⟩))])))))):=by kernel_rfl
theorem QTL:Kx (mkE Try.prog Za) (Qq Try.f15) 8 WZ (fun x_=>(hnd (mkE Try.prog Za) 0)):=by
 refine⟨?_⟩;rintro⟨d,⟨s,⟨⟩⟩⟩ hp G h1 h2;exact Qv (QR QCV) 0 G _ h1
theorem QOm:K3 (mkE Try.prog Za) Try.f15 8 WZ (fun x_=>(hnd (mkE Try.prog Za) 0)):=by
 refine⟨?_⟩;rintro⟨d,⟨s,⟨⟩⟩⟩ hp;refine⟨⟨rfl,by simp[WZ,Kf,Blk.own,Blk.all],rfl⟩,⟨?_⟩⟩
 rw[QUA d s];simp only[WZ]at hp;have hn:d.ps.n≤900:=qdt hp
 have no:Wa d s=false→(QB.leaf (AV.tup [AV.nils,AV.int true i64 1]) []).den (XI 8 (WZ (d,s,())).2.1 (WZ (d,s,())).2.2):=by
  intro h;have h1:jF d s=[]:=by simp only[jF,h]
  have h2:zX d s=1:=by simp only[zX,h]
  refine⟨rfl,rfl,_,QWM _ _ _,?_⟩;rw[h1,h2]
  repeat' first|exact trivial|with_reducible rfl|exact qlr _|exact qRr|refine And.intro ?_ ?_
  all_goals rfl
 refine QF (by simp;omega) (QK (fun h=>no ?_) (fun h=>QF rfl (QK (fun h2=>no ?_) (fun h2=>QF (by simp;omega) ?_))))
 ·have h:d.ok=false:=by simpa using h
  simp only[Wa,h,Bool.false_and]
 ·have h2:Js d.play ⟨1,fun _=>s⟩=false:=by simpa using (show(!Js d.play ⟨1,fun _=>s⟩)=true from h2)
  simp only[Wa,h2,Bool.and_false]
 ·have h:d.ok=true:=by simpa using h
  have h2:Js d.play ⟨1,fun _=>s⟩=true:=by simpa using (show(!Js d.play ⟨1,fun _=>s⟩)=false from h2)
  have hO:Wa d s=true:=by simp only[Wa,h,h2,Bool.and_self]
  have h3:jF d s=Q8 d s d.ps.n:=by simp only[jF,hO]
  have h4:zX d s=0:=by simp only[zX,hO]
  refine⟨rfl,rfl,_,QSz _ _ _ _ _,?_⟩;rw[h3,h4]
  repeat' first|exact trivial|with_reducible rfl|exact qlr _|exact qRr|refine And.intro ?_ ?_
theorem QWI:QQ Try.prog 15 QGA:=
 K9 (QR QCV) Try.func15 (by kernel_rfl) (by kernel_rfl) (by decide) QTL QOm
def Wb:Tab:=Qb Za 15 QGA
theorem G8:QV Wb:=QCV.add QWI
def QGP:Int×Int×Unit→Bool×AV:=fun|(lo,(hi,_))=>(true,Enc.enc (⟨lo,hi⟩:Sp))
def QKC:FC:=Q3 (Q1 QGP)
theorem QNB(lo:Int)(hi:Int):Qt (mkE Try.prog Wb) (hnd (mkE Try.prog Wb) 2) false Try.f46 (Qm.enc ((lo,hi,()):Int×Int×Unit)) [] 0 =
  QB.leaf (AV.agg [AV.int false i64 lo,AV.int false i64 hi]) ([]):=by kernel_rfl
theorem QRb:QQ Try.prog 46 QKC:=by
 refine Q7 G8 2 Try.func46 (by kernel_rfl) (by kernel_rfl) ?_
 rintro⟨lo,hi,⟨⟩⟩ hp;rw[QNB lo hi];simp only[QGP,QB.den,AV.same,AV.sameL,and_true,true_and]at hp ⊢;simp only[Enc.enc,AV.same,AV.sameL,and_self]
def zp:Tab:=Qb Wb 46 QKC
theorem QFj:QV zp:=G8.add QRb
def QLp:Int×Int×Int×Unit→Bool×AV:=fun|(k,(w,(d,_)))=>(true,Enc.enc (⟨k,⟨1000,1000⟩,⟨w,w⟩,⟨d,d⟩⟩:Edge))
def QMM:FC:=Q3 (Q1 QLp)
theorem QRZ(k:Int)(w:Int)(d:Int):Qt (mkE Try.prog zp) (hnd (mkE Try.prog zp) 2) false Try.f45 (Qm.enc ((k,w,d,()):Int×Int×Int×Unit)) [] 0 =
  QB.need (true) (QB.need (true) (QB.leaf (AV.agg [AV.int false i64 k,AV.int true i64 (1000:Int),AV.int true i64 (1000:Int),AV.int false
  i64 w,AV.int false i64 w,AV.int false i64 d,AV.int false i64 d]) ([]))):=by kernel_rfl
theorem QOa:QQ Try.prog 45 QMM:=by
 refine Q7 QFj 2 Try.func45 (by kernel_rfl) (by kernel_rfl) ?_
 rintro⟨k,w,d,⟨⟩⟩ hp;rw[QRZ k w d];simp only[QLp,QB.den,AV.same,AV.sameL,and_true,true_and]at hp ⊢;simp only[Enc.enc,AV.same,AV.sameL,and_self]
def Gd:Tab:=Qb zp 45 QMM
theorem QEX:QV Gd:=QFj.add QOa
def QGa:Int×Int×Int×Unit→Bool×AV:=fun|(k,(lo,(hi,_)))=>(true,Enc.enc (⟨k,⟨990,1010⟩,⟨lo,hi⟩,⟨395,415⟩⟩:Edge))
def QI9:FC:=Q3 (Q1 QGa)
theorem QNy(k:Int)(lo:Int)(hi:Int):Qt (mkE Try.prog Gd) (hnd (mkE Try.prog Gd) 2) false Try.f48 (Qm.enc ((k,lo,hi,()):Int×Int×Int×Unit)) [] 0 =
  QB.need (true) (QB.leaf (AV.agg [AV.int false i64 k,AV.int true i64 (990:Int),AV.int true i64 (1010:Int),AV.int false i64 lo,AV.int false
  i64 hi,AV.int true i64 (395:Int),AV.int true i64 (415:Int)]) ([])):=by kernel_rfl
theorem QTu:QQ Try.prog 48 QI9:=by
 refine Q7 QEX 2 Try.func48 (by kernel_rfl) (by kernel_rfl) ?_
 rintro⟨k,lo,hi,⟨⟩⟩ hp;rw[QNy k lo hi];simp only[QGa,QB.den,AV.same,AV.sameL,and_true,true_and]at hp ⊢;simp only[Enc.enc,AV.same,AV.sameL,and_self]
def HM:Tab:=Qb Gd 48 QI9
theorem QMK:QV HM:=QEX.add QTu
def QGO:Edge×Edge×Unit→Bool×AV:=fun|(r,(l,_))=>(true,Enc.enc (⟨Kl,r,Kl,l⟩:QI))
def QIU:FC:=Q3 (Q1 QGO)
theorem QOO(r:Edge)(l:Edge):Qt (mkE Try.prog HM) (hnd (mkE Try.prog HM) 2) false Try.f47 (Qm.enc ((r,l,()):Edge×Edge×Unit)) [] 0 =
  QB.leaf (AV.agg [AV.int true i64 (0:Int),AV.int true i64 (0:Int),AV.int true i64 (0:Int),AV.int true i64 (0:Int),AV.int true
  i64 (0:Int),AV.int true i64 (0:Int),AV.int true i64 (0:Int),AV.int false i64 r.kind,AV.int false i64 r.at_.lo,AV.int false
  i64 r.at_.hi,AV.int false i64 r.wide.lo,AV.int false i64 r.wide.hi,AV.int false i64 r.deep.lo,AV.int false i64 r.deep.hi,AV.int true
  i64 (0:Int),AV.int true i64 (0:Int),AV.int true i64 (0:Int),AV.int true i64 (0:Int),AV.int true i64 (0:Int),AV.int true
  i64 (0:Int),AV.int true i64 (0:Int),AV.int false i64 l.kind,AV.int false i64 l.at_.lo,AV.int false i64 l.at_.hi,AV.int false
  i64 l.wide.lo,AV.int false i64 l.wide.hi,AV.int false i64 l.deep.lo,AV.int false i64 l.deep.hi]) ([]):=by kernel_rfl
theorem QQp:QQ Try.prog 47 QIU:=by
 refine Q7 QMK 2 Try.func47 (by kernel_rfl) (by kernel_rfl) ?_
 rintro⟨r,l,⟨⟩⟩ hp;rw[QOO r l];simp only[QGO,QB.den,AV.same,AV.sameL,and_true,true_and]at hp ⊢;simp only[Enc.enc,Kl,AV.same,AV.sameL,and_self]
def Gt:Tab:=Qb HM 47 QIU
theorem QLC:QV Gt:=QMK.add QQp
def pP:QI:=⟨Kl,⟨1,⟨990,1010⟩,⟨490,570⟩,⟨395,415⟩⟩,Kl,⟨2,⟨990,1010⟩,⟨505,525⟩,⟨395,415⟩⟩⟩
def pQ:QI:=⟨Kl,⟨1,⟨990,1010⟩,⟨495,505⟩,⟨395,415⟩⟩,Kl,⟨2,⟨990,1010⟩,⟨505,525⟩,⟨395,415⟩⟩⟩
def pR:QI:=⟨Kl,Kl,⟨1,⟨990,1010⟩,⟨490,510⟩,⟨395,415⟩⟩,Kl⟩
def QKO:Unit→Bool×AV:=fun _=>(true,Enc.enc pP)
def QKF:FC:=Q3 (Q1 QKO)
theorem QQU :Qt (mkE Try.prog Gt) (hnd (mkE Try.prog Gt) 2) false Try.f22 (Qm.enc (():Unit)) [] 0 =
  QB.leaf (AV.agg [AV.int true i64 (0:Int),AV.int true i64 (0:Int),AV.int true i64 (0:Int),AV.int true i64 (0:Int),AV.int true
  i64 (0:Int),AV.int true i64 (0:Int),AV.int true i64 (0:Int),AV.int true i64 (1:Int),AV.int true i64 (990:Int),AV.int true
  i64 (1010:Int),AV.int true i64 (490:Int),AV.int true i64 (570:Int),AV.int true i64 (395:Int),AV.int true i64 (415:Int),AV.int
  true i64 (0:Int),AV.int true i64 (0:Int),AV.int true i64 (0:Int),AV.int true i64 (0:Int),AV.int true i64 (0:Int),AV.int true
  i64 (0:Int),AV.int true i64 (0:Int),AV.int true i64 (2:Int),AV.int true i64 (990:Int),AV.int true i64 (1010:Int),AV.int true
  i64 (505:Int),AV.int true i64 (525:Int),AV.int true i64 (395:Int),AV.int true i64 (415:Int)]) ([]):=by kernel_rfl
theorem QTo:QQ Try.prog 22 QKF:=by
 refine Q7 QLC 2 Try.func22 (by kernel_rfl) (by kernel_rfl) ?_
 rintro⟨⟩ hp;rw[QQU];simp only[QKO,QB.den,AV.same,AV.sameL,and_true,true_and]at hp ⊢;simp only[Enc.enc,pP,Kl,AV.same,AV.sameL,and_self]
def HO:Tab:=Qb Gt 22 QKF
theorem QHt:QV HO:=QLC.add QTo
def QL5:Unit→Bool×AV:=fun _=>(true,Enc.enc pQ)
def QF0:FC:=Q3 (Q1 QL5)
theorem QQ0 :Qt (mkE Try.prog HO) (hnd (mkE Try.prog HO) 2) false Try.f24 (Qm.enc (():Unit)) [] 0 =
  QB.leaf (AV.agg [AV.int true i64 (0:Int),AV.int true i64 (0:Int),AV.int true i64 (0:Int),AV.int true i64 (0:Int),AV.int true
  i64 (0:Int),AV.int true i64 (0:Int),AV.int true i64 (0:Int),AV.int true i64 (1:Int),AV.int true i64 (990:Int),AV.int true
  i64 (1010:Int),AV.int true i64 (495:Int),AV.int true i64 (505:Int),AV.int true i64 (395:Int),AV.int true i64 (415:Int),AV.int
  true i64 (0:Int),AV.int true i64 (0:Int),AV.int true i64 (0:Int),AV.int true i64 (0:Int),AV.int true i64 (0:Int),AV.int true
  i64 (0:Int),AV.int true i64 (0:Int),AV.int true i64 (2:Int),AV.int true i64 (990:Int),AV.int true i64 (1010:Int),AV.int true
  i64 (505:Int),AV.int true i64 (525:Int),AV.int true i64 (395:Int),AV.int true i64 (415:Int)]) ([]):=by kernel_rfl
theorem QO3:QQ Try.prog 24 QF0:=by
 refine Q7 QHt 2 Try.func24 (by kernel_rfl) (by kernel_rfl) ?_
 rintro⟨⟩ hp;rw[QQ0];simp only[QL5,QB.den,AV.same,AV.sameL,and_true,true_and]at hp ⊢;simp only[Enc.enc,pQ,Kl,AV.same,AV.sameL,and_self]
def G4:Tab:=Qb HO 24 QF0
theorem QI3:QV G4:=QHt.add QO3
def QLh:Unit→Bool×AV:=fun _=>(true,Enc.enc pR)
def QGx:FC:=Q3 (Q1 QLh)
theorem QP3 :Qt (mkE Try.prog G4) (hnd (mkE Try.prog G4) 2) false Try.f19 (Qm.enc (():Unit)) [] 0 =
  QB.leaf (AV.agg [AV.int true i64 (0:Int),AV.int true i64 (0:Int),AV.int true i64 (0:Int),AV.int true i64 (0:Int),AV.int true
  i64 (0:Int),AV.int true i64 (0:Int),AV.int true i64 (0:Int),AV.int true i64 (0:Int),AV.int true i64 (0:Int),AV.int true
  i64 (0:Int),AV.int true i64 (0:Int),AV.int true i64 (0:Int),AV.int true i64 (0:Int),AV.int true i64 (0:Int),AV.int true
  i64 (1:Int),AV.int true i64 (990:Int),AV.int true i64 (1010:Int),AV.int true i64 (490:Int),AV.int true i64 (510:Int),AV.int
  true i64 (395:Int),AV.int true i64 (415:Int),AV.int true i64 (0:Int),AV.int true i64 (0:Int),AV.int true i64 (0:Int),AV.int
  true i64 (0:Int),AV.int true i64 (0:Int),AV.int true i64 (0:Int),AV.int true i64 (0:Int)]) ([]):=by kernel_rfl
theorem QOx:QQ Try.prog 19 QGx:=by
 refine Q7 QI3 2 Try.func19 (by kernel_rfl) (by kernel_rfl) ?_
 rintro⟨⟩ hp;rw[QP3];simp only[QLh,QB.den,AV.same,AV.sameL,and_true,true_and]at hp ⊢;simp only[Enc.enc,pR,Kl,AV.same,AV.sameL,and_self]
def ZS:Tab:=Qb G4 19 QGx
theorem QBc:QV ZS:=QI3.add QOx
def exE(k w d:Int):Edge:=⟨k,⟨1000,1000⟩,⟨w,w⟩,⟨d,d⟩⟩
def QVx:List QI:=[⟨Kl,exE 1 500 400,Kl,Kl⟩,⟨Kl,exE 1 500 400,Kl,exE 2 515 410⟩,⟨Kl,exE 1 560 400,Kl,exE 2 515 410⟩,⟨Kl,Kl,Kl,exE 2 575 410⟩]
def QEP:AV := .agg [.int false .i64 2000,.int false .i64 20,.int false .i64 30,.int false .i64 0,.int false .i64 10,.int false .i64 4,.int false .i64 1,.bool false false,.slice true 0 0 4 (.lit 4)]
def QHC:Nat×Blk:=(0,.rowl 33 28 (QVx.map fun p=>(Enc.enc p).cells))
noncomputable abbrev QMa:List AV:=
  [vj 2000,vj 20,vj 30,vj 0,vj 10,vj 4,vj 1,.bool true false,.slice true 248 0 4 (Cap.lit
  4)]
noncomputable abbrev QIr:List (Nat×Blk):=
  [(248,.rowl 33 28 [[vj 0,vj 0,vj 0,vj 0,vj 0,vj 0,vj 0,vj 1,.int true .i64
  1000,vj 1000,vj 500,vj 500,vj 400,vj 400,vj 0,vj 0,vj 0,vj 0,
  .int true .i64 0,vj 0,vj 0,vj 0,vj 0,vj 0,vj 0,vj 0,vj 0,vj 0],
  [vj 0,vj 0,vj 0,vj 0,vj 0,vj 0,vj 0,vj 1,vj 1000,.int true .i64
  1000,vj 500,vj 500,vj 400,vj 400,vj 0,vj 0,vj 0,vj 0,vj 0,.int
  true .i64 0,vj 0,vj 2,vj 1000,vj 1000,vj 515,vj 515,vj 410,vj 410],[.int
  true .i64 0,vj 0,vj 0,vj 0,vj 0,vj 0,vj 0,vj 1,vj 1000,vj 1000,
  .int true .i64 560,vj 560,vj 400,vj 400,vj 0,vj 0,vj 0,vj 0,vj 0,.int true
  .i64 0,vj 0,vj 2,vj 1000,vj 1000,vj 515,vj 515,vj 410,vj 410],[.int true
  .i64 0,vj 0,vj 0,vj 0,vj 0,vj 0,vj 0,vj 0,vj 0,vj 0,.int true
  .i64 0,vj 0,vj 0,vj 0,vj 0,vj 0,vj 0,vj 0,vj 0,vj 0,.int true
  .i64 0,vj 2,vj 1000,vj 1000,vj 575,vj 575,vj 410,vj 410]])]
abbrev Ww:List Prop:=
  [(0:Int)=0,(0:Int)=0,(0:Int)=0,(0:Int)=0,(0:Int)=0]
abbrev QBf:List Prop:=
  [(0:Int)=0,(0:Int)=0,(1:Int)=1,(1000:Int)=1000,(1000:Int)=1000]
abbrev QFY:List Prop:=
  [(0:Int)=0,(0:Int)=0,(0:Int)=0,(0:Int)=0,(0:Int)=0,(0:Int)=0,(0:Int)=0,(0:Int)=0,(0:Int)=0,(0:Int)=0,(0:Int)=0,(0:Int)=0]
abbrev QCG:List Prop:=
  [(0:Int)=0,(0:Int)=0,(2:Int)=2,(1000:Int)=1000,(1000:Int)=1000]
theorem QSJ :QO 8 [(.agg QMa)] (QIr) (K0 8 QEP [QHC])=(some ([(2000:Int)=2000,(20:Int)=20,(30:Int)=30,(0:Int)=0,(10:Int)=10,(4:Int)=4,(1:Int)=1,
  false=false,0=0,4=4,Cap.lit 4=Cap.lit 4]++Ww++QBf++[(500:Int)=500,(500:Int)=500,(400:Int)=400,(400:Int)=400]++QFY++Ww++[(0:Int) =
  0,(0:Int)=0]++QBf++[(500:Int)=500,(500:Int)=500,(400:Int)=400,(400:Int)=400]++Ww++QCG++[(515:Int)=515,(515:Int)=515,(410:Int) =
  410,(410:Int)=410]++Ww++QBf++[(560:Int)=560,(560:Int)=560,(400:Int)=400,(400:Int)=400]++Ww++QCG++[(515:Int)=515,(515:Int)=515,
  (410:Int)=410,(410:Int)=410]++QFY++Ww++[(0:Int)=0,(0:Int)=0]++QCG++[(575:Int)=575,(575:Int)=575,(410:Int)=410,(410:Int)=410])):=by kernel_rfl
def Hz:WF (Unit):=fun|_=>(true,QEP,[QHC])
def QFf:FC:=wFC Hz
theorem QTX :KY (mkE Try.prog ZS) (hnd (mkE Try.prog ZS) 2) Try.f18 (QS.vals 0 ((()):Unit)) (QS.blks 0 ((()):Unit)) 8 = .leaf (.agg QMa) (QIr):=by kernel_rfl
theorem QVl:Kx (mkE Try.prog ZS) (Qq Try.f18) 8 Hz (fun x_=>(hnd (mkE Try.prog ZS) 2)):=by
 refine⟨?_⟩;rintro⟨⟩ hp G h1 h2;exact Qv (QR QBc) 2 G _ h1
theorem QOD:K3 (mkE Try.prog ZS) Try.f18 8 Hz (fun x_=>(hnd (mkE Try.prog ZS) 2)):=by
 refine⟨?_⟩;rintro⟨⟩ hp;refine⟨⟨rfl,by decide,rfl⟩,⟨?_⟩⟩
 rw[QTX];simp only[Hz]at hp;exact⟨rfl,rfl,_,QSJ,by repeat' first|exact trivial|rfl|refine And.intro ?_ ?_⟩
theorem QVW:QQ Try.prog 18 QFf:=
 K9 (QR QBc) Try.func18 (by kernel_rfl) (by kernel_rfl) (by decide) QVl QOD
def K5:Tab:=Qb ZS 18 QFf
theorem V6:QV K5:=QBc.add QVW
structure Jn where
 a:Int
 i:Int
 b:Int
 j:Int
instance : QA Jn where
  ks := [.int .i64,.int .i64,.int .i64,.int .i64]
  enc p j := match j with
    | 0 => p.a
    | 1 => p.i
    | 2 => p.b
    | _ => p.j
  dec f := ⟨f 0,f 1,f 2,f 3⟩
  ok _ := rfl
instance : Enc Jn where
  enc x := .agg [.int false .i64 x.a,.int false .i64 x.i,.int false .i64 x.b,.int false .i64 x.j]
  dec | .agg [.int _ .i64 a0,.int _ .i64 a1,.int _ .i64 a2,.int _ .i64 a3] => some ⟨a0,a1,a2,a3⟩ | _ => none
  ok v x h := by
    split at h <;> (try (cases h; done))
    simp only[qsI]at h; subst h; exact⟨fun _ => rfl,rfl⟩
instance : Enc QC where
  enc x := .agg [.int false .i64 x.cell,.int false .i64 x.turn]
  dec | .agg [.int _ .i64 a0,.int _ .i64 a1] => some ⟨a0,a1⟩ | _ => none
  ok v x h := by
    split at h <;> (try (cases h; done))
    simp only[qsI]at h; subst h; exact⟨fun _ => rfl,rfl⟩
structure QD where
 d:Puz
 scans:Rw QI
 hang:Rw Jn
 lost:Int
 foreign:Int
def JR(k:Nat)(x:QD):List AV:=[.int false .i64 x.d.play.length,.int false .i64 x.d.play.slack,.int false .i64 x.d.play.loose,.int false .i64 x.d.play.damp.lo,.int false .i64 x.d.play.damp.hi,.int false .i64 x.d.wide,.int false .i64 x.d.high,.bool false x.d.turn,Qz.val k x.d.ps,Qz.val (k+1) x.scans,Qz.val (k+2) x.hang,.int false .i64 x.lost,.int false .i64 x.foreign]
def JP(k:Nat)(x:QD):List (Nat×Blk):=Qz.blk k x.d.ps++(Qz.blk (k+1) x.scans++Qz.blk (k+2) x.hang)
instance {β : Type} [QS β] : QS (QD × β) where
  len := QS.len β + 3
  vals k x := .agg (JR k x.1) :: QS.vals (k + 3) x.2
  blks k x := JP k x.1 ++ QS.blks (k + 3) x.2
  dec
    | v :: l,lk => (match v with
      | .agg [.int _ .i64 a,.int _ .i64 b,.int _ .i64 c,.int _ .i64 d,.int _ .i64 e,.int _ .i64 f,.int _ .i64 g,.bool _ t,s1,s2,s3,.int _ .i64 lo,.int _ .i64 fo] => (match (Qz.dec s1 lk : Option (Bool × Rw QI)),(Qz.dec s2 lk : Option (Bool × Rw QI)),(Qz.dec s3 lk : Option (Bool × Rw Jn)),(QS.dec l lk : Option (Bool × β))with
        | some (p1,x1),some (p2,x2),some (p3,x3),some (q,y) => some (p1 && (p2 && (p3 && q)),⟨⟨⟨a,b,c,⟨d,e⟩⟩,f,g,t,x1⟩,x2,x3,lo,fo⟩,y)
        | _,_,_,_ => none)
      | _ => none)
    | _,_ => none
  ok vs lk p x h hp := by
    split at h <;> (try (cases h; done))
    split at h <;> (try (cases h; done))
    split at h <;> (try (cases h; done))
    rename_i l lk' _ _ a _ b _ c _ d _ e _ f _ g _ t s1 s2 s3 _ lo _ fo _ _ _ _ p1 x1 p2 x2 p3 x3 q y h1 h2 h3 h4;simp only[qsI,qpI]at h;obtain⟨rfl,rfl⟩ := h;simp only[qbA]at hp;obtain⟨a1,a2⟩ := Qz.ok _ _ _ _ h1 hp.1;obtain⟨b1,b2⟩ := Qz.ok _ _ _ _ h2 hp.2.1;obtain⟨c1,c2⟩ := Qz.ok _ _ _ _ h3 hp.2.2.1;obtain⟨d1,d2⟩ := QS.ok _ _ _ _ h4 hp.2.2.2;refine⟨fun k => ⟨?_,fun z hz => ?_⟩,fun r w hw => ?_⟩
    · simp only[AV.allL,qbA]
      refine⟨?_,allL_mono (fun i hi => ?_) _ (d1 (k + 3)).1⟩
      · simp only[AV.all,JR,AV.allL,Bool.true_and,Bool.and_true,qbA]
        refine⟨all_mono (fun i hi => ?_) _ (a1 k).1,all_mono (fun i hi => ?_) _ (b1 (k + 1)).1,all_mono (fun i hi => ?_) _ (c1 (k + 2)).1⟩
        · have hi : i = k := by simpa using hi
          subst hi; simp
        · have hi : i = k + 1 := by simpa using hi
          subst hi; simp
        · have hi : i = k + 2 := by simpa using hi
          subst hi; simp
      · simp only[qdE]at hi ⊢; omega
    · simp only[JP,List.mem_append]at hz
      rcases hz with (hz | hz | hz) | hz
      · obtain⟨e1,e2,e3⟩ := (a1 k).2 z hz
        exact⟨by omega,e2,e3⟩
      · obtain⟨e1,e2,e3⟩ := (b1 (k + 1)).2 z hz
        exact⟨by omega,e2,e3⟩
      · obtain⟨e1,e2,e3⟩ := (c1 (k + 2)).2 z hz
        exact⟨by omega,e2,e3⟩
      · obtain⟨e1,e2,e3⟩ := (d1 (k + 3)).2 z hz
        exact⟨by omega,e2,e3⟩
    · obtain⟨l1,e1⟩ := a2 r w hw
      obtain⟨l2,e2⟩ := b2 r w hw;obtain⟨l3,e3⟩ := c2 r w hw;obtain⟨L,e4⟩ := d2 r w hw;refine⟨fun i => match i with | 0 => l1 | 1 => l2 | 2 => l3 | i + 3 => L i,fun k r' hr => ?_⟩
      obtain⟨g1,g2⟩ := e1 k r' (by simpa using hr 0 (by omega))
      obtain⟨g3,g4⟩ := e2 (k + 1) r' (hr 1 (by omega))
      obtain⟨g5,g6⟩ := e3 (k + 2) r' (hr 2 (by omega))
      obtain⟨g7,g8⟩ := e4 (k + 3) r' (fun i hi => by have := hr (i + 3) (by omega); rw[show k + 3 + i = k + (i + 3) by omega]; exact this)
      refine⟨?_,fun z hz => ?_⟩
      · simp only[AV.denL,AV.den,JR]at g1 g3 g5 g7 ⊢
        rw[g1,g3,g5,g7]
      · simp only[JP,List.mem_append]at hz
        rcases hz with (hz | hz | hz) | hz
        · exact g2 z hz
        · exact g4 z hz
        · exact g6 z hz
        · exact g8 z hz
end Go.Proofs.Ytbpffdkemeoajaa
