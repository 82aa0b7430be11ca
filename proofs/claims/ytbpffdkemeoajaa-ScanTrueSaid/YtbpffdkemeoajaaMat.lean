/- - -/
import Derived.Test.YtbpffdkemeoajaaMas
open Go.IntKind (i64)
set_option maxRecDepth 100000
namespace Go.Proofs.Ytbpffdkemeoajaa
open Go.SX
def QLW:Ex→List Nat
 | .normal=>[3,4,11,12,13]
 | .exit _=>[4]
 | .ret=>[]
variable (d:Puz)(s:QG)(o:List QB)
def vZ:JSt:=⟨49,[(4,.slz 24 0 o.length (.of 0))],[Ke 56 24 o ⟨0,0⟩],32⟩
noncomputable abbrev QHo(o':List QB)(s:QG):List (Nat×Blk):=
  [(16,.cells 7 33 ((Enc.enc (s:QG)).cells)),(24,.rowz true 56 [.int .i64,.int .i64] o'.length fun i=>QA.enc (o'.getD i ⟨0,0⟩)),(0,.frz [.int .i64,.int .i64,.int .i64,.int .i64,.int .i64,.int .i64,.int .i64,.int .i64,.int .i64,.int .i64,.int .i64,.int .i64,.int .i64,.int .i64,.int .i64,.int .i64,.int .i64,.int .i64,.int .i64,.int .i64,.int .i64,.int .i64,.int .i64,.int .i64,.int .i64,.int .i64,.int .i64,.int .i64] d.ps.n fun i=>QA.enc (d.ps.get i))]
theorem QaN(o o':List QB)(c:Nat)(g:Nat→Value):exec (mkE Try.prog JA) { hnd (mkE Try.prog JA) 1 with loop:=fun _=>KN 8 [] (Va d s o c 0) [(True,.exit 2,G0 d s o' c)] } (Qd Try.f43 0) (JSt.inst (qP d s
  o c) g) (KS [] QLW) = .br (decide ((c:Int)<(d.ps.n:Int))) (.need (decide ((0:Int)≤(c:Int)∧(c:Int)<(d.ps.n:Int))&&decide (d.ps.n≤d.ps.n)) (.need (decide
  (c<d.ps.n)) (.ask (0=0) (.ask (0=0) (.ask (0=0) (.ask (o.length=o.length) (.ask (cO=cO) (.ask ((c:Int)=(c:Int)) (.ask (0=0) (.ask (0=0) (.ask (0 =
  0) (.ask (d.ps.n=d.ps.n) (.ask (cO=cO) (.ask ((d.ps.n:Int)=(d.ps.n:Int)) (.ask ((c:Int)=(c:Int)) (.ask ((0:Int)=0) (.ask (s.up.kind=s.up.kind)
  (.ask (s.up.at_.lo=s.up.at_.lo) (.ask (s.up.at_.hi=s.up.at_.hi) (.ask (s.up.wide.lo=s.up.wide.lo) (.ask (s.up.wide.hi=s.up.wide.hi) (.ask (s.up.deep.lo=s.up.deep.lo) (.ask
  (s.up.deep.hi=s.up.deep.hi) (.ask (s.right.kind=s.right.kind) (.ask (s.right.at_.lo=s.right.at_.lo) (.ask (s.right.at_.hi=s.right.at_.hi) (.ask (s.right.wide.lo =
  s.right.wide.lo) (.ask (s.right.wide.hi=s.right.wide.hi) (.ask (s.right.deep.lo=s.right.deep.lo) (.ask (s.right.deep.hi=s.right.deep.hi) (.ask (s.down.kind=s.down.kind)
  (.ask (s.down.at_.lo=s.down.at_.lo) (.ask (s.down.at_.hi=s.down.at_.hi) (.ask (s.down.wide.lo=s.down.wide.lo) (.ask (s.down.wide.hi=s.down.wide.hi) (.ask (s.down.deep.lo =
  s.down.deep.lo) (.ask (s.down.deep.hi=s.down.deep.hi) (.ask (s.left.kind=s.left.kind) (.ask (s.left.at_.lo=s.left.at_.lo) (.ask (s.left.at_.hi=s.left.at_.hi) (.ask
  (s.left.wide.lo=s.left.wide.lo) (.ask (s.left.wide.hi=s.left.wide.hi) (.ask (s.left.deep.lo=s.left.deep.lo) (.ask (s.left.deep.hi=s.left.deep.hi) (.ask (o.length≤o.length)
  (.ask (QC 2 o.length (fun i=>QA.enc (o.getD i ⟨0,0⟩)) fun i=>QA.enc (o.getD i ⟨0,0⟩)) (.ask ((d.ps.get c).up.kind=(d.ps.get c).up.kind) (.ask ((d.ps.get c).up.at_.lo
  = (d.ps.get c).up.at_.lo) (.ask ((d.ps.get c).up.at_.hi=(d.ps.get c).up.at_.hi) (.ask ((d.ps.get c).up.wide.lo=(d.ps.get c).up.wide.lo) (.ask ((d.ps.get c).up.wide.hi =
  (d.ps.get c).up.wide.hi) (.ask ((d.ps.get c).up.deep.lo=(d.ps.get c).up.deep.lo) (.ask ((d.ps.get c).up.deep.hi=(d.ps.get c).up.deep.hi) (.ask ((d.ps.get c).right.kind =
  (d.ps.get c).right.kind) (.ask ((d.ps.get c).right.at_.lo=(d.ps.get c).right.at_.lo) (.ask ((d.ps.get c).right.at_.hi=(d.ps.get c).right.at_.hi) (.ask ((d.ps.get
  c).right.wide.lo=(d.ps.get c).right.wide.lo) (.ask ((d.ps.get c).right.wide.hi=(d.ps.get c).right.wide.hi) (.ask ((d.ps.get c).right.deep.lo=(d.ps.get c).right.deep.lo) (.ask
  ((d.ps.get c).right.deep.hi=(d.ps.get c).right.deep.hi) (.ask ((d.ps.get c).down.kind=(d.ps.get c).down.kind) (.ask ((d.ps.get c).down.at_.lo=(d.ps.get c).down.at_.lo) (.ask
  ((d.ps.get c).down.at_.hi=(d.ps.get c).down.at_.hi) (.ask ((d.ps.get c).down.wide.lo=(d.ps.get c).down.wide.lo) (.ask ((d.ps.get c).down.wide.hi=(d.ps.get c).down.wide.hi)
  (.ask ((d.ps.get c).down.deep.lo=(d.ps.get c).down.deep.lo) (.ask ((d.ps.get c).down.deep.hi=(d.ps.get c).down.deep.hi) (.ask ((d.ps.get c).left.kind=(d.ps.get c).left.kind)
  (.ask ((d.ps.get c).left.at_.lo=(d.ps.get c).left.at_.lo) (.ask ((d.ps.get c).left.at_.hi=(d.ps.get c).left.at_.hi) (.ask ((d.ps.get c).left.wide.lo=(d.ps.get c).left.wide.lo)
  (.ask ((d.ps.get c).left.wide.hi=(d.ps.get c).left.wide.hi) (.ask ((d.ps.get c).left.deep.lo=(d.ps.get c).left.deep.lo) (.ask ((d.ps.get c).left.deep.hi=(d.ps.get
  c).left.deep.hi) (.ask (d.ps.n≤d.ps.n) (.ask (QC 28 d.ps.n (fun i=>QA.enc (d.ps.get i)) fun i=>QA.enc (d.ps.get i)) (.asm (True) (.all (fun(g0:Nat→Value) => .leaf
  (.tup [.nilp,.ptr 49 0 0,.ptr 16 0 0,.slz 24 0 o'.length cO,.slz 0 0 d.ps.n cO,vi (d.ps.n:Int),vi (i64.wrap ((c:Int) +
  1))]) ((QHo d o' s))))))))))))))))))))))))))))))))))))))))))))))))))))))))))))))))))))))))))))))))) (.leaf (.tup [.ptr 0 0 0,.ptr 49 0 0,.slz 24 0 o.length cO]) ([(24,
  .rowz true 56 [.int .i64,.int .i64] o.length fun i=>QA.enc (o.getD i ⟨0,0⟩))])):=by kernel_rfl
theorem Qa0(o' o2:List QB)(c c1:Nat):QK 8 [.ptr 16 0 0,.slz 24 0 o'.length cO,.slz 0 0 d.ps.n cO,vi (d.ps.n:Int),vi (i64.wrap ((c:Int)+1))] ((QHo d o' s))
  (qP d s o2 c1)=(some [0=0,0=0,0=0,o'.length=o2.length,cO=cO,0=0,d.ps.n=d.ps.n,cO=cO,(d.ps.n:Int)=(d.ps.n:Int),
  i64.wrap ((c:Int)+1)=(c1:Int),s.up.kind=s.up.kind,s.up.at_.lo=s.up.at_.lo,s.up.at_.hi=s.up.at_.hi,s.up.wide.lo=s.up.wide.lo,s.up.wide.hi=s.up.wide.hi,
  s.up.deep.lo=s.up.deep.lo,s.up.deep.hi=s.up.deep.hi,s.right.kind=s.right.kind,s.right.at_.lo=s.right.at_.lo,s.right.at_.hi=s.right.at_.hi,s.right.wide.lo =
  s.right.wide.lo,s.right.wide.hi=s.right.wide.hi,s.right.deep.lo=s.right.deep.lo,s.right.deep.hi=s.right.deep.hi,s.down.kind=s.down.kind,s.down.at_.lo=s.down.at_.lo,
  s.down.at_.hi=s.down.at_.hi,s.down.wide.lo=s.down.wide.lo,s.down.wide.hi=s.down.wide.hi,s.down.deep.lo=s.down.deep.lo,s.down.deep.hi=s.down.deep.hi,s.left.kind =
  s.left.kind,s.left.at_.lo=s.left.at_.lo,s.left.at_.hi=s.left.at_.hi,s.left.wide.lo=s.left.wide.lo,s.left.wide.hi=s.left.wide.hi,s.left.deep.lo=s.left.deep.lo,
  s.left.deep.hi=s.left.deep.hi,o2.length≤o'.length,QC 2 o2.length (fun i=>QA.enc (o'.getD i ⟨0,0⟩)) fun i=>QA.enc (o2.getD i ⟨0,0⟩),d.ps.n≤d.ps.n,QC 28
  d.ps.n (fun i=>QA.enc (d.ps.get i)) fun i=>QA.enc (d.ps.get i)]):=by kernel_rfl
theorem QRq(o o2:List QB):QK 8 [AV.slz (24:Nat) (0:Nat) o.length (Cap.of (0:Nat))] ([((24:Nat),Blk.rowz true (56:Nat) [CK.int i64,CK.int i64] o.length fun i=>QA.enc (o.getD i (QB.mk (0:Int) (0:Int))))]) (vZ o2)=(
  some [(0:Nat)=(0:Nat),o.length=o2.length,Cap.of (0:Nat)=Cap.of (0:Nat),o2.length≤o.length,QC (2:Nat) o2.length (fun i=>QA.enc (o.getD i (QB.mk (0 :
  Int) (0:Int)))) fun i=>QA.enc (o2.getD i (QB.mk (0:Int) (0:Int)))]):=by kernel_rfl
theorem QTC:QK 8 [.slz 24 0 o.length cO] [(24,.rowz true 56 [.int .i64,.int .i64] o.length fun i=>QA.enc (o.getD i ⟨0,0⟩))] (Km 8 (.slz 0 0 o.length cO) [Ke 56 0 o ⟨0,0⟩])=(
  some [(0:Nat)=(0:Nat),o.length=o.length,Cap.of (0:Nat)=Cap.of (0:Nat),o.length≤o.length,QC (2:Nat) o.length (fun i=>QA.enc (o.getD i (QB.mk (0:Int)
  (0:Int)))) fun i=>QA.enc (o.getD i (QB.mk (0:Int) (0:Int)))]):=by kernel_rfl
theorem QUS(c:Nat)(ho:o.length≤4000)(G:Ctx)(hrd:G.rd=none)(hG:G.n=8):KH (mkE Try.prog JA) G { hnd (mkE Try.prog JA) 1 with loop:=fun _=>KN 8 [] (Va d s o c 0) [(True,.exit 2,G0 d s (KX d s o c 4) c)] } (Qd Try.f43 0):=by
 refine Jd (body:=qt (Qd Try.f43 0)) (QT jg) hrd (by kernel_rfl) ?_
 refine Ju (n0:=8) (QT jg) (by omega) (fun t ht=>Qz (QT jg) 6 G _ hrd) (fun t ht=>(by decide:8≤40)) ?_ (QTl d s o c ho) (s0:=0) (Nat.zero_le _) ?_
 ·rintro t e J ⟨_,rfl⟩;exact(by decide:8≤40)
 ·rintro e J ⟨rfl,rfl⟩;exact⟨_,List.mem_cons_self,trivial,rfl,rfl⟩
theorem QWQ(hn:d.ps.n≤900):Ji (fun c=>qP d s (KR d s c) c) (fun c=>c≤d.ps.n) (fun c=>d.ps.n-c) (fun _ e J=>e = .exit 0∧J=vZ (KR d s d.ps.n)) 8 QLW [] (mkE Try.prog JA) (fun c=>{ hnd (mkE Try.prog JA) 1 with loop:=fun _=>KN 8 [] (Va d s (KR d s c) c 0) [(True,.exit 2,G0 d s (KX d s (KR d s c) c 4) c)] }) (Qd Try.f43 0):=by
 refine⟨fun c g hc=>ja (QaN d s _ _ c g) ?_⟩;refine QI (fun h => ?_) (fun h => ?_)
 ·have h:c<d.ps.n:=by have:=qdt h;omega
  have hw:i64.wrap ((c:Int)+1)=((c+1:Nat):Int):=(w64 (by omega) (by omega)).trans (by omega)
  refine QF (by simp;omega) (QF (by simp;omega) ?_)
  repeat' first|refine Qb (show _=_ by with_reducible rfl) ?_|refine Qb (show _≤_ from qlr _) ?_|refine Qb (show QC _ _ _ _ from qRr) ?_
  refine KO fun _=>KK fun g => ?_;refine⟨c+1,h,by show d.ps.n-(c+1)<d.ps.n-c;omega,fun _ _ h=>h,rfl,rfl,_,Qa0 d s _ (KR d s (c+1)) c (c+1),?_⟩
  repeat' first|exact trivial|with_reducible rfl|exact qlr _|exact qRr|exact hw|refine And.intro ?_ ?_
  rfl
 ·have:c=d.ps.n:=by have:=of_decide_eq_false h;omega
  subst this;refine⟨_,⟨rfl,rfl⟩,rfl,rfl,_,QRq _ _,?_⟩
  repeat' first|exact trivial|with_reducible rfl|exact qlr _|exact qRr|refine And.intro ?_ ?_
theorem QVQ(hn:d.ps.n≤900)(G:Ctx)(hrd:G.rd=none)(hG:G.n=8):KH (mkE Try.prog JA) G { hnd (mkE Try.prog JA) 1 with loop:=fun _=>KN 8 [] (qP d s [] (0:Nat)) [(True,.exit 0,vZ (KR d s d.ps.n))] } (Qr Try.f43):=by
 refine Jd (body:=Qd Try.f43 0) (QT jg) hrd (by kernel_rfl) ?_
 refine Ju (n0:=8) (QT jg) (by omega) (fun c hc=>QUS d s (KR d s c) c (by have:=Gt d s c;have:c≤d.ps.n:=hc;omega) G hrd hG) (fun c hc=>(by decide:8≤32)) ?_ (QWQ d s hn) (s0:=0) (Nat.zero_le _) ?_
 ·rintro t e J ⟨_,rfl⟩;exact(by decide:8≤32)
 ·rintro e J ⟨rfl,rfl⟩;exact⟨_,List.mem_cons_self,trivial,rfl,rfl⟩
def GJ:WF (Puz×QG×Unit):=fun|(d,(s,_))=>(decide (d.ps.n≤900),.slz 0 0 (KR d s d.ps.n).length (.of 0),[Ke 56 0 (KR d s d.ps.n) ⟨0,0⟩])
def QEU:FC:=wFC GJ
theorem Qb7 :Kc (mkE Try.prog JA) { hnd (mkE Try.prog JA) 1 with loop:=fun _=>KN 8 [] (qP d s [] (0:Nat)) [(True,.exit 0,vZ (KR d s d.ps.n))] } Try.f43 (QX.vals
  0 ((d,s,()):Puz×QG×Unit)) (QX.blks 0 ((d,s,()):Puz×QG×Unit)) 8 = .ask (0=0) (.ask (0=0) (.ask (0=0) (.ask (0=0) (.ask (d.ps.n=d.ps.n) (.ask
  (cO=cO) (.ask ((d.ps.n:Int)=(d.ps.n:Int)) (.ask ((0:Int)=0) (.ask (s.up.kind=s.up.kind) (.ask (s.up.at_.lo=s.up.at_.lo) (.ask (s.up.at_.hi=s.up.at_.hi)
  (.ask (s.up.wide.lo=s.up.wide.lo) (.ask (s.up.wide.hi=s.up.wide.hi) (.ask (s.up.deep.lo=s.up.deep.lo) (.ask (s.up.deep.hi=s.up.deep.hi) (.ask (s.right.kind=s.right.kind)
  (.ask (s.right.at_.lo=s.right.at_.lo) (.ask (s.right.at_.hi=s.right.at_.hi) (.ask (s.right.wide.lo=s.right.wide.lo) (.ask (s.right.wide.hi=s.right.wide.hi) (.ask
  (s.right.deep.lo=s.right.deep.lo) (.ask (s.right.deep.hi=s.right.deep.hi) (.ask (s.down.kind=s.down.kind) (.ask (s.down.at_.lo=s.down.at_.lo) (.ask (s.down.at_.hi =
  s.down.at_.hi) (.ask (s.down.wide.lo=s.down.wide.lo) (.ask (s.down.wide.hi=s.down.wide.hi) (.ask (s.down.deep.lo=s.down.deep.lo) (.ask (s.down.deep.hi=s.down.deep.hi) (.ask
  (s.left.kind=s.left.kind) (.ask (s.left.at_.lo=s.left.at_.lo) (.ask (s.left.at_.hi=s.left.at_.hi) (.ask (s.left.wide.lo=s.left.wide.lo) (.ask (s.left.wide.hi =
  s.left.wide.hi) (.ask (s.left.deep.lo=s.left.deep.lo) (.ask (s.left.deep.hi=s.left.deep.hi) (.ask (0=0) (.ask (d.ps.n≤d.ps.n) (.ask (QC 28 d.ps.n (fun i=>QA.enc
  (d.ps.get i)) fun i=>QA.enc (d.ps.get i)) (.asm (True) (.all (fun(g0:Nat→Value) => .leaf (.slz 24 0 (KR d s d.ps.n).length cO) ([(24,.rowz true 56 [.int .i64,
  .int .i64] (KR d s d.ps.n).length fun i=>QA.enc ((KR d s d.ps.n).getD i ⟨0,0⟩))])))))))))))))))))))))))))))))))))))))))))):=by kernel_rfl
theorem QbJ:Jr (mkE Try.prog JA) (Qr Try.f43) 8 GJ (fun x_=>{ hnd (mkE Try.prog JA) 1 with loop:=fun _=>KN 8 [] (qP x_.1 x_.2.1 [] (0:Nat)) [(True,.exit 0,vZ (KR x_.1 x_.2.1 x_.1.ps.n))] }):=by
 refine⟨?_⟩;rintro⟨d,⟨s,⟨⟩⟩⟩ hp G h1 h2;exact QVQ d s (qdt hp) G h1 h2
theorem QWS:Jo (mkE Try.prog JA) Try.f43 8 GJ (fun x_=>{ hnd (mkE Try.prog JA) 1 with loop:=fun _=>KN 8 [] (qP x_.1 x_.2.1 [] (0:Nat)) [(True,.exit 0,vZ (KR x_.1 x_.2.1 x_.1.ps.n))] }):=by
 refine⟨?_⟩;rintro⟨d,⟨s,⟨⟩⟩⟩ hp;refine⟨⟨rfl,by simp[GJ,Ke,Blk.own,Blk.all],rfl⟩,⟨?_⟩⟩
 rw[Qb7 d s];simp only[GJ]at hp
 repeat' first|refine Qb (show _=_ by with_reducible rfl) ?_|refine Qb (show _≤_ from qlr _) ?_|refine Qb (show QC _ _ _ _ from qRr) ?_
 refine KO fun _=>KK fun g=>⟨rfl,rfl,_,QTC _,?_⟩
 repeat' first|exact trivial|with_reducible rfl|exact qlr _|exact qRr|refine And.intro ?_ ?_
theorem QPh:QQ Try.prog 43 QEU:=
 Jx (QT jg) Try.func43 (by kernel_rfl) (by kernel_rfl) (by decide) QbJ QWS
def Z9:Tab:=Qe JA 43 QEU
theorem QDt:Qc Z9:=jg.add QPh
def qf:Bool:=d.ok&&Ve d.play ⟨1,fun _=>s⟩
def Yw:List QB:=match qf d s with
 | true=>KR d s d.ps.n
 | false=>[]
def jo:Int:=match qf d s with
 | true=>0
 | false=>1
theorem QZS(e f:Int)(o:List QB):QK 8 [.tup [.nils,vj e]] [] (Km 8 (.tup [.slz 0 0 o.length cO,vi f]) [Ke 56 0 o ⟨0,0⟩])=(
  some [o.length=(0:Nat),e=f,o.length=(0:Nat)]):=by kernel_rfl
theorem QSA(n:Nat)(g:Nat→Nat→Int)(e f:Int)(o:List QB):QK 8 [.tup [.slz 144 0 n cO,vj e]] [(144,.rowz true 56 [.int .i64,.int .i64] n g)] (Km 8 (.tup [.slz 0 0 o.length cO,vi f]) [Ke 56 0 o ⟨0,0⟩])=(
  some [(0:Nat)=(0:Nat),n=o.length,Cap.of (0:Nat)=Cap.of (0:Nat),e=f,o.length≤n,QC (2:Nat) o.length g fun i=>QA.enc (o.getD i (QB.mk (0:Int) (0 :
  Int)))]):=by kernel_rfl
def qQ:WF (Puz×QG×Unit):=fun|(d,(s,_))=>(decide (d.ps.n≤900),.tup [.slz 0 0 (Yw d s).length (.of 0),.int false .i64 (jo d s)],[Ke 56 0 (Yw d s) ⟨0,0⟩])
def QPb:FC:=wFC qQ
noncomputable abbrev JH:List AV:=
  ((Enc.enc (s:QG)).cells)
theorem QXy :Kc (mkE Try.prog Z9) (hnd (mkE Try.prog Z9) 0) Try.f15 (QX.vals 0 ((d,s,()):Puz×QG×Unit)) (QX.blks 0 ((d,s,()):Puz×QG×Unit)) 8 = .need
  (decide (d.ps.n≤d.ps.n)&&true&&decide (d.ps.n≤1000)) (.br (!d.ok) (.leaf (.tup [.nils,vj 1]) ([])) (.need (true&&(true&&true)&&decide (1≤1000)) (.br
  (!Ve d.play (Rw.mk 1 fun i=>QG.mk (Edge.mk (QR [(JH s)] 0 i 0) (Sp.mk (QR [(JH s)] 0 i 1) (QR [(JH s)] 0 i 2)) (Sp.mk (QR [(JH s)] 0 i 3) (QR [(JH s)] 0 i
  4)) (Sp.mk (QR [(JH s)] 0 i 5) (QR [(JH s)] 0 i 6))) (Edge.mk (QR [(JH s)] 0 i 7) (Sp.mk (QR [(JH s)] 0 i 8) (QR [(JH s)] 0 i 9)) (Sp.mk (QR [(JH s)] 0 i 10)
  (QR [(JH s)] 0 i 11)) (Sp.mk (QR [(JH s)] 0 i 12) (QR [(JH s)] 0 i 13))) (Edge.mk (QR [(JH s)] 0 i 14) (Sp.mk (QR [(JH s)] 0 i 15) (QR [(JH s)] 0 i 16))
  (Sp.mk (QR [(JH s)] 0 i 17) (QR [(JH s)] 0 i 18)) (Sp.mk (QR [(JH s)] 0 i 19) (QR [(JH s)] 0 i 20))) (Edge.mk (QR [(JH s)] 0 i 21) (Sp.mk (QR [(JH s)] 0 i
  22) (QR [(JH s)] 0 i 23)) (Sp.mk (QR [(JH s)] 0 i 24) (QR [(JH s)] 0 i 25)) (Sp.mk (QR [(JH s)] 0 i 26) (QR [(JH s)] 0 i 27))))) (.leaf (.tup [.nils,.int true
  .i64 1]) ([])) (.need (decide (d.ps.n≤d.ps.n)&&(true&&true)&&decide (d.ps.n≤900)) (.leaf (.tup [.slz 144 0 (KR d s d.ps.n).length cO,vj 0]) ([(144,
  .rowz true 56 [.int .i64,.int .i64] (KR d s d.ps.n).length fun i=>QA.enc ((KR d s d.ps.n).getD i ⟨0,0⟩))])))))):=by kernel_rfl
theorem QXU:Jr (mkE Try.prog Z9) (Qr Try.f15) 8 qQ (fun x_=>(hnd (mkE Try.prog Z9) 0)):=by
 refine⟨?_⟩;rintro⟨d,⟨s,⟨⟩⟩⟩ hp G h1 h2;exact Qz (QT QDt) 0 G _ h1
theorem Qba:Jo (mkE Try.prog Z9) Try.f15 8 qQ (fun x_=>(hnd (mkE Try.prog Z9) 0)):=by
 refine⟨?_⟩;rintro⟨d,⟨s,⟨⟩⟩⟩ hp;refine⟨⟨rfl,by simp[qQ,Ke,Blk.own,Blk.all],rfl⟩,⟨?_⟩⟩
 rw[QXy d s];simp only[qQ]at hp;have hn:d.ps.n≤900:=qdt hp
 have no:qf d s=false→(QD.leaf (AV.tup [AV.nils,AV.int true i64 1]) []).den (XG 8 (qQ (d,s,())).2.1 (qQ (d,s,())).2.2):=by
  intro h;have h1:Yw d s=[]:=by simp only[Yw,h]
  have h2:jo d s=1:=by simp only[jo,h]
  refine⟨rfl,rfl,_,QZS _ _ _,?_⟩;rw[h1,h2]
  repeat' first|exact trivial|with_reducible rfl|exact qlr _|exact qRr|refine And.intro ?_ ?_
  all_goals rfl
 refine QF (by simp;omega) (QI (fun h=>no ?_) (fun h=>QF rfl (QI (fun h2=>no ?_) (fun h2=>QF (by simp;omega) ?_))))
 ·have h:d.ok=false:=by simpa using h
  simp only[qf,h,Bool.false_and]
 ·have h2:Ve d.play ⟨1,fun _=>s⟩=false:=by simpa using (show(!Ve d.play ⟨1,fun _=>s⟩)=true from h2)
  simp only[qf,h2,Bool.and_false]
 ·have h:d.ok=true:=by simpa using h
  have h2:Ve d.play ⟨1,fun _=>s⟩=true:=by simpa using (show(!Ve d.play ⟨1,fun _=>s⟩)=false from h2)
  have hO:qf d s=true:=by simp only[qf,h,h2,Bool.and_self]
  have h3:Yw d s=KR d s d.ps.n:=by simp only[Yw,hO]
  have h4:jo d s=0:=by simp only[jo,hO]
  refine⟨rfl,rfl,_,QSA _ _ _ _ _,?_⟩;rw[h3,h4]
  repeat' first|exact trivial|with_reducible rfl|exact qlr _|exact qRr|refine And.intro ?_ ?_
theorem Qax:QQ Try.prog 15 QPb:=
 Jx (QT QDt) Try.func15 (by kernel_rfl) (by kernel_rfl) (by decide) QXU Qba
def jC:Tab:=Qe Z9 15 QPb
theorem QBg:Qc jC:=QDt.add Qax
def QIN:Int×Int×Unit→Bool×AV:=fun|(lo,(hi,_))=>(true,Enc.enc (⟨lo,hi⟩:Sp))
def QJ1:FC:=KD (KE QIN)
theorem QZi(lo:Int)(hi:Int):Q8 (mkE Try.prog jC) (hnd (mkE Try.prog jC) 2) false Try.f46 (Qt.enc ((lo,hi,()):Int×Int×Unit)) [] 0 =
  QD.leaf (AV.agg [AV.int false i64 lo,AV.int false i64 hi]) ([]):=by kernel_rfl
theorem QZO:QQ Try.prog 46 QJ1:=by
 refine KQ QBg 2 Try.func46 (by kernel_rfl) (by kernel_rfl) ?_
 rintro⟨lo,hi,⟨⟩⟩ hp;rw[QZi lo hi];simp only[QIN,QD.den,AV.same,AV.sameL,and_true,true_and]at hp ⊢;simp only[Enc.enc,AV.same,AV.sameL,and_self]
def QCC:Tab:=Qe jC 46 QJ1
theorem QOs:Qc QCC:=QBg.add QZO
def QOD:Int×Int×Int×Unit→Bool×AV:=fun|(k,(w,(d,_)))=>(true,Enc.enc (⟨k,⟨1000,1000⟩,⟨w,w⟩,⟨d,d⟩⟩:Edge))
def QJv:FC:=KD (KE QOD)
theorem QZM(k:Int)(w:Int)(d:Int):Q8 (mkE Try.prog QCC) (hnd (mkE Try.prog QCC) 2) false Try.f45 (Qt.enc ((k,w,d,()):Int×Int×Int×Unit)) [] 0 =
  QD.need (true) (QD.need (true) (QD.leaf (AV.agg [AV.int false i64 k,AV.int true i64 (1000:Int),AV.int true i64 (1000:Int),AV.int false
  i64 w,AV.int false i64 w,AV.int false i64 d,AV.int false i64 d]) ([]))):=by kernel_rfl
theorem Qcj:QQ Try.prog 45 QJv:=by
 refine KQ QOs 2 Try.func45 (by kernel_rfl) (by kernel_rfl) ?_
 rintro⟨k,w,d,⟨⟩⟩ hp;rw[QZM k w d];simp only[QOD,QD.den,AV.same,AV.sameL,and_true,true_and]at hp ⊢;simp only[Enc.enc,AV.same,AV.sameL,and_self]
def QAW:Tab:=Qe QCC 45 QJv
theorem QNy:Qc QAW:=QOs.add Qcj
def QJI:Int×Int×Int×Unit→Bool×AV:=fun|(k,(lo,(hi,_)))=>(true,Enc.enc (⟨k,⟨990,1010⟩,⟨lo,hi⟩,⟨395,415⟩⟩:Edge))
def QH5:FC:=KD (KE QJI)
theorem QTj(k:Int)(lo:Int)(hi:Int):Q8 (mkE Try.prog QAW) (hnd (mkE Try.prog QAW) 2) false Try.f48 (Qt.enc ((k,lo,hi,()):Int×Int×Int×Unit)) [] 0 =
  QD.need (true) (QD.leaf (AV.agg [AV.int false i64 k,AV.int true i64 (990:Int),AV.int true i64 (1010:Int),AV.int false i64 lo,AV.int false
  i64 hi,AV.int true i64 (395:Int),AV.int true i64 (415:Int)]) ([])):=by kernel_rfl
theorem QXJ:QQ Try.prog 48 QH5:=by
 refine KQ QNy 2 Try.func48 (by kernel_rfl) (by kernel_rfl) ?_
 rintro⟨k,lo,hi,⟨⟩⟩ hp;rw[QTj k lo hi];simp only[QJI,QD.den,AV.same,AV.sameL,and_true,true_and]at hp ⊢;simp only[Enc.enc,AV.same,AV.sameL,and_self]
def QCy:Tab:=Qe QAW 48 QH5
theorem QO3:Qc QCy:=QNy.add QXJ
def QJe:Edge×Edge×Unit→Bool×AV:=fun|(r,(l,_))=>(true,Enc.enc (⟨JS,r,JS,l⟩:QG))
def QRI:FC:=KD (KE QJe)
theorem QSh(r:Edge)(l:Edge):Q8 (mkE Try.prog QCy) (hnd (mkE Try.prog QCy) 2) false Try.f47 (Qt.enc ((r,l,()):Edge×Edge×Unit)) [] 0 =
  QD.leaf (AV.agg [AV.int true i64 (0:Int),AV.int true i64 (0:Int),AV.int true i64 (0:Int),AV.int true i64 (0:Int),AV.int true
  i64 (0:Int),AV.int true i64 (0:Int),AV.int true i64 (0:Int),AV.int false i64 r.kind,AV.int false i64 r.at_.lo,AV.int false
  i64 r.at_.hi,AV.int false i64 r.wide.lo,AV.int false i64 r.wide.hi,AV.int false i64 r.deep.lo,AV.int false i64 r.deep.hi,AV.int true
  i64 (0:Int),AV.int true i64 (0:Int),AV.int true i64 (0:Int),AV.int true i64 (0:Int),AV.int true i64 (0:Int),AV.int true
  i64 (0:Int),AV.int true i64 (0:Int),AV.int false i64 l.kind,AV.int false i64 l.at_.lo,AV.int false i64 l.at_.hi,AV.int false
  i64 l.wide.lo,AV.int false i64 l.wide.hi,AV.int false i64 l.deep.lo,AV.int false i64 l.deep.hi]) ([]):=by kernel_rfl
theorem QcM:QQ Try.prog 47 QRI:=by
 refine KQ QO3 2 Try.func47 (by kernel_rfl) (by kernel_rfl) ?_
 rintro⟨r,l,⟨⟩⟩ hp;rw[QSh r l];simp only[QJe,QD.den,AV.same,AV.sameL,and_true,true_and]at hp ⊢;simp only[Enc.enc,JS,AV.same,AV.sameL,and_self]
def QCO:Tab:=Qe QCy 47 QRI
theorem QLn:Qc QCO:=QO3.add QcM
def pP:QG:=⟨JS,⟨1,⟨990,1010⟩,⟨490,570⟩,⟨395,415⟩⟩,JS,⟨2,⟨990,1010⟩,⟨505,525⟩,⟨395,415⟩⟩⟩
def pQ:QG:=⟨JS,⟨1,⟨990,1010⟩,⟨495,505⟩,⟨395,415⟩⟩,JS,⟨2,⟨990,1010⟩,⟨505,525⟩,⟨395,415⟩⟩⟩
def pR:QG:=⟨JS,JS,⟨1,⟨990,1010⟩,⟨490,510⟩,⟨395,415⟩⟩,JS⟩
def QQK:Unit→Bool×AV:=fun _=>(true,Enc.enc pP)
def QPP:FC:=KD (KE QQK)
theorem Qat :Q8 (mkE Try.prog QCO) (hnd (mkE Try.prog QCO) 2) false Try.f22 (Qt.enc (():Unit)) [] 0 =
  QD.leaf (AV.agg [AV.int true i64 (0:Int),AV.int true i64 (0:Int),AV.int true i64 (0:Int),AV.int true i64 (0:Int),AV.int true
  i64 (0:Int),AV.int true i64 (0:Int),AV.int true i64 (0:Int),AV.int true i64 (1:Int),AV.int true i64 (990:Int),AV.int true
  i64 (1010:Int),AV.int true i64 (490:Int),AV.int true i64 (570:Int),AV.int true i64 (395:Int),AV.int true i64 (415:Int),AV.int
  true i64 (0:Int),AV.int true i64 (0:Int),AV.int true i64 (0:Int),AV.int true i64 (0:Int),AV.int true i64 (0:Int),AV.int true
  i64 (0:Int),AV.int true i64 (0:Int),AV.int true i64 (2:Int),AV.int true i64 (990:Int),AV.int true i64 (1010:Int),AV.int true
  i64 (505:Int),AV.int true i64 (525:Int),AV.int true i64 (395:Int),AV.int true i64 (415:Int)]) ([]):=by kernel_rfl
theorem QV1:QQ Try.prog 22 QPP:=by
 refine KQ QLn 2 Try.func22 (by kernel_rfl) (by kernel_rfl) ?_
 rintro⟨⟩ hp;rw[Qat];simp only[QQK,QD.den,AV.same,AV.sameL,and_true,true_and]at hp ⊢;simp only[Enc.enc,pP,JS,AV.same,AV.sameL,and_self]
def QC7:Tab:=Qe QCO 22 QPP
theorem QJs:Qc QC7:=QLn.add QV1
def QNf:Unit→Bool×AV:=fun _=>(true,Enc.enc pQ)
def QME:FC:=KD (KE QNf)
theorem QdD :Q8 (mkE Try.prog QC7) (hnd (mkE Try.prog QC7) 2) false Try.f24 (Qt.enc (():Unit)) [] 0 =
  QD.leaf (AV.agg [AV.int true i64 (0:Int),AV.int true i64 (0:Int),AV.int true i64 (0:Int),AV.int true i64 (0:Int),AV.int true
  i64 (0:Int),AV.int true i64 (0:Int),AV.int true i64 (0:Int),AV.int true i64 (1:Int),AV.int true i64 (990:Int),AV.int true
  i64 (1010:Int),AV.int true i64 (495:Int),AV.int true i64 (505:Int),AV.int true i64 (395:Int),AV.int true i64 (415:Int),AV.int
  true i64 (0:Int),AV.int true i64 (0:Int),AV.int true i64 (0:Int),AV.int true i64 (0:Int),AV.int true i64 (0:Int),AV.int true
  i64 (0:Int),AV.int true i64 (0:Int),AV.int true i64 (2:Int),AV.int true i64 (990:Int),AV.int true i64 (1010:Int),AV.int true
  i64 (505:Int),AV.int true i64 (525:Int),AV.int true i64 (395:Int),AV.int true i64 (415:Int)]) ([]):=by kernel_rfl
theorem QbK:QQ Try.prog 24 QME:=by
 refine KQ QJs 2 Try.func24 (by kernel_rfl) (by kernel_rfl) ?_
 rintro⟨⟩ hp;rw[QdD];simp only[QNf,QD.den,AV.same,AV.sameL,and_true,true_and]at hp ⊢;simp only[Enc.enc,pQ,JS,AV.same,AV.sameL,and_self]
def QA4:Tab:=Qe QC7 24 QME
theorem QQX:Qc QA4:=QJs.add QbK
def QJQ:Unit→Bool×AV:=fun _=>(true,Enc.enc pR)
def QMJ:FC:=KD (KE QJQ)
theorem QYX :Q8 (mkE Try.prog QA4) (hnd (mkE Try.prog QA4) 2) false Try.f19 (Qt.enc (():Unit)) [] 0 =
  QD.leaf (AV.agg [AV.int true i64 (0:Int),AV.int true i64 (0:Int),AV.int true i64 (0:Int),AV.int true i64 (0:Int),AV.int true
  i64 (0:Int),AV.int true i64 (0:Int),AV.int true i64 (0:Int),AV.int true i64 (0:Int),AV.int true i64 (0:Int),AV.int true
  i64 (0:Int),AV.int true i64 (0:Int),AV.int true i64 (0:Int),AV.int true i64 (0:Int),AV.int true i64 (0:Int),AV.int true
  i64 (1:Int),AV.int true i64 (990:Int),AV.int true i64 (1010:Int),AV.int true i64 (490:Int),AV.int true i64 (510:Int),AV.int
  true i64 (395:Int),AV.int true i64 (415:Int),AV.int true i64 (0:Int),AV.int true i64 (0:Int),AV.int true i64 (0:Int),AV.int
  true i64 (0:Int),AV.int true i64 (0:Int),AV.int true i64 (0:Int),AV.int true i64 (0:Int)]) ([]):=by kernel_rfl
theorem QaO:QQ Try.prog 19 QMJ:=by
 refine KQ QQX 2 Try.func19 (by kernel_rfl) (by kernel_rfl) ?_
 rintro⟨⟩ hp;rw[QYX];simp only[QJQ,QD.den,AV.same,AV.sameL,and_true,true_and]at hp ⊢;simp only[Enc.enc,pR,JS,AV.same,AV.sameL,and_self]
def Wj:Tab:=Qe QA4 19 QMJ
theorem QGs:Qc Wj:=QQX.add QaO
def exE(k w d:Int):Edge:=⟨k,⟨1000,1000⟩,⟨w,w⟩,⟨d,d⟩⟩
def QY1:List QG:=[⟨JS,exE 1 500 400,JS,JS⟩,⟨JS,exE 1 500 400,JS,exE 2 515 410⟩,⟨JS,exE 1 560 400,JS,exE 2 515 410⟩,⟨JS,JS,JS,exE 2 575 410⟩]
def QO8:AV := .agg [.int false .i64 2000,.int false .i64 20,.int false .i64 30,.int false .i64 0,.int false .i64 10,.int false .i64 4,.int false .i64 1,.bool false false,.slice true 0 0 4 (.lit 4)]
def QN6:Nat×Blk:=(0,.rowl 33 28 (QY1.map fun p=>(Enc.enc p).cells))
noncomputable abbrev QMY:List AV:=
  [vj 2000,vj 20,vj 30,vj 0,vj 10,vj 4,vj 1,.bool true false,.slice true 248 0 4 (Cap.lit
  4)]
noncomputable abbrev QOH:List (Nat×Blk):=
  [(248,.rowl 33 28 [[vj 0,vj 0,vj 0,vj 0,vj 0,vj 0,vj 0,vj 1,.int true .i64
  1000,vj 1000,vj 500,vj 500,vj 400,vj 400,vj 0,vj 0,vj 0,vj 0,
  .int true .i64 0,vj 0,vj 0,vj 0,vj 0,vj 0,vj 0,vj 0,vj 0,vj 0],
  [vj 0,vj 0,vj 0,vj 0,vj 0,vj 0,vj 0,vj 1,vj 1000,.int true .i64
  1000,vj 500,vj 500,vj 400,vj 400,vj 0,vj 0,vj 0,vj 0,vj 0,.int
  true .i64 0,vj 0,vj 2,vj 1000,vj 1000,vj 515,vj 515,vj 410,vj 410],[.int
  true .i64 0,vj 0,vj 0,vj 0,vj 0,vj 0,vj 0,vj 1,vj 1000,vj 1000,
  .int true .i64 560,vj 560,vj 400,vj 400,vj 0,vj 0,vj 0,vj 0,vj 0,.int true
  .i64 0,vj 0,vj 2,vj 1000,vj 1000,vj 515,vj 515,vj 410,vj 410],[.int true
  .i64 0,vj 0,vj 0,vj 0,vj 0,vj 0,vj 0,vj 0,vj 0,vj 0,.int true
  .i64 0,vj 0,vj 0,vj 0,vj 0,vj 0,vj 0,vj 0,vj 0,vj 0,.int true
  .i64 0,vj 2,vj 1000,vj 1000,vj 575,vj 575,vj 410,vj 410]])]
abbrev vt:List Prop:=
  [(0:Int)=0,(0:Int)=0,(0:Int)=0,(0:Int)=0,(0:Int)=0]
abbrev QFa:List Prop:=
  [(0:Int)=0,(0:Int)=0,(1:Int)=1,(1000:Int)=1000,(1000:Int)=1000]
abbrev QPQ:List Prop:=
  [(0:Int)=0,(0:Int)=0,(0:Int)=0,(0:Int)=0,(0:Int)=0,(0:Int)=0,(0:Int)=0,(0:Int)=0,(0:Int)=0,(0:Int)=0,(0:Int)=0,(0:Int)=0]
abbrev QFF:List Prop:=
  [(0:Int)=0,(0:Int)=0,(2:Int)=2,(1000:Int)=1000,(1000:Int)=1000]
theorem QYt :QK 8 [(.agg QMY)] (QOH) (Km 8 QO8 [QN6])=(some ([(2000:Int)=2000,(20:Int)=20,(30:Int)=30,(0:Int)=0,(10:Int)=10,(4:Int)=4,(1:Int)=1,
  false=false,0=0,4=4,Cap.lit 4=Cap.lit 4]++vt++QFa++[(500:Int)=500,(500:Int)=500,(400:Int)=400,(400:Int)=400]++QPQ++vt++[(0:Int) =
  0,(0:Int)=0]++QFa++[(500:Int)=500,(500:Int)=500,(400:Int)=400,(400:Int)=400]++vt++QFF++[(515:Int)=515,(515:Int)=515,(410:Int) =
  410,(410:Int)=410]++vt++QFa++[(560:Int)=560,(560:Int)=560,(400:Int)=400,(400:Int)=400]++vt++QFF++[(515:Int)=515,(515:Int)=515,
  (410:Int)=410,(410:Int)=410]++QPQ++vt++[(0:Int)=0,(0:Int)=0]++QFF++[(575:Int)=575,(575:Int)=575,(410:Int)=410,(410:Int)=410])):=by kernel_rfl
def QB7:WF (Unit):=fun|_=>(true,QO8,[QN6])
def QLY:FC:=wFC QB7
theorem QVp :Kc (mkE Try.prog Wj) (hnd (mkE Try.prog Wj) 2) Try.f18 (QX.vals 0 ((()):Unit)) (QX.blks 0 ((()):Unit)) 8 = .leaf (.agg QMY) (QOH):=by kernel_rfl
theorem QWd:Jr (mkE Try.prog Wj) (Qr Try.f18) 8 QB7 (fun x_=>(hnd (mkE Try.prog Wj) 2)):=by
 refine⟨?_⟩;rintro⟨⟩ hp G h1 h2;exact Qz (QT QGs) 2 G _ h1
theorem QVd:Jo (mkE Try.prog Wj) Try.f18 8 QB7 (fun x_=>(hnd (mkE Try.prog Wj) 2)):=by
 refine⟨?_⟩;rintro⟨⟩ hp;refine⟨⟨rfl,by decide,rfl⟩,⟨?_⟩⟩
 rw[QVp];simp only[QB7]at hp;exact⟨rfl,rfl,_,QYt,by repeat' first|exact trivial|rfl|refine And.intro ?_ ?_⟩
theorem Qc0:QQ Try.prog 18 QLY:=
 Jx (QT QGs) Try.func18 (by kernel_rfl) (by kernel_rfl) (by decide) QWd QVd
def XU:Tab:=Qe Wj 18 QLY
theorem qG:Qc XU:=QGs.add Qc0
structure Jn where
 a:Int
 i:Int
 b:Int
 j:Int
instance : QA Jn where
  ks := [.int .i64,.int .i64,.int .i64,.int .i64]
  enc p j := match j with
    | 0 => p.a
    | 1 => p.i
    | 2 => p.b
    | _ => p.j
  dec f := ⟨f 0,f 1,f 2,f 3⟩
  ok _ := rfl
instance : Enc Jn where
  enc x := .agg [.int false .i64 x.a,.int false .i64 x.i,.int false .i64 x.b,.int false .i64 x.j]
  dec | .agg [.int _ .i64 a0,.int _ .i64 a1,.int _ .i64 a2,.int _ .i64 a3] => some ⟨a0,a1,a2,a3⟩ | _ => none
  ok v x h := by
    split at h <;> (try (cases h; done))
    simp only[qsI]at h; subst h; exact⟨fun _ => rfl,rfl⟩
instance : Enc QB where
  enc x := .agg [.int false .i64 x.cell,.int false .i64 x.turn]
  dec | .agg [.int _ .i64 a0,.int _ .i64 a1] => some ⟨a0,a1⟩ | _ => none
  ok v x h := by
    split at h <;> (try (cases h; done))
    simp only[qsI]at h; subst h; exact⟨fun _ => rfl,rfl⟩
structure QE where
 d:Puz
 scans:Rw QG
 hang:Rw Jn
 lost:Int
 foreign:Int
def Jt(k:Nat)(x:QE):List AV:=[.int false .i64 x.d.play.length,.int false .i64 x.d.play.slack,.int false .i64 x.d.play.loose,.int false .i64 x.d.play.damp.lo,.int false .i64 x.d.play.damp.hi,.int false .i64 x.d.wide,.int false .i64 x.d.high,.bool false x.d.turn,Q3.val k x.d.ps,Q3.val (k+1) x.scans,Q3.val (k+2) x.hang,.int false .i64 x.lost,.int false .i64 x.foreign]
def VY(k:Nat)(x:QE):List (Nat×Blk):=Q3.blk k x.d.ps++(Q3.blk (k+1) x.scans++Q3.blk (k+2) x.hang)
instance {β : Type} [QX β] : QX (QE × β) where
  len := QX.len β + 3
  vals k x := .agg (Jt k x.1) :: QX.vals (k + 3) x.2
  blks k x := VY k x.1 ++ QX.blks (k + 3) x.2
  dec
    | v :: l,lk => (match v with
      | .agg [.int _ .i64 a,.int _ .i64 b,.int _ .i64 c,.int _ .i64 d,.int _ .i64 e,.int _ .i64 f,.int _ .i64 g,.bool _ t,s1,s2,s3,.int _ .i64 lo,.int _ .i64 fo] => (match (Q3.dec s1 lk : Option (Bool × Rw QG)),(Q3.dec s2 lk : Option (Bool × Rw QG)),(Q3.dec s3 lk : Option (Bool × Rw Jn)),(QX.dec l lk : Option (Bool × β))with
        | some (p1,x1),some (p2,x2),some (p3,x3),some (q,y) => some (p1 && (p2 && (p3 && q)),⟨⟨⟨a,b,c,⟨d,e⟩⟩,f,g,t,x1⟩,x2,x3,lo,fo⟩,y)
        | _,_,_,_ => none)
      | _ => none)
    | _,_ => none
  ok vs lk p x h hp := by
    split at h <;> (try (cases h; done))
    split at h <;> (try (cases h; done))
    split at h <;> (try (cases h; done))
    rename_i l lk' _ _ a _ b _ c _ d _ e _ f _ g _ t s1 s2 s3 _ lo _ fo _ _ _ _ p1 x1 p2 x2 p3 x3 q y h1 h2 h3 h4;simp only[qsI,qpI]at h;obtain⟨rfl,rfl⟩ := h;simp only[qbA]at hp;obtain⟨a1,a2⟩ := Q3.ok _ _ _ _ h1 hp.1;obtain⟨b1,b2⟩ := Q3.ok _ _ _ _ h2 hp.2.1;obtain⟨c1,c2⟩ := Q3.ok _ _ _ _ h3 hp.2.2.1;obtain⟨d1,d2⟩ := QX.ok _ _ _ _ h4 hp.2.2.2;refine⟨fun k => ⟨?_,fun z hz => ?_⟩,fun r w hw => ?_⟩
    · simp only[AV.allL,qbA]
      refine⟨?_,allL_mono (fun i hi => ?_) _ (d1 (k + 3)).1⟩
      · simp only[AV.all,Jt,AV.allL,Bool.true_and,Bool.and_true,qbA]
        refine⟨all_mono (fun i hi => ?_) _ (a1 k).1,all_mono (fun i hi => ?_) _ (b1 (k + 1)).1,all_mono (fun i hi => ?_) _ (c1 (k + 2)).1⟩
        · have hi : i = k := by simpa using hi
          subst hi; simp
        · have hi : i = k + 1 := by simpa using hi
          subst hi; simp
        · have hi : i = k + 2 := by simpa using hi
          subst hi; simp
      · simp only[qdE]at hi ⊢; omega
    · simp only[VY,List.mem_append]at hz
      rcases hz with (hz | hz | hz) | hz
      · obtain⟨e1,e2,e3⟩ := (a1 k).2 z hz
        exact⟨by omega,e2,e3⟩
      · obtain⟨e1,e2,e3⟩ := (b1 (k + 1)).2 z hz
        exact⟨by omega,e2,e3⟩
      · obtain⟨e1,e2,e3⟩ := (c1 (k + 2)).2 z hz
        exact⟨by omega,e2,e3⟩
      · obtain⟨e1,e2,e3⟩ := (d1 (k + 3)).2 z hz
        exact⟨by omega,e2,e3⟩
    · obtain⟨l1,e1⟩ := a2 r w hw
      obtain⟨l2,e2⟩ := b2 r w hw;obtain⟨l3,e3⟩ := c2 r w hw;obtain⟨L,e4⟩ := d2 r w hw;refine⟨fun i => match i with | 0 => l1 | 1 => l2 | 2 => l3 | i + 3 => L i,fun k r' hr => ?_⟩
      obtain⟨g1,g2⟩ := e1 k r' (by simpa using hr 0 (by omega))
      obtain⟨g3,g4⟩ := e2 (k + 1) r' (hr 1 (by omega))
      obtain⟨g5,g6⟩ := e3 (k + 2) r' (hr 2 (by omega))
      obtain⟨g7,g8⟩ := e4 (k + 3) r' (fun i hi => by have := hr (i + 3) (by omega); rw[show k + 3 + i = k + (i + 3) by omega]; exact this)
      refine⟨?_,fun z hz => ?_⟩
      · simp only[AV.denL,AV.den,Jt]at g1 g3 g5 g7 ⊢
        rw[g1,g3,g5,g7]
      · simp only[VY,List.mem_append]at hz
        rcases hz with (hz | hz | hz) | hz
        · exact g2 z hz
        · exact g4 z hz
        · exact g6 z hz
        · exact g8 z hz
end Go.Proofs.Ytbpffdkemeoajaa
