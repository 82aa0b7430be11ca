/- The reference: small functions (layers 3 and 7). -/
import Derived.Test.YtbpffdkemeoajaaMmze
set_option maxRecDepth 100000
namespace Go.Proofs.Ytbpffdkemeoajaa
open Go.SX
def QFG:Int×Int×Int×Unit→Bool×AV:=fun|(n,(a,(b,_)))=>(true,.bool false (QW n a b))
def QKT:FC:=Qw (Qx QFG)
theorem QQC (n:Int) (a:Int) (b:Int):Qs (mkE Try.prog zt) (hnd (mkE Try.prog zt) 0) false Try.f68 (Qi.enc ((n,a,b,()):Int×Int×Int×Unit)) [] 0 =
  QC.br (decide (a≤n)) (QC.leaf (AV.bool false (decide (n≤b))) ([])) (QC.leaf (AV.bool true false) ([])):=by kernel_rfl
theorem QQY:QM Try.prog 68 QKT:=by
 refine Q2 QI3 0 Try.func68 (by kernel_rfl) (by kernel_rfl) ?_
 rintro ⟨n,a,b,⟨⟩⟩ hp
 rw [QQC n a b]
 simp only [QFG,QC.den,AV.same,AV.sameL,and_true,true_and] at hp ⊢
 (repeat' (first|(refine And.intro ?_ ?_)|(intro _)))<;>simp_all [QW]<;>omega
def G0:Tab:=QX zt 68 QKT
theorem QDS:QU G0:=QI3.add QQY
def QKa:Sp×Sp×Unit→Bool×AV:=fun|(a,(b,_))=>(true,.bool false (com a b))
def QFB:FC:=Qw (Qx QKa)
theorem QSn (a:Sp) (b:Sp):Qs (mkE Try.prog G0) (hnd (mkE Try.prog G0) 0) false Try.f102 (Qi.enc ((a,b,()):Sp×Sp×Unit)) [] 0 =
  QC.br (decide (a.lo≤b.hi)) (QC.leaf (AV.bool false (decide (b.lo≤a.hi))) ([])) (QC.leaf (AV.bool true false) ([])):=by kernel_rfl
theorem QOq:QM Try.prog 102 QFB:=by
 refine Q2 QDS 0 Try.func102 (by kernel_rfl) (by kernel_rfl) ?_
 rintro ⟨a,b,⟨⟩⟩ hp
 rw [QSn a b]
 simp only [QKa,QC.den,AV.same,AV.sameL,and_true,true_and] at hp ⊢
 simp only [com]
 refine ⟨fun h => ?_,fun h => ?_⟩
 ·rw [h];simp
 ·rw [h];simp
def zI:Tab:=QX G0 102 QFB
theorem QFU:QU zI:=QDS.add QOq
def QFI:Edge×Edge×Unit→Bool×AV:=fun|(a,(b,_))=>(true,.bool false (isS a b))
def QIi:FC:=Qw (Qx QFI)
theorem QPM (a:Edge) (b:Edge):Qs (mkE Try.prog zI) (hnd (mkE Try.prog zI) 0) false Try.f88 (Qi.enc ((a,b,()):Edge×Edge×Unit)) [] 0 =
  QC.br (a.kind == b.kind) (QC.br (a.kind == (0:Int)) (QC.leaf (AV.bool true true) ([])) (QC.need (true) (QC.br (com a.at_ b.at_) (QC.need (true) (QC.br (com a.wide
  b.wide) (QC.need (true) (QC.leaf (AV.bool false (com a.deep b.deep)) ([]))) (QC.leaf (AV.bool true false) ([])))) (QC.leaf (AV.bool true false) ([]))))) (QC.leaf (AV.bool
  true false) ([])):=by kernel_rfl
theorem QL3:QM Try.prog 88 QIi:=by
 refine Q2 QFU 0 Try.func88 (by kernel_rfl) (by kernel_rfl) ?_
 rintro ⟨a,b,⟨⟩⟩ hp
 rw [QPM a b]
 simp only [QFI,QC.den,AV.same,AV.sameL,and_true,true_and] at hp ⊢
 simp only [isS,isF]
 generalize com a.at_ b.at_=c1
 generalize com a.wide b.wide=c2
 generalize com a.deep b.deep=c3
 by_cases h:a.kind=b.kind
 ·by_cases h0:b.kind=0
  ·simp [h,h0]
  ·cases c1<;>cases c2<;>cases c3<;>simp [h,h0]
 ·by_cases h0:a.kind=0
  ·have:¬ b.kind=0:=fun e=>h (by rw [h0,e])
   have h':¬ 0=b.kind:=fun e=>this e.symm
   simp [h0,this,h']
  ·simp [h,h0]
def za:Tab:=QX zI 88 QIi
theorem QHJ:QU za:=QFU.add QL3
def QHw:QP×Unit→Bool×AV:=fun|(s,_)=>(true,.bool false s.ok)
def QKQ:FC:=Qw (Qx QHw)
theorem QOp (s:QP):Qs (mkE Try.prog za) (hnd (mkE Try.prog za) 6) false Try.f28 (Qi.enc ((s,()):QP×Unit)) [] 0 =
  QC.need (true) (QC.br (!s.up.ok) (QC.leaf (AV.bool true false) ([])) (QC.need (true) (QC.br (!s.right.ok) (QC.leaf (AV.bool true false) ([])) (QC.need (true) (QC.br
  (!s.down.ok) (QC.leaf (AV.bool true false) ([])) (QC.need (true) (QC.br (!s.left.ok) (QC.leaf (AV.bool true false) ([])) (QC.leaf (AV.bool true true) ([]))))))))):=by kernel_rfl
theorem QLM:QM Try.prog 28 QKQ:=by
 refine Q2 QHJ 6 Try.func28 (by kernel_rfl) (by kernel_rfl) ?_
 rintro ⟨s,⟨⟩⟩ hp
 rw [QOp s]
 simp only [QHw,QC.den,AV.same,AV.sameL,and_true,true_and] at hp ⊢
 simp only [QP.ok]
 cases s.up.ok<;>cases s.right.ok<;>cases s.down.ok<;>cases s.left.ok<;>simp
def Yw:Tab:=QX za 28 QKQ
theorem QCd:QU Yw:=QHJ.add QLM
def qj:WF (Puz×Edge×Edge×Unit):=fun|(d,(a,(b,_)))=>(decide (d.ps.n≤1000),.int false .i64 (Q5 d.play a b).1,[])
def QKl:FC:=wFC qj
theorem QL8 (d:Puz) (a:Edge) (b:Edge):KY (mkE Try.prog Yw) (hnd (mkE Try.prog Yw) 0) Try.f41 (QS.vals 0 ((d,a,b,()):Puz×Edge×Edge×Unit)) (QS.blks 0 ((d,a,b,()):Puz×Edge×Edge×Unit)) 8 =
  QC.need (true) (QC.leaf (AV.int false IntKind.i64 (Q5 d.play a b).1) ([])):=by kernel_rfl
theorem QLH:Kz (mkE Try.prog Yw) (Qm Try.f41) 8 qj (fun x_=>(hnd (mkE Try.prog Yw) 0)):=by
 refine ⟨?_⟩
 rintro ⟨d,⟨a,⟨b,⟨⟩⟩⟩⟩ hp G h1 h2
 exact Qt (QN QCd) 0 G _ h1
theorem QOu:K1 (mkE Try.prog Yw) Try.f41 8 qj (fun x_=>(hnd (mkE Try.prog Yw) 0)):=by
 refine ⟨?_⟩
 rintro ⟨d,⟨a,⟨b,⟨⟩⟩⟩⟩ hp
 refine ⟨⟨rfl,by simp [qj],rfl⟩,⟨?_⟩⟩
 rw [QL8 d a b]
 simp only [qj] at hp
 refine QF rfl (Ki ?_ rfl)
 exact ⟨rfl,rfl⟩
theorem QPL:QM Try.prog 41 QKl:=
 K6 (QN QCd) Try.func41 (by kernel_rfl) (by kernel_rfl) (by decide) QLH QOu
def YE:Tab:=QX Yw 41 QKl
theorem QBn:QU YE:=QCd.add QPL
def Ze:WF (Puz×Int×Int×Unit):=fun|(d,(c,(s,_)))=>(decide ((1≤d.wide∧d.wide≤100)∧(1≤d.high∧d.high≤100)∧(0≤c∧c≤100)),.int false .i64 (QR d.wide d.high c s),[])
def QEK:FC:=wFC Ze
theorem QTf (d:Puz) (c:Int) (s:Int) :KY (mkE Try.prog YE) (hnd (mkE Try.prog YE) 0) Try.f31 (QS.vals 0 ((d,c,s,()):Puz×Int×Int×Unit)) (QS.blks 0 ((d,c,s,()):Puz×Int×Int ×
  Unit)) 8 = .need (!decide (d.wide=(0:Int))) (.need (!decide (d.wide=(0:Int))) (.br (s == (0:Int)) (.br (decide (IntKind.i64.wrap (c.tdiv d.wide) > (0:Int))) (.leaf (.int
  false .i64 (IntKind.i64.wrap (c - d.wide))) ([])) (.br (s == (1:Int)) (.br (decide (c.tmod d.wide < IntKind.i64.wrap (d.wide - (1:Int)))) (.leaf (.int false .i64
  (IntKind.i64.wrap (c + (1:Int)))) ([])) (.br (s == (2:Int)) (.br (decide (IntKind.i64.wrap (c.tdiv d.wide) < IntKind.i64.wrap (d.high - (1:Int)))) (.leaf (.int false .i64
  (IntKind.i64.wrap (c + d.wide))) ([])) (.br (s == (3:Int)) (.br (decide (c.tmod d.wide > (0:Int))) (.leaf (.int false .i64 (IntKind.i64.wrap (c - (1:Int)))) ([])) (.leaf (.int
  true .i64 (-1:Int)) ([]))) (.leaf (.int true .i64 (-1:Int)) ([])))) (.br (s == (3:Int)) (.br (decide (c.tmod d.wide > (0:Int))) (.leaf (.int false .i64 (IntKind.i64.wrap (c
  - (1:Int)))) ([])) (.leaf (.int true .i64 (-1:Int)) ([]))) (.leaf (.int true .i64 (-1:Int)) ([]))))) (.br (s == (2:Int)) (.br (decide (IntKind.i64.wrap (c.tdiv d.wide) <
  IntKind.i64.wrap (d.high - (1:Int)))) (.leaf (.int false .i64 (IntKind.i64.wrap (c + d.wide))) ([])) (.br (s == (3:Int)) (.br (decide (c.tmod d.wide > (0:Int))) (.leaf (.int
  false .i64 (IntKind.i64.wrap (c - (1:Int)))) ([])) (.leaf (.int true .i64 (-1:Int)) ([]))) (.leaf (.int true .i64 (-1:Int)) ([])))) (.br (s == (3:Int)) (.br (decide (c.tmod
  d.wide > (0:Int))) (.leaf (.int false .i64 (IntKind.i64.wrap (c - (1:Int)))) ([])) (.leaf (.int true .i64 (-1:Int)) ([]))) (.leaf (.int true .i64 (-1:Int)) ([])))))) (.br (s
  == (1:Int)) (.br (decide (c.tmod d.wide < IntKind.i64.wrap (d.wide - (1:Int)))) (.leaf (.int false .i64 (IntKind.i64.wrap (c + (1:Int)))) ([])) (.br (s == (2:Int)) (.br
  (decide (IntKind.i64.wrap (c.tdiv d.wide) < IntKind.i64.wrap (d.high - (1:Int)))) (.leaf (.int false .i64 (IntKind.i64.wrap (c + d.wide))) ([])) (.br (s == (3:Int)) (.br (decide
  (c.tmod d.wide > (0:Int))) (.leaf (.int false .i64 (IntKind.i64.wrap (c - (1:Int)))) ([])) (.leaf (.int true .i64 (-1:Int)) ([]))) (.leaf (.int true .i64 (-1:Int)) ([]))))
  (.br (s == (3:Int)) (.br (decide (c.tmod d.wide > (0:Int))) (.leaf (.int false .i64 (IntKind.i64.wrap (c - (1:Int)))) ([])) (.leaf (.int true .i64 (-1:Int)) ([]))) (.leaf
  (.int true .i64 (-1:Int)) ([]))))) (.br (s == (2:Int)) (.br (decide (IntKind.i64.wrap (c.tdiv d.wide) < IntKind.i64.wrap (d.high - (1:Int)))) (.leaf (.int false .i64
  (IntKind.i64.wrap (c + d.wide))) ([])) (.br (s == (3:Int)) (.br (decide (c.tmod d.wide > (0:Int))) (.leaf (.int false .i64 (IntKind.i64.wrap (c - (1:Int)))) ([])) (.leaf (.int
  true .i64 (-1:Int)) ([]))) (.leaf (.int true .i64 (-1:Int)) ([])))) (.br (s == (3:Int)) (.br (decide (c.tmod d.wide > (0:Int))) (.leaf (.int false .i64 (IntKind.i64.wrap (c
  - (1:Int)))) ([])) (.leaf (.int true .i64 (-1:Int)) ([]))) (.leaf (.int true .i64 (-1:Int)) ([]))))))):=by kernel_rfl
theorem QLx:Kz (mkE Try.prog YE) (Qm Try.f31) 8 Ze (fun x_=>(hnd (mkE Try.prog YE) 0)):=by
 refine ⟨?_⟩
 rintro ⟨d,⟨c,⟨s,⟨⟩⟩⟩⟩ hp G h1 h2
 exact Qt (QN QBn) 0 G _ h1
theorem QNb:K1 (mkE Try.prog YE) Try.f31 8 Ze (fun x_=>(hnd (mkE Try.prog YE) 0)):=by
 refine ⟨?_⟩
 rintro ⟨d,⟨c,⟨s,⟨⟩⟩⟩⟩ hp
 refine ⟨⟨rfl,by simp [Ze],rfl⟩,⟨?_⟩⟩
 rw [QTf d c s]
 simp only [Ze] at hp
 obtain ⟨⟨w1,w2⟩,⟨h1,h2⟩,c1,c2⟩:=of_decide_eq_true hp
 have q0:0≤c.tdiv d.wide:=Int.tdiv_nonneg c1 (by omega)
 have q1:c.tdiv d.wide≤c:=by rw [Int.tdiv_eq_ediv_of_nonneg c1];exact Int.ediv_le_self _ c1
 have m0:0≤c.tmod d.wide:=Int.tmod_nonneg _ c1
 have m1:c.tmod d.wide < d.wide:=Int.tmod_lt_of_pos _ (by omega)
 have e1:IntKind.i64.wrap (c.tdiv d.wide)=c.tdiv d.wide:=w64 (by omega) (by omega)
 have e2:IntKind.i64.wrap (c - d.wide)=c - d.wide:=w64 (by omega) (by omega)
 have e3:IntKind.i64.wrap (d.wide - 1)=d.wide - 1:=w64 (by omega) (by omega)
 have e4:IntKind.i64.wrap (c + 1)=c + 1:=w64 (by omega) (by omega)
 have e5:IntKind.i64.wrap (d.high - 1)=d.high - 1:=w64 (by omega) (by omega)
 have e6:IntKind.i64.wrap (c + d.wide)=c + d.wide:=w64 (by omega) (by omega)
 have e7:IntKind.i64.wrap (c - 1)=c - 1:=w64 (by omega) (by omega)
 have dz:(!decide (d.wide=0))=true:=by simp;omega
 rw [e1,e2,e3,e4,e5,e6,e7]
 refine QF dz (QF dz ?_)
 have fin:∀ v:AV,v.same (.int false .i64 (QR d.wide d.high c s))→(QC.leaf v []).den (Vm 8 (Ze (d,c,s,())).2.1 (Ze (d,c,s,())).2.2):=fun v h=>Ki h rfl
 repeat' refine QL (fun _ => ?_) (fun _ => ?_)
 all_goals refine fin _ ?_
 all_goals simp only [AV.same,QR,true_and]
 all_goals grind
theorem QT7:QM Try.prog 31 QEK:=
 K6 (QN QBn) Try.func31 (by kernel_rfl) (by kernel_rfl) (by decide) QLx QNb
def V6:Tab:=QX YE 31 QEK
theorem vL:QU V6:=QBn.add QT7
end Go.Proofs.Ytbpffdkemeoajaa
namespace Go.Proofs.Ytbpffdkemeoajaa
open Go.SX
def Kg (l:Rw QP) (i:Nat):Bool := !(l.get i).ok
def okR (d:Puz):Bool:=d.play.ok&&(QW (d.ps.n:Int) 1 9&&(QW d.wide 1 9&&(QW d.high 1 9&&((IntKind.i64.wrap (d.wide * d.high) == (d.ps.n:Int))&&(QK (Kg d.ps) d.ps.n 0).isNone))))
theorem QKB (p:Qg) (l:Rw QP) (h:1≤l.n):Jg p l=(p.ok&&(QK (Kg l) l.n 0).isNone):=by
 unfold Jg
 cases hp:p.ok with
 | true=>
  have:Kl ⟨p⟩ l=Kg l:=by funext i;simp only [Kl,Kg,hp,Bool.true_and]
  rw [this,Bool.true_and]
 | false=>
  obtain ⟨m,hm⟩:∃ m,l.n=m + 1:=⟨l.n - 1,by omega⟩
  rw [hm,QK]
  simp only [Kl,hp,Bool.false_and,Bool.not_false];rfl
theorem zW (d:Puz):okR d=d.ok:=by
 rw [Bool.eq_iff_iff]
 simp only [okR,Puz.ok,Puz.okN,Bool.and_eq_true,QW,decide_eq_true_eq,beq_iff_eq]
 constructor
 ·rintro ⟨hp,hn,hw,hh,hm,ha⟩
  have m1:d.wide * d.high≤9 * 9:=Int.mul_le_mul hw.2 hh.2 (by omega) (by omega)
  have m0:0≤d.wide * d.high:=Int.mul_nonneg (by omega) (by omega)
  have e:=hm
  rw [w64 (by omega) (by omega)] at e
  have a1:=Int.mul_le_mul_of_nonneg_left (show 1≤d.high from hh.1) (show 0≤d.wide by omega)
  have a2:=Int.mul_le_mul_of_nonneg_right (show 1≤d.wide from hw.1) (show 0≤d.high by omega)
  refine ⟨⟨hn,by omega,by omega,hm⟩,?_⟩
  rw [QKB _ _ (by omega),hp,ha];rfl
 ·rintro ⟨⟨hn,hw,hh,hm⟩,hs⟩
  rw [QKB _ _ (by omega),Bool.and_eq_true] at hs
  exact ⟨hs.1,hn,by omega,by omega,hm,hs.2⟩
def vv (d:Puz) (k:Nat):JSt:=⟨60,[(1,.ptr 8 0 0),(3,.int false .i64 k)],[(8,.cells 0 28 (QES d))]++Qy.blk 0 d.ps,96⟩
def QGH:Ex→List Nat
 | .normal=>[1,3]
 | .exit _=>[]
 | .ret=>[2]
abbrev QDs (d:Puz):List (Nat×Blk):=
  [(8,.cells 0 28 [.int false .i64 d.play.length,.int false .i64 d.play.slack,.int false .i64 d.play.loose,.int false .i64 d.play.damp.lo,.int false .i64 d.play.damp.hi,.int
  false .i64 d.wide,.int false .i64 d.high,.bool false d.turn,.slz 0 0 d.ps.n (Cap.of 0)]),(0,.frz [.int .i64,.int .i64,.int .i64,.int .i64,.int .i64,.int .i64,.int .i64,
  .int .i64,.int .i64,.int .i64,.int .i64,.int .i64,.int .i64,.int .i64,.int .i64,.int .i64,.int .i64,.int .i64,.int .i64,.int .i64,.int .i64,.int .i64,.int .i64,.int
  .i64,.int .i64,.int .i64,.int .i64,.int .i64] d.ps.n fun i=>QB.enc (d.ps.get i))]
theorem QLE (d:Puz) (k:Nat) (g:Nat→Value) :exec (mkE Try.prog V6) (hnd (mkE Try.prog V6) 6) (Qf Try.f40 0) (JSt.inst (vv d k) g) (KT [] QGH) = .br (decide ((↑k:Int) < (↑d.ps.n:Int))) (.need (decide
  ((0:Int)≤(↑k:Int)∧(↑k:Int) < (↑d.ps.n:Int))&&decide (d.ps.n≤d.ps.n)) (.need (decide (k < d.ps.n)) (.need (true) (.br (!(d.ps.get k).up.ok) (.leaf (.tup [.nili,.ptr
  60 0 0,.bool true false]) ([])) (.need (decide ((0:Int)≤(↑k:Int)∧(↑k:Int) < (↑d.ps.n:Int))&&decide (d.ps.n≤d.ps.n)) (.need (decide (k < d.ps.n)) (.need (true) (.br
  (!(d.ps.get k).right.ok) (.leaf (.tup [.nili,.ptr 60 0 0,.bool true false]) ([])) (.need (decide ((0:Int)≤(↑k:Int)∧(↑k:Int) < (↑d.ps.n:Int))&&decide (d.ps.n ≤
  d.ps.n)) (.need (decide (k < d.ps.n)) (.need (true) (.br (!(d.ps.get k).down.ok) (.leaf (.tup [.nili,.ptr 60 0 0,.bool true false]) ([])) (.need (decide ((0:Int)≤(↑k:Int) ∧
  (↑k:Int) < (↑d.ps.n:Int))&&decide (d.ps.n≤d.ps.n)) (.need (decide (k < d.ps.n)) (.need (true) (.br (!(d.ps.get k).left.ok) (.leaf (.tup [.nili,.ptr 60 0 0,.bool true
  false]) ([])) (.leaf (.tup [.nilp,.ptr 60 0 0,.ptr 8 0 0,.int false .i64 (IntKind.i64.wrap ((↑k:Int) + (1:Int)))]) ((QDs d))))))))))))))))))) (.leaf (.tup [.ptr 0 0 0,.ptr
  60 0 0]) ([])):=by kernel_rfl
def W8:JSt:=⟨60,[(2,.bool false false)],[],96⟩
def QCT:JSt:=⟨60,[],[],96⟩
theorem QRq :QO 8 [AV.bool true false] ([]) W8=(
  some [false=false]):=by kernel_rfl
theorem QSE :QO 8 [AV.bool true false] ([]) W8=(
  some [false=false]):=by kernel_rfl
theorem QQA :QO 8 [AV.bool true false] ([]) W8=(
  some [false=false]):=by kernel_rfl
theorem QM7 :QO 8 [AV.bool true false] ([]) W8=(
  some [false=false]):=by kernel_rfl
theorem QTg (d:Puz) (k k':Nat) :QO 8 [.ptr 8 0 0,.int false .i64 (IntKind.i64.wrap ((↑k:Int) + (1:Int)))] ((QDs d)) (vv d k')=( some [0=0,0=0,IntKind.i64.wrap ((↑k:Int) + (1:Int))=(↑k' :
  Int),d.play.length=d.play.length,d.play.slack=d.play.slack,d.play.loose=d.play.loose,d.play.damp.lo=d.play.damp.lo,d.play.damp.hi=d.play.damp.hi,d.wide=d.wide,
  d.high=d.high,d.turn=d.turn,0=0,d.ps.n=d.ps.n,Cap.of 0=Cap.of 0,d.ps.n≤d.ps.n,QD 28 d.ps.n (fun i=>QB.enc (d.ps.get i)) fun i=>QB.enc (d.ps.get i)]):=by kernel_rfl
theorem QTl :QO 8 [] ([]) QCT=(
  some []):=by kernel_rfl
end Go.Proofs.Ytbpffdkemeoajaa
namespace Go.Proofs.Ytbpffdkemeoajaa
open Go.SX
def QHq (d:Puz) (k:Nat) (e:Ex) (J:JSt):Prop:=(e = .ret∧(QK (Kg d.ps) (d.ps.n - k) k).isNone=false∧J=W8)∨(e = .exit 0∧(QK (Kg d.ps) (d.ps.n - k) k).isNone=true∧J=QCT)
theorem QRx (d:Puz) (hl:d.ps.n≤1000):JK (vv d) (fun k=>k≤d.ps.n) (fun k=>d.ps.n - k) (QHq d) 8 QGH [] (mkE Try.prog V6) (fun _=>hnd (mkE Try.prog V6) 6) (Qf Try.f40 0):=by
 refine ⟨fun k g hk=>Zm (QLE d k g) ?_⟩
 refine QL (fun h => ?_) (fun h => ?_)
 ·have h:k < d.ps.n:=by have:=of_decide_eq_true h;omega
  obtain ⟨m,hm⟩:∃ m,d.ps.n - k=m + 1:=⟨d.ps.n - k - 1,by omega⟩
  have hm':d.ps.n - (k + 1)=m:=by omega
  have hA:(decide ((0:Int)≤(k:Int)∧(k:Int) < (d.ps.n:Int))&&decide (d.ps.n≤d.ps.n))=true:=by simp;omega
  have hB:decide (k < d.ps.n)=true:=by simp;omega
  have bad:Kg d.ps k=true→QK (Kg d.ps) (d.ps.n - k) k=some k:=fun q=>by rw [hm,QK,q]
  have go:Kg d.ps k=false→QK (Kg d.ps) (d.ps.n - k) k=QK (Kg d.ps) (d.ps.n - (k + 1)) (k + 1):=fun q=>by rw [hm,hm',QK,q]
  have no:Kg d.ps k=true→(QK (Kg d.ps) (d.ps.n - k) k).isNone=false:=fun q=>by rw [bad q];rfl
  refine QF hA (QF hB (QF rfl (QL (fun h0 => ?_) (fun h0 => ?_))))
  ·have q:Kg d.ps k=true:=by simp only [Bool.not_eq_true'] at h0;simp only [Kg,QP.ok,h0,Bool.false_and,Bool.not_false]
   exact ⟨_,.inl ⟨rfl,no q,rfl⟩,rfl,rfl,_,QRq,⟨rfl,trivial⟩⟩
  refine QF hA (QF hB (QF rfl (QL (fun h1 => ?_) (fun h1 => ?_))))
  ·have q:Kg d.ps k=true:=by simp only [Bool.not_eq_true'] at h1;simp only [Kg,QP.ok,h1,Bool.false_and,Bool.and_false,Bool.not_false]
   exact ⟨_,.inl ⟨rfl,no q,rfl⟩,rfl,rfl,_,QSE,⟨rfl,trivial⟩⟩
  refine QF hA (QF hB (QF rfl (QL (fun h2 => ?_) (fun h2 => ?_))))
  ·have q:Kg d.ps k=true:=by simp only [Bool.not_eq_true'] at h2;simp only [Kg,QP.ok,h2,Bool.false_and,Bool.and_false,Bool.not_false]
   exact ⟨_,.inl ⟨rfl,no q,rfl⟩,rfl,rfl,_,QQA,⟨rfl,trivial⟩⟩
  refine QF hA (QF hB (QF rfl (QL (fun h3 => ?_) (fun h3 => ?_))))
  ·have q:Kg d.ps k=true:=by simp only [Bool.not_eq_true'] at h3;simp only [Kg,QP.ok,h3,Bool.and_false,Bool.not_false]
   exact ⟨_,.inl ⟨rfl,no q,rfl⟩,rfl,rfl,_,QM7,⟨rfl,trivial⟩⟩
  have q:Kg d.ps k=false:=by simp only [Bool.not_eq_false'] at h0 h1 h2 h3;simp only [Kg,QP.ok,h0,h1,h2,h3,Bool.and_self,Bool.not_true]
  have hw:IntKind.i64.wrap ((k:Int) + 1)=((k + 1:Nat):Int):=(w64 (by omega) (by omega)).trans (by omega)
  refine ⟨k + 1,h,by show d.ps.n - (k + 1) < d.ps.n - k;omega,fun e J h=>by unfold QHq at h ⊢;rw [go q];exact h,rfl,rfl,_,QTg d k (k + 1),?_⟩
  repeat' first|exact trivial|with_reducible rfl|exact Nat.le_refl _|exact QD.refl _ _ _|exact hw|refine And.intro ?_ ?_
 ·have h:d.ps.n≤k:=by have:=of_decide_eq_false h;omega
  have hf:QK (Kg d.ps) (d.ps.n - k) k=none:=by rw [show d.ps.n - k=0 by omega];rfl
  exact ⟨_,.inr ⟨rfl,by rw [hf];rfl,rfl⟩,rfl,rfl,_,QTl,trivial⟩
def QOk (d:Puz):List (Prop×Ex×JSt):=[((QK (Kg d.ps) d.ps.n 0).isNone=false,.ret,W8),((QK (Kg d.ps) d.ps.n 0).isNone=true,.exit 0,QCT)]
abbrev zS (P:Program) (d:Puz):Hnd:={ hnd (mkE P V6) 1 with loop:=fun _=>KC 8 [] (vv d (0:Nat)) (QOk d) }
theorem QPC (d:Puz) (hl:d.ps.n≤1000) (G:Ctx) (hrd:G.rd=none) (hG:G.n=8):Q4 (mkE Try.prog V6) G (zS Try.prog d) (Qm Try.f40):=by
 refine JR (body:=Qf Try.f40 0) (QN vL) hrd (by kernel_rfl) ?_
 refine Je (n0:=8) (QN vL) (by omega) (fun s hs=>Qt (QN vL) 6 G _ hrd) (fun s hs=>(by decide:8≤96)) ?_ (QRx d hl) (s0:=0) (Nat.zero_le _) ?_
 ·rintro s e J (⟨_,_,rfl⟩|⟨_,_,rfl⟩)<;>exact (by decide:8≤96)
 ·rintro e J (⟨rfl,h,rfl⟩|⟨rfl,h,rfl⟩)
  ·exact ⟨_,List.mem_cons_self,h,rfl,rfl⟩
  ·exact ⟨_,List.mem_cons_of_mem _ List.mem_cons_self,h,rfl,rfl⟩
def Zq:WF (Puz×Unit):=fun|(d,_)=>(decide (d.ps.n≤1000),.bool false d.ok,[])
def QEQ:FC:=wFC Zq
theorem QQq (d:Puz) :KY (mkE Try.prog V6) (zS Try.prog d) Try.f40 (QS.vals 0 ((d,()):Puz×Unit)) (QS.blks 0 ((d,()):Puz×Unit)) 8 = .need (true) (.br (!d.play.ok) (.leaf (.bool
  true false) ([])) (.need (true) (.br (!QW (↑d.ps.n:Int) (1:Int) (9:Int)) (.leaf (.bool true false) ([])) (.need (true) (.br (!QW d.wide (1:Int) (9:Int)) (.leaf
  (.bool true false) ([])) (.need (true) (.br (!QW d.high (1:Int) (9:Int)) (.leaf (.bool true false) ([])) (.br (IntKind.i64.wrap (d.wide * d.high) != (↑d.ps.n:Int)) (.leaf
  (.bool true false) ([])) (.ask (0=0) (.ask (0=0) (.ask ((0:Int)=(0:Int)) (.ask (d.play.length=d.play.length) (.ask (d.play.slack=d.play.slack) (.ask (d.play.loose =
  d.play.loose) (.ask (d.play.damp.lo=d.play.damp.lo) (.ask (d.play.damp.hi=d.play.damp.hi) (.ask (d.wide=d.wide) (.ask (d.high=d.high) (.ask (d.turn=d.turn) (.ask (0=0)
  (.ask (d.ps.n=d.ps.n) (.ask (Cap.of 0=Cap.of 0) (.ask (d.ps.n≤d.ps.n) (.ask (QD 28 d.ps.n (fun i=>QB.enc (d.ps.get i)) fun i=>QB.enc (d.ps.get i)) (.both (.asm
  ((QK (Kg d.ps) d.ps.n 0).isNone=false) (.all (fun (g0:Nat→Value) => .leaf (.bool false false) ([])))) (.asm ((QK (Kg d.ps) d.ps.n 0).isNone=true) (.all (fun (g1
  : Nat→Value) => .leaf (.bool true true) ([]))))))))))))))))))))))))))))):=by kernel_rfl
theorem QPA:Kz (mkE Try.prog V6) (Qm Try.f40) 8 Zq (fun x_=>(zS Try.prog x_.1)):=by
 refine ⟨?_⟩
 rintro ⟨d,⟨⟩⟩ hp G h1 h2
 exact QPC d (of_decide_eq_true hp) G h1 h2
theorem QTt:K1 (mkE Try.prog V6) Try.f40 8 Zq (fun x_=>(zS Try.prog x_.1)):=by
 refine ⟨?_⟩
 rintro ⟨d,⟨⟩⟩ hp
 refine ⟨⟨rfl,by simp [Zq],rfl⟩,⟨?_⟩⟩
 rw [QQq d]
 simp only [Zq] at hp
 have no:okR d=false→(QC.leaf (AV.bool true false) []).den (Vm 8 (Zq (d,())).2.1 (Zq (d,())).2.2):=fun h=>Ki (show false=d.ok by rw [←zW,h]) rfl
 refine QF rfl (QL (fun h1=>no ?_) (fun h1=>QF rfl (QL (fun h2=>no ?_) (fun h2=>QF rfl (QL (fun h3=>no ?_) (fun h3=>QF rfl (QL (fun h4=>no ?_) (fun h4=>QL (fun h5=>no ?_) (fun h5 => ?_)))))))))
 ·simp only [Bool.not_eq_true'] at h1;simp only [okR,h1,Bool.false_and]
 ·simp only [Bool.not_eq_true'] at h2;simp only [okR,h2,Bool.false_and,Bool.and_false]
 ·simp only [Bool.not_eq_true'] at h3;simp only [okR,h3,Bool.false_and,Bool.and_false]
 ·simp only [Bool.not_eq_true'] at h4;simp only [okR,h4,Bool.false_and,Bool.and_false]
 ·have h5:(IntKind.i64.wrap (d.wide * d.high) == (d.ps.n:Int))=false:=by simpa using h5
  simp only [okR,h5,Bool.false_and,Bool.and_false]
 ·have h5:(IntKind.i64.wrap (d.wide * d.high) == (d.ps.n:Int))=true:=by simpa using h5
  simp only [Bool.not_eq_false'] at h1 h2 h3 h4
  repeat' first|refine Qc (show _=_ by with_reducible rfl) ?_|refine Qc (show _≤_ from Nat.le_refl _) ?_|refine Qc (show QD _ _ _ _ from QD.refl _ _ _) ?_
  refine Xc (KQ fun h=>KX fun g => ?_) (KQ fun h=>KX fun g => ?_)
  ·exact Ki (show false=d.ok by rw [←zW];simp only [okR,h,Bool.and_false]) rfl
  ·exact Ki (show true=d.ok by rw [←zW];simp only [okR,h1,h2,h3,h4,h5,h,Bool.and_self]) rfl
theorem QTC:QM Try.prog 40 QEQ:=
 K6 (QN vL) Try.func40 (by kernel_rfl) (by kernel_rfl) (by decide) QPA QTt
def zq:Tab:=QX V6 40 QEQ
theorem QHM:QU zq:=vL.add QTC
end Go.Proofs.Ytbpffdkemeoajaa
namespace Go.SX
open Go Go.RowKit Go.Proofs.Ytbpffdkemeoajaa
def qM:Code→Option Nat
 | .region id _ _=>some id
 | .seq a b=>(match qM a with
  | some x=>some x
  | none=>qM b)
 | .block _ a=>qM a
 | .scope a=>qM a
 | .loop a=>qM a
 | _=>none
def QJT (l:List (Nat×(St→(Ex→St→QC)→QC))) (c:Code):St→(Ex→St→QC)→QC:=match qM c with
 | some r=>(match l.find? (fun p=>Nat.beq p.1 r) with
  | some p=>p.2
  | none => fun _ _ => .fail "a loop that is not told")
 | none => fun _ _ => .fail "a loop without a region"
theorem QH9 {E:Env} (hE:E.Sound) {d:Nat} {G:Ctx} (hG:G.rd=none) {c:Code} {L:Code→St→(Ex→St→QC)→QC} (h:∀ s∈Ke c,JP E G s (L s)):Q4 E G { hnd E d with loop:=L } c:=
 ⟨h,(Qt hE d G c hG).call,(Qt hE d G c hG).yield⟩
end Go.SX
namespace Go.Proofs.Ytbpffdkemeoajaa
open Go.SX
def QB0 (x:QE):List (Nat×Blk):=[(8,.cells 0 50 (JG 0 x))]++K9 0 x
def qm (x:QE) (k:Nat):JSt:=⟨97,[(1,.ptr 8 0 0),(3,.int false .i64 k)],QB0 x,96⟩
def jv (x:QE) (k:Nat):JSt:=⟨97,[(1,.ptr 8 0 0),(4,.int false .i64 k)],QB0 x,96⟩
def QJg:Ex→List Nat
 | .normal=>[1,3]
 | .exit _=>[1]
 | .ret=>[2]
def QGn:Ex→List Nat
 | .normal=>[1,4]
 | .exit _=>[1]
 | .ret=>[2]
def Wp:JSt:=⟨97,[(2,.bool false false)],[],96⟩
def W2 (x:QE):JSt:=⟨97,[(1,.ptr 8 0 0)],QB0 x,96⟩
def QDm:Int×Int×Int×Unit→Bool×AV:=fun|(n,(a,(b,_)))=>(true,.bool false (QW n a b))
def QIO:FC:=Qw (Qx QDm)
theorem QPY (n:Int) (a:Int) (b:Int):Qs (mkE Try.prog zq) (hnd (mkE Try.prog zq) 0) false Try.f63 (Qi.enc ((n,a,b,()):Int×Int×Int×Unit)) [] 0 =
  QC.br (decide (a≤n)) (QC.leaf (AV.bool false (decide (n≤b))) ([])) (QC.leaf (AV.bool true false) ([])):=by kernel_rfl
theorem QMA:QM Try.prog 63 QIO:=by
 refine Q2 QHM 0 Try.func63 (by kernel_rfl) (by kernel_rfl) ?_
 rintro ⟨n,a,b,⟨⟩⟩ hp
 rw [QPY n a b]
 simp only [QDm,QC.den,AV.same,AV.sameL,and_true,true_and] at hp ⊢
 (repeat' (first|(refine And.intro ?_ ?_)|(intro _)))<;>simp_all [QW]<;>omega
def Jf:Tab:=QX zq 63 QIO
theorem ZL:QU Jf:=QHM.add QMA
end Go.Proofs.Ytbpffdkemeoajaa
namespace Go.Proofs.Ytbpffdkemeoajaa
open Go.SX
noncomputable abbrev QGc (k:Nat):List AV:=
  [.nilp,.ptr 97 0 0,.ptr 8 0 0,.int false .i64 (IntKind.i64.wrap ((↑k:Int) + (1:Int)))]
noncomputable abbrev QHn:List CK:=
  [.int .i64,.int .i64,.int .i64,.int .i64,.int .i64,.int .i64,.int .i64,.int .i64,.int .i64,.int .i64,.int .i64,.int .i64,.int .i64,.int .i64,.int .i64,.int .i64,.int
  .i64,.int .i64,.int .i64,.int .i64,.int .i64,.int .i64,.int .i64,.int .i64,.int .i64,.int .i64,.int .i64,.int .i64]
noncomputable abbrev YF (x:QE):List (Nat×Blk):=
  [(8,.cells 0 50 [.int false .i64 x.d.play.length,.int false .i64 x.d.play.slack,.int false .i64 x.d.play.loose,.int false .i64 x.d.play.damp.lo,.int false .i64
  x.d.play.damp.hi,.int false .i64 x.d.wide,.int false .i64 x.d.high,.bool false x.d.turn,.slz 0 0 x.d.ps.n (Cap.of 0),.slz 1 0 x.scans.n (Cap.of 0),.slz 2 0 x.hang.n (Cap.of
  0),.int false .i64 x.lost,.int false .i64 x.foreign]),(0,.frz QHn x.d.ps.n fun i=>QB.enc (x.d.ps.get i)),(1,.frz QHn x.scans.n fun i=>QB.enc (x.scans.get i)),(2,
  .frz [.int .i64,.int .i64,.int .i64,.int .i64] x.hang.n fun i=>QB.enc (x.hang.get i))]
theorem QRK (x:QE) (k:Nat) (g:Nat→Value) :exec (mkE Try.prog Jf) (hnd (mkE Try.prog Jf) 6) (Qf Try.f35 0) (JSt.inst (qm x k) g) (KT [] QJg) = .br (decide ((↑k:Int) < (↑x.scans.n:Int))) (.need
  (decide ((0:Int)≤(↑k:Int)∧(↑k:Int) < (↑x.scans.n:Int))&&decide (x.scans.n≤x.scans.n)) (.need (decide (k < x.scans.n)) (.need (true) (.br (!(x.scans.get k).ok) (.leaf
  (.tup [.nili,.ptr 97 0 0,.bool true false]) ([])) (.leaf (.tup (QGc k)) ((YF x))))))) (.leaf (.tup [.ptr 0 0 0,.ptr 97 0 0,.ptr 8 0 0]) ((YF x))):=by kernel_rfl
theorem QNf (x:QE) (k:Nat) (g:Nat→Value) :exec (mkS Try.prog Jf) (hnd (mkS Try.prog Jf) 6) (Qf Try.f35 1) (JSt.inst (jv x k) g) (KT [] QGn) = .br (decide ((↑k:Int) < (↑x.hang.n:Int))) (.need
  (decide ((0:Int)≤(↑k:Int)∧(↑k:Int) < (↑x.hang.n:Int))&&decide (x.hang.n≤x.hang.n)) (.need (decide (k < x.hang.n)) (.need (true) (.need (!!!QW (x.hang.get k).a (0
  : Int) (IntKind.i64.wrap ((↑x.scans.n:Int) - (1:Int))) || !!QW (x.hang.get k).a (0:Int) (IntKind.i64.wrap ((↑x.scans.n:Int) - (1:Int)))) (.need (!!!QW (x.hang.get
  k).a (0:Int) (IntKind.i64.wrap ((↑x.scans.n:Int) - (1:Int))) || !!QW (x.hang.get k).a (0:Int) (IntKind.i64.wrap ((↑x.scans.n:Int) - (1:Int)))) (.need (!!!QW
  (x.hang.get k).a (0:Int) (IntKind.i64.wrap ((↑x.scans.n:Int) - (1:Int))) || !!QW (x.hang.get k).a (0:Int) (IntKind.i64.wrap ((↑x.scans.n:Int) - (1:Int)))) (.need
  (!!!QW (x.hang.get k).a (0:Int) (IntKind.i64.wrap ((↑x.scans.n:Int) - (1:Int))) || !!QW (x.hang.get k).a (0:Int) (IntKind.i64.wrap ((↑x.scans.n:Int) - (1:Int))))
  (.need (!!!QW (x.hang.get k).a (0:Int) (IntKind.i64.wrap ((↑x.scans.n:Int) - (1:Int)))||true&&(!!QW (x.hang.get k).a (0:Int) (IntKind.i64.wrap ((↑x.scans.n :
  Int) - (1:Int))) && !!QW (x.hang.get k).a (0:Int) (IntKind.i64.wrap ((↑x.scans.n:Int) - (1:Int))))) (.need (!!!QW (x.hang.get k).a (0:Int) (IntKind.i64.wrap
  ((↑x.scans.n:Int) - (1:Int))) || !!QW (x.hang.get k).a (0:Int) (IntKind.i64.wrap ((↑x.scans.n:Int) - (1:Int)))) (.need (!QW (x.hang.get k).a (0:Int)
  (IntKind.i64.wrap ((↑x.scans.n:Int) - (1:Int))) || !!QW (x.hang.get k).a (0:Int) (IntKind.i64.wrap ((↑x.scans.n:Int) - (1:Int)))) (.bnd (!QW (x.hang.get k).a (0 :
  Int) (IntKind.i64.wrap ((↑x.scans.n:Int) - (1:Int))) || !QW (x.hang.get k).b (0:Int) (IntKind.i64.wrap ((↑x.scans.n:Int) - (1:Int)))) (fun (x0:Bool) => .need (!!x0
  || !x0) (.need (!!x0 || !x0) (.need (!!x0 || !x0 && !x0) (.need (x0 || !x0) (.bnd (x0||(x.hang.get k).a == (x.hang.get k).b) (fun (x1:Bool) => .need (!!x1 || !x1) (.need (!!x1
  || true && !x1) (.need (!!x1 || !x1) (.need (x1 || !x1) (.bnd (x1 || !QW (x.hang.get k).i (0:Int) (3:Int)) (fun (x2:Bool) => .need (!!x2 || !x2) (.need (!!x2||true &&
  !x2) (.need (!!x2 || !x2) (.need (x2 || !x2) (.bnd (x2 || !QW (x.hang.get k).j (0:Int) (3:Int)) (fun (x3:Bool) => .br (x3) (.leaf (.tup [.nili,.ptr 97 0 0,.bool true
  false]) ([])) (.leaf (.tup (QGc k)) ((YF x)))))))))))))))))))))))))))))) (.leaf (.tup [.ptr 2 0 0,.ptr 97 0 0,.ptr 8 0 0]) ((YF x))):=by kernel_rfl
theorem QTU :QO 8 [AV.bool true false] ([]) Wp=(
  some [false=false]):=by kernel_rfl
noncomputable abbrev QIE (k:Nat) (k':Nat) (x:QE):List Prop:=
  [0=0,0=0,IntKind.i64.wrap ((↑k:Int) + (1:Int))=(↑k':Int),x.d.play.length=x.d.play.length,x.d.play.slack=x.d.play.slack,x.d.play.loose=x.d.play.loose,
  x.d.play.damp.lo=x.d.play.damp.lo,x.d.play.damp.hi=x.d.play.damp.hi,x.d.wide=x.d.wide,x.d.high=x.d.high,x.d.turn=x.d.turn,0=0,x.d.ps.n=x.d.ps.n,Cap.of 0 =
  Cap.of 0,0=0,x.scans.n=x.scans.n,Cap.of 0=Cap.of 0,0=0,x.hang.n=x.hang.n,Cap.of 0=Cap.of 0,x.lost=x.lost,x.foreign=x.foreign,x.d.ps.n≤x.d.ps.n,QD 28
  x.d.ps.n (fun i=>QB.enc (x.d.ps.get i)) fun i=>QB.enc (x.d.ps.get i),x.scans.n≤x.scans.n,QD 28 x.scans.n (fun i=>QB.enc (x.scans.get i)) fun i=>QB.enc
  (x.scans.get i),x.hang.n≤x.hang.n,QD 4 x.hang.n (fun i=>QB.enc (x.hang.get i)) fun i=>QB.enc (x.hang.get i)]
theorem QR9 (x:QE) (k k':Nat) :QO 8 [.ptr 8 0 0,.int false .i64 (IntKind.i64.wrap ((↑k:Int) + (1:Int)))] ((YF x)) (qm x k')=( some (QIE k k' x)):=by kernel_rfl
noncomputable abbrev QFQ (x:QE):List Prop:=
  [0=0,0=0,x.d.play.length=x.d.play.length,x.d.play.slack=x.d.play.slack,x.d.play.loose=x.d.play.loose,x.d.play.damp.lo=x.d.play.damp.lo,x.d.play.damp.hi =
  x.d.play.damp.hi,x.d.wide=x.d.wide,x.d.high=x.d.high,x.d.turn=x.d.turn,0=0,x.d.ps.n=x.d.ps.n,Cap.of 0=Cap.of 0,0=0,x.scans.n=x.scans.n,Cap.of 0=Cap.of 0,
  0=0,x.hang.n=x.hang.n,Cap.of 0=Cap.of 0,x.lost=x.lost,x.foreign=x.foreign,x.d.ps.n≤x.d.ps.n,QD 28 x.d.ps.n (fun i=>QB.enc (x.d.ps.get i)) fun i=>QB.enc
  (x.d.ps.get i),x.scans.n≤x.scans.n,QD 28 x.scans.n (fun i=>QB.enc (x.scans.get i)) fun i=>QB.enc (x.scans.get i),x.hang.n≤x.hang.n,QD 4 x.hang.n (fun i=>
  QB.enc (x.hang.get i)) fun i=>QB.enc (x.hang.get i)]
theorem QNM (x:QE) :QO 8 [.ptr 8 0 0] ((YF x)) (W2 x)=( some (QFQ x)):=by kernel_rfl
theorem QO1 :QO 8 [AV.bool true false] ([]) Wp=(
  some [false=false]):=by kernel_rfl
theorem QRc (x:QE) (k k':Nat) :QO 8 [.ptr 8 0 0,.int false .i64 (IntKind.i64.wrap ((↑k:Int) + (1:Int)))] ((YF x)) (jv x k')=( some (QIE k k' x)):=by kernel_rfl
theorem QLb (x:QE) :QO 8 [.ptr 8 0 0] ((YF x)) (W2 x)=( some (QFQ x)):=by kernel_rfl
def XS (x:QE) (k:Nat):Bool := !(x.scans.get k).ok
def QHZ (x:QE) (k:Nat) (e:Ex) (J:JSt):Prop:=(e = .ret∧(QK (XS x) (x.scans.n - k) k).isNone=false∧J=Wp)∨(e = .exit 0∧(QK (XS x) (x.scans.n - k) k).isNone=true∧J=W2 x)
def QFc (x:QE) (k:Nat) (e:Ex) (J:JSt):Prop:=(e = .ret∧(QK (Km x) (x.hang.n - k) k).isNone=false∧J=Wp)∨(e = .exit 2∧(QK (Km x) (x.hang.n - k) k).isNone=true∧J=W2 x)
theorem QD8 {f:Nat→Bool} {n k:Nat} (h:k < n) (q:f k=true):(QK f (n - k) k).isNone=false:=by
 obtain ⟨m,hm⟩:∃ m,n - k=m + 1:=⟨n - k - 1,by omega⟩
 rw [hm,QK,q];rfl
theorem QFs {f:Nat→Bool} {n k:Nat} (h:k < n) (q:f k=false):QK f (n - k) k=QK f (n - (k + 1)) (k + 1):=by
 obtain ⟨m,hm⟩:∃ m,n - k=m + 1:=⟨n - k - 1,by omega⟩
 rw [hm,show n - (k + 1)=m by omega,QK,q]
theorem QFy {f:Nat→Bool} {n k:Nat} (h:n≤k):(QK f (n - k) k).isNone=true:=by
 rw [show n - k=0 by omega];rfl
theorem QQ4 (x:QE) (hl:x.scans.n≤1000):JK (qm x) (fun k=>k≤x.scans.n) (fun k=>x.scans.n - k) (QHZ x) 8 QJg [] (mkE Try.prog Jf) (fun _=>hnd (mkE Try.prog Jf) 6) (Qf Try.f35 0):=by
 refine ⟨fun k g hk=>KF (QRK x k g) ?_⟩
 refine QL (fun h => ?_) (fun h => ?_)
 ·have h:k < x.scans.n:=by have:=of_decide_eq_true h;omega
  refine QF (by simp;omega) (QF (by simp;omega) (QF rfl (QL (fun q => ?_) (fun q => ?_))))
  ·exact ⟨_,.inl ⟨rfl,QD8 h q,rfl⟩,rfl,rfl,_,QTU,⟨rfl,trivial⟩⟩
  ·refine ⟨k + 1,h,by show x.scans.n - (k + 1) < x.scans.n - k;omega,fun e J r=>by unfold QHZ at r ⊢;rw [QFs h q];exact r,rfl,rfl,_,QR9 x k (k + 1),?_⟩
   repeat' first|exact trivial|with_reducible rfl|exact Nat.le_refl _|exact QD.refl _ _ _|exact Xo h hl|refine And.intro ?_ ?_
 ·have h:x.scans.n≤k:=by have:=of_decide_eq_false h;omega
  refine ⟨_,.inr ⟨rfl,QFy h,rfl⟩,rfl,rfl,_,QNM x,?_⟩
  repeat' first|exact trivial|with_reducible rfl|exact Nat.le_refl _|exact QD.refl _ _ _|refine And.intro ?_ ?_
theorem QOO (x:QE) (hl:x.hang.n≤1000):JK (jv x) (fun k=>k≤x.hang.n) (fun k=>x.hang.n - k) (QFc x) 8 QGn [] (mkS Try.prog Jf) (fun _=>hnd (mkS Try.prog Jf) 6) (Qf Try.f35 1):=by
 refine ⟨fun k g hk=>KF (QNf x k g) ?_⟩
 refine QL (fun h => ?_) (fun h => ?_)
 ·have h:k < x.hang.n:=by have:=of_decide_eq_true h;omega
  refine QF (by simp;omega) (QF (by simp;omega) ?_)
  have hb:Km x k=(!QW (x.hang.get k).a 0 (IntKind.i64.wrap ((x.scans.n:Int) - 1))||(!QW (x.hang.get k).b 0 (IntKind.i64.wrap ((x.scans.n:Int) - 1))||(((x.hang.get k).a == (x.hang.get k).b)||(!QW (x.hang.get k).i 0 3 || !QW (x.hang.get k).j 0 3)))):=rfl
  generalize QW (x.hang.get k).a 0 (IntKind.i64.wrap ((x.scans.n:Int) - 1))=w1 at hb ⊢
  generalize QW (x.hang.get k).b 0 (IntKind.i64.wrap ((x.scans.n:Int) - 1))=w2 at hb ⊢
  generalize ((x.hang.get k).a == (x.hang.get k).b)=w3 at hb ⊢
  generalize QW (x.hang.get k).i 0 3=w4 at hb ⊢
  generalize QW (x.hang.get k).j 0 3=w5 at hb ⊢
  repeat' first|refine QF rfl ?_|refine QF (by grind) ?_|refine Jc fun z hz => ?_
  refine QL (fun q => ?_) (fun q => ?_)
  ·exact ⟨_,.inl ⟨rfl,QD8 h (by grind),rfl⟩,rfl,rfl,_,QO1,⟨rfl,trivial⟩⟩
  ·refine ⟨k + 1,h,by show x.hang.n - (k + 1) < x.hang.n - k;omega,fun e J r=>by unfold QFc at r ⊢;rw [QFs h (by grind)];exact r,rfl,rfl,_,QRc x k (k + 1),?_⟩
   repeat' first|exact trivial|with_reducible rfl|exact Nat.le_refl _|exact QD.refl _ _ _|exact Xo h hl|refine And.intro ?_ ?_
 ·have h:x.hang.n≤k:=by have:=of_decide_eq_false h;omega
  refine ⟨_,.inr ⟨rfl,QFy h,rfl⟩,rfl,rfl,_,QLb x,?_⟩
  repeat' first|exact trivial|with_reducible rfl|exact Nat.le_refl _|exact QD.refl _ _ _|refine And.intro ?_ ?_
def QFd (x:QE):List (Prop×Ex×JSt):=[((QK (XS x) x.scans.n 0).isNone=false,.ret,Wp),((QK (XS x) x.scans.n 0).isNone=true,.exit 0,W2 x)]
def QD1 (x:QE):List (Prop×Ex×JSt):=[((QK (Km x) x.hang.n 0).isNone=false,.ret,Wp),((QK (Km x) x.hang.n 0).isNone=true,.exit 2,W2 x)]
abbrev QDB (x:QE):Code→St→(Ex→St→QC)→QC:=QJT [(4,KC 8 [] (qm x (0:Nat)) (QFd x)),(9,KC 8 [] (jv x (0:Nat)) (QD1 x))]
abbrev G6 (P:Program) (x:QE):Hnd:={ hnd (mkS P Jf) 1 with loop:=QDB x }
theorem QNZ (x:QE) (hs:x.scans.n≤1000) (hh:x.hang.n≤1000) (G:Ctx) (hrd:G.rd=none) (hG:G.n=8):Q4 (mkS Try.prog Jf) G (G6 Try.prog x) (Qm Try.f35):=by
 refine QH9 (YY ZL) hrd fun c hc => ?_
 have he:Ke (Qm Try.f35)=[.loop (Qf Try.f35 0),.loop (Qf Try.f35 1)]:=by kernel_rfl
 rw [he] at hc
 simp only [List.mem_cons,List.not_mem_nil,or_false] at hc
 rcases hc with rfl|rfl
 ·have e1:QDB x (.loop (Qf Try.f35 0))=KC 8 [] (qm x (0:Nat)) (QFd x):=by kernel_rfl
  rw [e1]
  refine WC (E:=mkE Try.prog Jf) rfl (Je (n0:=8) (QN ZL) (by omega) (fun s hs=>Qt (QN ZL) 6 G _ hrd) (fun s hs=>(by decide:8≤96)) ?_ (QQ4 x hs) (s0:=0) (Nat.zero_le _) ?_)
  ·rintro s e J (⟨_,_,rfl⟩|⟨_,_,rfl⟩)<;>exact (by decide:8≤96)
  ·rintro e J (⟨rfl,h,rfl⟩|⟨rfl,h,rfl⟩)
   ·exact ⟨_,List.mem_cons_self,h,rfl,rfl⟩
   ·exact ⟨_,List.mem_cons_of_mem _ List.mem_cons_self,h,rfl,rfl⟩
 ·have e1:QDB x (.loop (Qf Try.f35 1))=KC 8 [] (jv x (0:Nat)) (QD1 x):=by kernel_rfl
  rw [e1]
  refine Je (n0:=8) (YY ZL) (by omega) (fun s hs=>Qt (YY ZL) 6 G _ hrd) (fun s hs=>(by decide:8≤96)) ?_ (QOO x hh) (s0:=0) (Nat.zero_le _) ?_
  ·rintro s e J (⟨_,_,rfl⟩|⟨_,_,rfl⟩)<;>exact (by decide:8≤96)
  ·rintro e J (⟨rfl,h,rfl⟩|⟨rfl,h,rfl⟩)
   ·exact ⟨_,List.mem_cons_self,h,rfl,rfl⟩
   ·exact ⟨_,List.mem_cons_of_mem _ List.mem_cons_self,h,rfl,rfl⟩
end Go.Proofs.Ytbpffdkemeoajaa
namespace Go.Proofs.Ytbpffdkemeoajaa
open Go.SX
theorem QMa {d:Puz} (h:d.ok=true):d.play.ok=true:=by
 rw [←zW] at h
 simp only [okR,Bool.and_eq_true] at h
 exact h.1
theorem QP0 {x:QE} (h:x.d.ok=true):Jg x.d.play x.scans=(QK (XS x) x.scans.n 0).isNone:=by
 unfold Jg
 have:Kl ⟨x.d.play⟩ x.scans=XS x:=by
  funext k
  simp only [Kl,XS,QMa h,Bool.true_and]
 rw [this]
def okQ (x:QE):Bool := !(((((!x.d.ok||decide ((x.scans.n:Int) > 12))||decide ((x.hang.n:Int) > 12)) || !QW x.lost 0 9) || !QW x.foreign 0 3))&&((QK (XS x) x.scans.n 0).isNone&&(QK (Km x) x.hang.n 0).isNone)
theorem QT0 (x:QE):okQ x=x.ok:=by
 unfold okQ QE.ok QE.sz jxO
 cases h:x.d.ok with
 | false=>simp
 | true=>
  rw [QP0 h,QBF]
  by_cases h1:(x.scans.n:Int) > 12<;>by_cases h2:(x.hang.n:Int) > 12<;>cases QW x.lost 0 9<;>cases QW x.foreign 0 3<;>simp_all<;>omega
def ZK:WF (QE×Unit):=fun|(x,_)=>(decide (x.d.ps.n≤1000∧x.scans.n≤1000∧x.hang.n≤1000),.bool false x.ok,[])
def QII:FC:=wFC ZK
theorem QQr (x:QE) :KY (mkS Try.prog Jf) (G6 Try.prog x) Try.f35 (QS.vals 0 ((x,()):QE×Unit)) (QS.blks 0 ((x,()):QE×Unit)) 8 = .need (decide (x.d.ps.n≤x.d.ps.n)&&true
  && decide (x.d.ps.n≤1000)) (.need (!!!x.d.ok || !!x.d.ok) (.need (!!!x.d.ok || !!x.d.ok) (.need (!!!x.d.ok || !!x.d.ok) (.need (!x.d.ok || !!x.d.ok) (.bnd (!x.d.ok||decide
  ((↑x.scans.n:Int) > (12:Int))) (fun (x0:Bool) => .need (!!x0 || !x0) (.need (!!x0 || !x0) (.need (!!x0 || !x0) (.need (x0 || !x0) (.bnd (x0||decide ((↑x.hang.n:Int) > (12
  : Int))) (fun (x1:Bool) => .need (!!x1 || !x1) (.need (!!x1||true && !x1) (.need (!!x1 || !x1) (.need (x1 || !x1) (.bnd (x1 || !QW x.lost (0:Int) (9:Int)) (fun (x2 :
  Bool) => .need (!!x2 || !x2) (.need (!!x2||true && !x2) (.need (!!x2 || !x2) (.need (x2 || !x2) (.bnd (x2 || !QW x.foreign (0:Int) (3:Int)) (fun (x3:Bool) => .br (x3)
  (.leaf (.bool true false) ([])) (.ask (0=0) (.ask (0=0) (.ask ((0:Int)=(0:Int)) (.ask (x.d.play.length=x.d.play.length) (.ask (x.d.play.slack=x.d.play.slack) (.ask
  (x.d.play.loose=x.d.play.loose) (.ask (x.d.play.damp.lo=x.d.play.damp.lo) (.ask (x.d.play.damp.hi=x.d.play.damp.hi) (.ask (x.d.wide=x.d.wide) (.ask (x.d.high=x.d.high)
  (.ask (x.d.turn=x.d.turn) (.ask (0=0) (.ask (x.d.ps.n=x.d.ps.n) (.ask (Cap.of 0=Cap.of 0) (.ask (0=0) (.ask (x.scans.n=x.scans.n) (.ask (Cap.of 0=Cap.of 0) (.ask (0 =
  0) (.ask (x.hang.n=x.hang.n) (.ask (Cap.of 0=Cap.of 0) (.ask (x.lost=x.lost) (.ask (x.foreign=x.foreign) (.ask (x.d.ps.n≤x.d.ps.n) (.ask (QD 28 x.d.ps.n (fun i=>
  QB.enc (x.d.ps.get i)) fun i=>QB.enc (x.d.ps.get i)) (.ask (x.scans.n≤x.scans.n) (.ask (QD 28 x.scans.n (fun i=>QB.enc (x.scans.get i)) fun i=>QB.enc
  (x.scans.get i)) (.ask (x.hang.n≤x.hang.n) (.ask (QD 4 x.hang.n (fun i=>QB.enc (x.hang.get i)) fun i=>QB.enc (x.hang.get i)) (.both (.asm ((QK (XS x) x.scans.n
  0).isNone=false) (.all (fun (g4:Nat→Value) => .leaf (.bool false false) ([])))) (.asm ((QK (XS x) x.scans.n 0).isNone=true) (.all (fun (g5:Nat→Value) => .ask (0 =
  0) (.ask (0=0) (.ask ((0:Int)=(0:Int)) (.ask (x.d.play.length=x.d.play.length) (.ask (x.d.play.slack=x.d.play.slack) (.ask (x.d.play.loose=x.d.play.loose) (.ask
  (x.d.play.damp.lo=x.d.play.damp.lo) (.ask (x.d.play.damp.hi=x.d.play.damp.hi) (.ask (x.d.wide=x.d.wide) (.ask (x.d.high=x.d.high) (.ask (x.d.turn=x.d.turn) (.ask (0=0)
  (.ask (x.d.ps.n=x.d.ps.n) (.ask (Cap.of 0=Cap.of 0) (.ask (0=0) (.ask (x.scans.n=x.scans.n) (.ask (Cap.of 0=Cap.of 0) (.ask (0=0) (.ask (x.hang.n=x.hang.n) (.ask
  (Cap.of 0=Cap.of 0) (.ask (x.lost=x.lost) (.ask (x.foreign=x.foreign) (.ask (x.d.ps.n≤x.d.ps.n) (.ask (QD 28 x.d.ps.n (fun i=>QB.enc (x.d.ps.get i)) fun i=>
  QB.enc (x.d.ps.get i)) (.ask (x.scans.n≤x.scans.n) (.ask (QD 28 x.scans.n (fun i=>QB.enc (x.scans.get i)) fun i=>QB.enc (x.scans.get i)) (.ask (x.hang.n≤x.hang.n)
  (.ask (QD 4 x.hang.n (fun i=>QB.enc (x.hang.get i)) fun i=>QB.enc (x.hang.get i)) (.both (.asm ((QK (Km x) x.hang.n 0).isNone=false) (.all (fun (g6:Nat →
  Value) => .leaf (.bool false false) ([])))) (.asm ((QK (Km x) x.hang.n 0).isNone=true) (.all (fun (g7:Nat→Value) => .leaf (.bool true true)
  ([]))))))))))))))))))))))))))))))))))))))))))))))))))))))))))))))))))))))))))))))))))))):=by kernel_rfl
theorem QRy:Kz (mkS Try.prog Jf) (Qm Try.f35) 8 ZK (fun x_=>(G6 Try.prog x_.1)):=by
 refine ⟨?_⟩
 rintro ⟨x,⟨⟩⟩ hp G h1 h2
 exact QNZ x (of_decide_eq_true hp).2.1 (of_decide_eq_true hp).2.2 G h1 h2
theorem QT8:K1 (mkS Try.prog Jf) Try.f35 8 ZK (fun x_=>(G6 Try.prog x_.1)):=by
 refine ⟨?_⟩
 rintro ⟨x,⟨⟩⟩ hp
 refine ⟨⟨rfl,by simp [ZK],rfl⟩,⟨?_⟩⟩
 rw [QQr x]
 simp only [ZK] at hp
 obtain ⟨hn,_,_⟩:=of_decide_eq_true hp
 have end_:∀ {z:Bool} {b:Bool},okQ x=b→(QC.leaf (AV.bool z b) []).den (Vm 8 (ZK (x,())).2.1 (ZK (x,())).2.2):=fun {z b} h=>Ki (show b=x.ok by rw [←QT0];exact h.symm) rfl
 refine QF (by simp;omega) ?_
 unfold okQ at end_
 generalize x.d.ok=b0 at end_ ⊢
 generalize decide ((x.scans.n:Int) > 12)=b1 at end_ ⊢
 generalize decide ((x.hang.n:Int) > 12)=b2 at end_ ⊢
 generalize QW x.lost 0 9=b3 at end_ ⊢
 generalize QW x.foreign 0 3=b4 at end_ ⊢
 repeat' first|refine QF rfl ?_|refine QF (by grind) ?_|refine Jc fun z hz => ?_
 refine QL (fun q=>end_ (by grind)) (fun q => ?_)
 repeat' first|refine Qc (show _=_ by with_reducible rfl) ?_|refine Qc (show _≤_ from Nat.le_refl _) ?_|refine Qc (show QD _ _ _ _ from QD.refl _ _ _) ?_
 refine Xc (KQ fun h=>KX fun g=>end_ (by grind)) (KQ fun h=>KX fun g => ?_)
 repeat' first|refine Qc (show _=_ by with_reducible rfl) ?_|refine Qc (show _≤_ from Nat.le_refl _) ?_|refine Qc (show QD _ _ _ _ from QD.refl _ _ _) ?_
 refine Xc (KQ fun h2=>KX fun g=>end_ (by grind)) (KQ fun h2=>KX fun g=>end_ (by grind))
theorem QPE:QM Try.prog 35 QII:=
 K6 (YY ZL) Try.func35 (by kernel_rfl) (by kernel_rfl) (by decide) QRy QT8
def Yy:Tab:=QX Jf 35 QII
theorem QBG:QU Yy:=ZL.add QPE
def WB (x:QE) (c s:Int):Bool:=decide ((x.d.ps.n:Int) > 14)||(decide ((x.scans.n:Int) > 18)||(decide ((x.hang.n:Int) > 18)||(x.ok&&(decide ((x.d.ps.n:Int) > c)||decide ((x.scans.n:Int) > s)))))
def ZF:WF (QE×Int×Int×Unit):=fun|(x,(c,(s,_)))=>(true,.bool false (WB x c s),[])
def QFF:FC:=wFC ZF
theorem QK5 (x:QE) (c:Int) (s:Int) :KY (mkS Try.prog Yy) (hnd (mkS Try.prog Yy) 1) Try.f34 (QS.vals 0 ((x,c,s,()):QE×Int×Int×Unit)) (QS.blks 0 ((x,c,s,()):QE×Int×Int×Unit))
  8 = .need (!!decide ((↑x.d.ps.n:Int) > (14:Int)) || !decide ((↑x.d.ps.n:Int) > (14:Int))) (.need (!!decide ((↑x.d.ps.n:Int) > (14:Int)) || !decide ((↑x.d.ps.n:Int) >
  (14:Int))) (.need (!!decide ((↑x.d.ps.n:Int) > (14:Int)) || !decide ((↑x.d.ps.n:Int) > (14:Int))) (.need (decide ((↑x.d.ps.n:Int) > (14:Int)) || !decide ((↑x.d.ps.n :
  Int) > (14:Int))) (.bnd (decide ((↑x.d.ps.n:Int) > (14:Int))||decide ((↑x.scans.n:Int) > (18:Int))) (fun (x0:Bool) => .need (!!x0 || !x0) (.need (!!x0 || !x0) (.need
  (!!x0 || !x0) (.need (x0 || !x0) (.bnd (x0||decide ((↑x.hang.n:Int) > (18:Int))) (fun (x1:Bool) => .need (!!x1||decide (x.d.ps.n≤x.d.ps.n)&&(decide (x.scans.n ≤
  x.scans.n)&&(decide (x.hang.n≤x.hang.n)&&true))&&decide (x.d.ps.n≤1000∧x.scans.n≤1000∧x.hang.n≤1000) && !x1) (.need (!!x1 || !x1) (.need (!(!x1&&x.ok) || !x1 &&
  x.ok) (.need (!(!x1&&x.ok) || !x1&&x.ok) (.need (!(!x1&&x.ok) || !x1&&x.ok) (.need (!(!x1&&x.ok) || !x1&&x.ok&&(!x1&&x.ok)) (.need (!(!x1&&x.ok) || !x1&&x.ok)
  (.need (!(!x1&&x.ok && !decide ((↑x.d.ps.n:Int) > c)) || !x1&&x.ok && !decide ((↑x.d.ps.n:Int) > c)) (.need (!(!x1&&x.ok && !decide ((↑x.d.ps.n:Int) > c)) || !x1&&x.ok
  && !decide ((↑x.d.ps.n:Int) > c)) (.need (!(!x1&&x.ok && !decide ((↑x.d.ps.n:Int) > c)) || !x1&&x.ok && !decide ((↑x.d.ps.n:Int) > c)&&(!x1&&x.ok && !decide
  ((↑x.d.ps.n:Int) > c))) (.need (!(!x1&&x.ok) || !x1&&x.ok&&(decide ((↑x.d.ps.n:Int) > c) || !x1&&x.ok && !decide ((↑x.d.ps.n:Int) > c))) (.bnd (decide ((↑x.d.ps.n :
  Int) > c)||decide ((↑x.scans.n:Int) > s)) (fun (x2:Bool) => .need (!!x1 || !x1&&(!x.ok || !x1&&x.ok)) (.bnd (x.ok&&x2) (fun (x3:Bool) => .need (x1 || !x1) (.bnd (x1 ||
  x3) (fun (x4:Bool) => .leaf (.bool false x4) ([]))))))))))))))))))))))))))):=by kernel_rfl
theorem QRo:Kz (mkS Try.prog Yy) (Qm Try.f34) 8 ZF (fun x_=>(hnd (mkS Try.prog Yy) 1)):=by
 refine ⟨?_⟩
 rintro ⟨x,⟨c,⟨s,⟨⟩⟩⟩⟩ hp G h1 h2
 exact Qt (YY QBG) 1 G _ h1
theorem QPx:K1 (mkS Try.prog Yy) Try.f34 8 ZF (fun x_=>(hnd (mkS Try.prog Yy) 1)):=by
 refine ⟨?_⟩
 rintro ⟨x,⟨c,⟨s,⟨⟩⟩⟩⟩ hp
 refine ⟨⟨rfl,by simp [ZF],rfl⟩,⟨?_⟩⟩
 rw [QK5 x c s]
 simp only [ZF] at hp
 have end_:∀ {z:Bool} {b:Bool},WB x c s=b→(QC.leaf (AV.bool z b) []).den (Vm 8 (ZF (x,c,s,())).2.1 (ZF (x,c,s,())).2.2):=fun h=>Ki h.symm rfl
 have sm:decide ((x.d.ps.n:Int) > 14)=false→decide ((x.scans.n:Int) > 18)=false→decide ((x.hang.n:Int) > 18)=false→(decide (x.d.ps.n≤x.d.ps.n)&&(decide (x.scans.n≤x.scans.n)&&(decide (x.hang.n≤x.hang.n)&&true))&&decide (x.d.ps.n≤(1000:Nat)∧x.scans.n≤(1000:Nat)∧x.hang.n≤(1000:Nat)))=true:=by
  intro h1 h2 h3
  simp only [decide_eq_false_iff_not] at h1 h2 h3
  simp;omega
 unfold WB at end_
 generalize (decide (x.d.ps.n≤x.d.ps.n)&&(decide (x.scans.n≤x.scans.n)&&(decide (x.hang.n≤x.hang.n)&&true))&&decide (x.d.ps.n≤(1000:Nat)∧x.scans.n≤(1000:Nat)∧x.hang.n≤(1000:Nat)))=w at sm ⊢
 generalize decide ((x.d.ps.n:Int) > 14)=b0 at sm end_ ⊢
 generalize decide ((x.scans.n:Int) > 18)=b1 at sm end_ ⊢
 generalize decide ((x.hang.n:Int) > 18)=b2 at sm end_ ⊢
 generalize decide ((x.d.ps.n:Int) > c)=b3 at end_ ⊢
 generalize decide ((x.scans.n:Int) > s)=b4 at end_ ⊢
 generalize x.ok=b5 at end_ ⊢
 repeat' first|refine QF rfl ?_|refine QF (by clear end_;grind) ?_|refine Jc fun z hz => ?_
 refine end_ ?_
 clear end_ sm
 subst_vars
 cases b0<;>cases b1<;>cases b2<;>cases b3<;>cases b4<;>cases b5<;>rfl
theorem QOH:QM Try.prog 34 QFF:=
 K6 (YY QBG) Try.func34 (by kernel_rfl) (by kernel_rfl) (by decide) QRo QPx
def QEh:Tab:=QX Yy 34 QFF
theorem QT6:QU QEh:=QBG.add QOH
end Go.Proofs.Ytbpffdkemeoajaa
