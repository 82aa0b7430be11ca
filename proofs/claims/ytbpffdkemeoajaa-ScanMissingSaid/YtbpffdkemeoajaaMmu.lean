/- scan.Seats: its contract (layer 7). -/
import Derived.Test.YtbpffdkemeoajaaMmt
set_option maxRecDepth 100000
namespace Go.Proofs.Ytbpffdkemeoajaa
open Go.SX
def ZD (d:Puz) (s:QP):Bool:=d.ok&&Jg d.play ⟨1,fun _=>s⟩
def WK (d:Puz) (s:QP):List QA:=match ZD d s with
 | true=>KB d s d.ps.n
 | false=>[]
def ql (d:Puz) (s:QP):Int:=match ZD d s with
 | true=>0
 | false=>1
theorem QRV (e f:Int) (o:List QA):QO 8 [.tup [.nils,.int true .i64 e]] [] (Ks 8 (.tup [.slz 0 0 o.length (.of 0),.int false .i64 f]) [KW 56 0 o ⟨0,0⟩])=(
  some [o.length=(0:Nat),e=f,o.length=(0:Nat)]):=by kernel_rfl
theorem QSy (n:Nat) (g:Nat→Nat→Int) (e f:Int) (o:List QA):QO 8 [.tup [.slz 144 0 n (.of 0),.int true .i64 e]] [(144,.rowz true 56 [.int .i64,.int .i64] n g)] (Ks 8 (.tup [.slz 0 0 o.length (.of 0),.int false .i64 f]) [KW 56 0 o ⟨0,0⟩])=(
  some [(0:Nat)=(0:Nat),n=o.length,Cap.of (0:Nat)=Cap.of (0:Nat),e=f,o.length≤n,QD (2:Nat) o.length g fun i=>QB.enc (o.getD i (QA.mk (0:Int) (0 :
  Int)))]):=by kernel_rfl
def Zx:WF (Puz×QP×Unit):=fun|(d,(s,_))=>(decide (d.ps.n≤900),.tup [.slz 0 0 (WK d s).length (.of 0),.int false .i64 (ql d s)],[KW 56 0 (WK d s) ⟨0,0⟩])
def QIf:FC:=wFC Zx
abbrev Kf (s:QP):List AV:=
  [.int false .i64 s.up.kind,.int false .i64 s.up.at_.lo,.int false .i64 s.up.at_.hi,.int false .i64 s.up.wide.lo,.int false .i64 s.up.wide.hi,.int false .i64 s.up.deep.lo,.int
  false .i64 s.up.deep.hi,.int false .i64 s.right.kind,.int false .i64 s.right.at_.lo,.int false .i64 s.right.at_.hi,.int false .i64 s.right.wide.lo,.int false .i64
  s.right.wide.hi,.int false .i64 s.right.deep.lo,.int false .i64 s.right.deep.hi,.int false .i64 s.down.kind,.int false .i64 s.down.at_.lo,.int false .i64 s.down.at_.hi,.int
  false .i64 s.down.wide.lo,.int false .i64 s.down.wide.hi,.int false .i64 s.down.deep.lo,.int false .i64 s.down.deep.hi,.int false .i64 s.left.kind,.int false .i64
  s.left.at_.lo,.int false .i64 s.left.at_.hi,.int false .i64 s.left.wide.lo,.int false .i64 s.left.wide.hi,.int false .i64 s.left.deep.lo,.int false .i64 s.left.deep.hi]
theorem QQU (d:Puz) (s:QP) :KY (mkE Try.prog YO) (hnd (mkE Try.prog YO) 0) Try.f15 (QS.vals 0 ((d,s,()):Puz×QP×Unit)) (QS.blks 0 ((d,s,()):Puz×QP×Unit)) 8 = .need
  (decide (d.ps.n≤d.ps.n)&&true&&decide (d.ps.n≤1000)) (.br (!d.ok) (.leaf (.tup [.nils,.int true .i64 (1:Int)]) ([])) (.need (true&&(true&&true)&&decide (1≤1000))
  (.br (!Jg d.play (Rw.mk 1 fun i=>QP.mk (Edge.mk (Qb [(Kf s)] 0 i 0) (Sp.mk (Qb [(Kf s)] 0 i 1) (Qb [(Kf s)] 0 i 2)) (Sp.mk (Qb [(Kf s)] 0 i 3) (Qb [(Kf
  s)] 0 i 4)) (Sp.mk (Qb [(Kf s)] 0 i 5) (Qb [(Kf s)] 0 i 6))) (Edge.mk (Qb [(Kf s)] 0 i 7) (Sp.mk (Qb [(Kf s)] 0 i 8) (Qb [(Kf s)] 0 i 9)) (Sp.mk (Qb [(Kf s)]
  0 i 10) (Qb [(Kf s)] 0 i 11)) (Sp.mk (Qb [(Kf s)] 0 i 12) (Qb [(Kf s)] 0 i 13))) (Edge.mk (Qb [(Kf s)] 0 i 14) (Sp.mk (Qb [(Kf s)] 0 i 15) (Qb [(Kf s)] 0 i
  16)) (Sp.mk (Qb [(Kf s)] 0 i 17) (Qb [(Kf s)] 0 i 18)) (Sp.mk (Qb [(Kf s)] 0 i 19) (Qb [(Kf s)] 0 i 20))) (Edge.mk (Qb [(Kf s)] 0 i 21) (Sp.mk (Qb [(Kf s)] 0
  i 22) (Qb [(Kf s)] 0 i 23)) (Sp.mk (Qb [(Kf s)] 0 i 24) (Qb [(Kf s)] 0 i 25)) (Sp.mk (Qb [(Kf s)] 0 i 26) (Qb [(Kf s)] 0 i 27))))) (.leaf (.tup [.nils,.int true
  .i64 (1:Int)]) ([])) (.need (decide (d.ps.n≤d.ps.n)&&(true&&true)&&decide (d.ps.n≤900)) (.leaf (.tup [.slz 144 0 (KB d s d.ps.n).length (Cap.of 0),.int true .i64 (0
  : Int)]) ([(144,.rowz true 56 [.int .i64,.int .i64] (KB d s d.ps.n).length fun i=>QB.enc ((KB d s d.ps.n).getD i (QA.mk (0:Int) (0:Int))))])))))):=by kernel_rfl
theorem QQo:Kz (mkE Try.prog YO) (Qm Try.f15) 8 Zx (fun x_=>(hnd (mkE Try.prog YO) 0)):=by
 refine ⟨?_⟩
 rintro ⟨d,⟨s,⟨⟩⟩⟩ hp G h1 h2
 exact Qt (QN QDC) 0 G _ h1
theorem QNa:K1 (mkE Try.prog YO) Try.f15 8 Zx (fun x_=>(hnd (mkE Try.prog YO) 0)):=by
 refine ⟨?_⟩
 rintro ⟨d,⟨s,⟨⟩⟩⟩ hp
 refine ⟨⟨rfl,by simp [Zx,KW,Blk.own,Blk.all],rfl⟩,⟨?_⟩⟩
 rw [QQU d s]
 simp only [Zx] at hp
 have hn:d.ps.n≤900:=of_decide_eq_true hp
 have no:ZD d s=false→(QC.leaf (AV.tup [AV.nils,AV.int true IntKind.i64 1]) []).den (Vm 8 (Zx (d,s,())).2.1 (Zx (d,s,())).2.2):=by
  intro h
  have h1:WK d s=[]:=by simp only [WK,h]
  have h2:ql d s=1:=by simp only [ql,h]
  refine ⟨rfl,rfl,_,QRV _ _ _,?_⟩
  rw [h1,h2]
  repeat' first|exact trivial|with_reducible rfl|exact Nat.le_refl _|exact QD.refl _ _ _|refine And.intro ?_ ?_
  all_goals rfl
 refine QF (by simp;omega) (QL (fun h=>no ?_) (fun h=>QF rfl (QL (fun h2=>no ?_) (fun h2=>QF (by simp;omega) ?_))))
 ·have h:d.ok=false:=by simpa using h
  simp only [ZD,h,Bool.false_and]
 ·have h2:Jg d.play ⟨1,fun _=>s⟩=false:=by simpa using (show (!Jg d.play ⟨1,fun _=>s⟩)=true from h2)
  simp only [ZD,h2,Bool.and_false]
 ·have h:d.ok=true:=by simpa using h
  have h2:Jg d.play ⟨1,fun _=>s⟩=true:=by simpa using (show (!Jg d.play ⟨1,fun _=>s⟩)=false from h2)
  have hO:ZD d s=true:=by simp only [ZD,h,h2,Bool.and_self]
  have h3:WK d s=KB d s d.ps.n:=by simp only [WK,hO]
  have h4:ql d s=0:=by simp only [ql,hO]
  refine ⟨rfl,rfl,_,QSy _ _ _ _ _,?_⟩
  rw [h3,h4]
  repeat' first|exact trivial|with_reducible rfl|exact Nat.le_refl _|exact QD.refl _ _ _|refine And.intro ?_ ?_
theorem QPV:QM Try.prog 15 QIf:=
 K6 (QN QDC) Try.func15 (by kernel_rfl) (by kernel_rfl) (by decide) QQo QNa
def Z0:Tab:=QX YO 15 QIf
theorem Gh:QU Z0:=QDC.add QPV
end Go.Proofs.Ytbpffdkemeoajaa
namespace Go.Proofs.Ytbpffdkemeoajaa
open Go.SX
def QDk:Int×Int×Unit→Bool×AV:=fun|(lo,(hi,_))=>(true,Enc.enc (⟨lo,hi⟩:Sp))
def QJq:FC:=Qw (Qx QDk)
theorem QLD (lo:Int) (hi:Int):Qs (mkE Try.prog Z0) (hnd (mkE Try.prog Z0) 2) false Try.f46 (Qi.enc ((lo,hi,()):Int×Int×Unit)) [] 0 =
  QC.leaf (AV.agg [AV.int false IntKind.i64 lo,AV.int false IntKind.i64 hi]) ([]):=by kernel_rfl
theorem QSJ:QM Try.prog 46 QJq:=by
 refine Q2 Gh 2 Try.func46 (by kernel_rfl) (by kernel_rfl) ?_
 rintro ⟨lo,hi,⟨⟩⟩ hp
 rw [QLD lo hi]
 simp only [QDk,QC.den,AV.same,AV.sameL,and_true,true_and] at hp ⊢
 simp only [Enc.enc,AV.same,AV.sameL,and_self]
def zl:Tab:=QX Z0 46 QJq
theorem QEX:QU zl:=Gh.add QSJ
def QE9:Int×Int×Int×Unit→Bool×AV:=fun|(k,(w,(d,_)))=>(true,Enc.enc (⟨k,⟨1000,1000⟩,⟨w,w⟩,⟨d,d⟩⟩:Edge))
def QHL:FC:=Qw (Qx QE9)
theorem QMQ (k:Int) (w:Int) (d:Int):Qs (mkE Try.prog zl) (hnd (mkE Try.prog zl) 2) false Try.f45 (Qi.enc ((k,w,d,()):Int×Int×Int×Unit)) [] 0 =
  QC.need (true) (QC.need (true) (QC.leaf (AV.agg [AV.int false IntKind.i64 k,AV.int true IntKind.i64 (1000:Int),AV.int true IntKind.i64 (1000:Int),AV.int false
  IntKind.i64 w,AV.int false IntKind.i64 w,AV.int false IntKind.i64 d,AV.int false IntKind.i64 d]) ([]))):=by kernel_rfl
theorem QTB:QM Try.prog 45 QHL:=by
 refine Q2 QEX 2 Try.func45 (by kernel_rfl) (by kernel_rfl) ?_
 rintro ⟨k,w,d,⟨⟩⟩ hp
 rw [QMQ k w d]
 simp only [QE9,QC.den,AV.same,AV.sameL,and_true,true_and] at hp ⊢
 simp only [Enc.enc,AV.same,AV.sameL,and_self]
def Hv:Tab:=QX zl 45 QHL
theorem QGs:QU Hv:=QEX.add QTB
def QHA:Int×Int×Int×Unit→Bool×AV:=fun|(k,(lo,(hi,_)))=>(true,Enc.enc (⟨k,⟨990,1010⟩,⟨lo,hi⟩,⟨395,415⟩⟩:Edge))
def QGk:FC:=Qw (Qx QHA)
theorem QM4 (k:Int) (lo:Int) (hi:Int):Qs (mkE Try.prog Hv) (hnd (mkE Try.prog Hv) 2) false Try.f48 (Qi.enc ((k,lo,hi,()):Int×Int×Int×Unit)) [] 0 =
  QC.need (true) (QC.leaf (AV.agg [AV.int false IntKind.i64 k,AV.int true IntKind.i64 (990:Int),AV.int true IntKind.i64 (1010:Int),AV.int false IntKind.i64 lo,AV.int false
  IntKind.i64 hi,AV.int true IntKind.i64 (395:Int),AV.int true IntKind.i64 (415:Int)]) ([])):=by kernel_rfl
theorem QRN:QM Try.prog 48 QGk:=by
 refine Q2 QGs 2 Try.func48 (by kernel_rfl) (by kernel_rfl) ?_
 rintro ⟨k,lo,hi,⟨⟩⟩ hp
 rw [QM4 k lo hi]
 simp only [QHA,QC.den,AV.same,AV.sameL,and_true,true_and] at hp ⊢
 simp only [Enc.enc,AV.same,AV.sameL,and_self]
def vu:Tab:=QX Hv 48 QGk
theorem QEy:QU vu:=QGs.add QRN
def QJr:Edge×Edge×Unit→Bool×AV:=fun|(r,(l,_))=>(true,Enc.enc (⟨Kp,r,Kp,l⟩:QP))
def QKH:FC:=Qw (Qx QJr)
theorem QR0 (r:Edge) (l:Edge):Qs (mkE Try.prog vu) (hnd (mkE Try.prog vu) 2) false Try.f47 (Qi.enc ((r,l,()):Edge×Edge×Unit)) [] 0 =
  QC.leaf (AV.agg [AV.int true IntKind.i64 (0:Int),AV.int true IntKind.i64 (0:Int),AV.int true IntKind.i64 (0:Int),AV.int true IntKind.i64 (0:Int),AV.int true
  IntKind.i64 (0:Int),AV.int true IntKind.i64 (0:Int),AV.int true IntKind.i64 (0:Int),AV.int false IntKind.i64 r.kind,AV.int false IntKind.i64 r.at_.lo,AV.int false
  IntKind.i64 r.at_.hi,AV.int false IntKind.i64 r.wide.lo,AV.int false IntKind.i64 r.wide.hi,AV.int false IntKind.i64 r.deep.lo,AV.int false IntKind.i64 r.deep.hi,AV.int true
  IntKind.i64 (0:Int),AV.int true IntKind.i64 (0:Int),AV.int true IntKind.i64 (0:Int),AV.int true IntKind.i64 (0:Int),AV.int true IntKind.i64 (0:Int),AV.int true
  IntKind.i64 (0:Int),AV.int true IntKind.i64 (0:Int),AV.int false IntKind.i64 l.kind,AV.int false IntKind.i64 l.at_.lo,AV.int false IntKind.i64 l.at_.hi,AV.int false
  IntKind.i64 l.wide.lo,AV.int false IntKind.i64 l.wide.hi,AV.int false IntKind.i64 l.deep.lo,AV.int false IntKind.i64 l.deep.hi]) ([]):=by kernel_rfl
theorem QSX:QM Try.prog 47 QKH:=by
 refine Q2 QEy 2 Try.func47 (by kernel_rfl) (by kernel_rfl) ?_
 rintro ⟨r,l,⟨⟩⟩ hp
 rw [QR0 r l]
 simp only [QJr,QC.den,AV.same,AV.sameL,and_true,true_and] at hp ⊢
 simp only [Enc.enc,Kp,AV.same,AV.sameL,and_self]
def Gv:Tab:=QX vu 47 QKH
theorem QF0:QU Gv:=QEy.add QSX
def pP:QP:=⟨Kp,⟨1,⟨990,1010⟩,⟨490,570⟩,⟨395,415⟩⟩,Kp,⟨2,⟨990,1010⟩,⟨505,525⟩,⟨395,415⟩⟩⟩
def pQ:QP:=⟨Kp,⟨1,⟨990,1010⟩,⟨495,505⟩,⟨395,415⟩⟩,Kp,⟨2,⟨990,1010⟩,⟨505,525⟩,⟨395,415⟩⟩⟩
def pR:QP:=⟨Kp,Kp,⟨1,⟨990,1010⟩,⟨490,510⟩,⟨395,415⟩⟩,Kp⟩
def QFM:Unit→Bool×AV:=fun _=>(true,Enc.enc pP)
def QDH:FC:=Qw (Qx QFM)
theorem QTu :Qs (mkE Try.prog Gv) (hnd (mkE Try.prog Gv) 2) false Try.f22 (Qi.enc (():Unit)) [] 0 =
  QC.leaf (AV.agg [AV.int true IntKind.i64 (0:Int),AV.int true IntKind.i64 (0:Int),AV.int true IntKind.i64 (0:Int),AV.int true IntKind.i64 (0:Int),AV.int true
  IntKind.i64 (0:Int),AV.int true IntKind.i64 (0:Int),AV.int true IntKind.i64 (0:Int),AV.int true IntKind.i64 (1:Int),AV.int true IntKind.i64 (990:Int),AV.int true
  IntKind.i64 (1010:Int),AV.int true IntKind.i64 (490:Int),AV.int true IntKind.i64 (570:Int),AV.int true IntKind.i64 (395:Int),AV.int true IntKind.i64 (415:Int),AV.int
  true IntKind.i64 (0:Int),AV.int true IntKind.i64 (0:Int),AV.int true IntKind.i64 (0:Int),AV.int true IntKind.i64 (0:Int),AV.int true IntKind.i64 (0:Int),AV.int true
  IntKind.i64 (0:Int),AV.int true IntKind.i64 (0:Int),AV.int true IntKind.i64 (2:Int),AV.int true IntKind.i64 (990:Int),AV.int true IntKind.i64 (1010:Int),AV.int true
  IntKind.i64 (505:Int),AV.int true IntKind.i64 (525:Int),AV.int true IntKind.i64 (395:Int),AV.int true IntKind.i64 (415:Int)]) ([]):=by kernel_rfl
theorem QSI:QM Try.prog 22 QDH:=by
 refine Q2 QF0 2 Try.func22 (by kernel_rfl) (by kernel_rfl) ?_
 rintro ⟨⟩ hp
 rw [QTu ]
 simp only [QFM,QC.den,AV.same,AV.sameL,and_true,true_and] at hp ⊢
 simp only [Enc.enc,pP,Kp,AV.same,AV.sameL,and_self]
def vz:Tab:=QX Gv 22 QDH
theorem QKf:QU vz:=QF0.add QSI
def QHm:Unit→Bool×AV:=fun _=>(true,Enc.enc pQ)
def QGe:FC:=Qw (Qx QHm)
theorem QRh :Qs (mkE Try.prog vz) (hnd (mkE Try.prog vz) 2) false Try.f24 (Qi.enc (():Unit)) [] 0 =
  QC.leaf (AV.agg [AV.int true IntKind.i64 (0:Int),AV.int true IntKind.i64 (0:Int),AV.int true IntKind.i64 (0:Int),AV.int true IntKind.i64 (0:Int),AV.int true
  IntKind.i64 (0:Int),AV.int true IntKind.i64 (0:Int),AV.int true IntKind.i64 (0:Int),AV.int true IntKind.i64 (1:Int),AV.int true IntKind.i64 (990:Int),AV.int true
  IntKind.i64 (1010:Int),AV.int true IntKind.i64 (495:Int),AV.int true IntKind.i64 (505:Int),AV.int true IntKind.i64 (395:Int),AV.int true IntKind.i64 (415:Int),AV.int
  true IntKind.i64 (0:Int),AV.int true IntKind.i64 (0:Int),AV.int true IntKind.i64 (0:Int),AV.int true IntKind.i64 (0:Int),AV.int true IntKind.i64 (0:Int),AV.int true
  IntKind.i64 (0:Int),AV.int true IntKind.i64 (0:Int),AV.int true IntKind.i64 (2:Int),AV.int true IntKind.i64 (990:Int),AV.int true IntKind.i64 (1010:Int),AV.int true
  IntKind.i64 (505:Int),AV.int true IntKind.i64 (525:Int),AV.int true IntKind.i64 (395:Int),AV.int true IntKind.i64 (415:Int)]) ([]):=by kernel_rfl
theorem QNO:QM Try.prog 24 QGe:=by
 refine Q2 QKf 2 Try.func24 (by kernel_rfl) (by kernel_rfl) ?_
 rintro ⟨⟩ hp
 rw [QRh ]
 simp only [QHm,QC.den,AV.same,AV.sameL,and_true,true_and] at hp ⊢
 simp only [Enc.enc,pQ,Kp,AV.same,AV.sameL,and_self]
def He:Tab:=QX vz 24 QGe
theorem QI6:QU He:=QKf.add QNO
def QJs:Unit→Bool×AV:=fun _=>(true,Enc.enc pR)
def QF8:FC:=Qw (Qx QJs)
theorem QOv :Qs (mkE Try.prog He) (hnd (mkE Try.prog He) 2) false Try.f19 (Qi.enc (():Unit)) [] 0 =
  QC.leaf (AV.agg [AV.int true IntKind.i64 (0:Int),AV.int true IntKind.i64 (0:Int),AV.int true IntKind.i64 (0:Int),AV.int true IntKind.i64 (0:Int),AV.int true
  IntKind.i64 (0:Int),AV.int true IntKind.i64 (0:Int),AV.int true IntKind.i64 (0:Int),AV.int true IntKind.i64 (0:Int),AV.int true IntKind.i64 (0:Int),AV.int true
  IntKind.i64 (0:Int),AV.int true IntKind.i64 (0:Int),AV.int true IntKind.i64 (0:Int),AV.int true IntKind.i64 (0:Int),AV.int true IntKind.i64 (0:Int),AV.int true
  IntKind.i64 (1:Int),AV.int true IntKind.i64 (990:Int),AV.int true IntKind.i64 (1010:Int),AV.int true IntKind.i64 (490:Int),AV.int true IntKind.i64 (510:Int),AV.int
  true IntKind.i64 (395:Int),AV.int true IntKind.i64 (415:Int),AV.int true IntKind.i64 (0:Int),AV.int true IntKind.i64 (0:Int),AV.int true IntKind.i64 (0:Int),AV.int
  true IntKind.i64 (0:Int),AV.int true IntKind.i64 (0:Int),AV.int true IntKind.i64 (0:Int),AV.int true IntKind.i64 (0:Int)]) ([]):=by kernel_rfl
theorem QQb:QM Try.prog 19 QF8:=by
 refine Q2 QI6 2 Try.func19 (by kernel_rfl) (by kernel_rfl) ?_
 rintro ⟨⟩ hp
 rw [QOv ]
 simp only [QJs,QC.den,AV.same,AV.sameL,and_true,true_and] at hp ⊢
 simp only [Enc.enc,pR,Kp,AV.same,AV.sameL,and_self]
def Yr:Tab:=QX He 19 QF8
theorem QAg:QU Yr:=QI6.add QQb
def exE (k w d:Int):Edge:=⟨k,⟨1000,1000⟩,⟨w,w⟩,⟨d,d⟩⟩
def QLZ:List QP:=[⟨Kp,exE 1 500 400,Kp,Kp⟩,⟨Kp,exE 1 500 400,Kp,exE 2 515 410⟩,⟨Kp,exE 1 560 400,Kp,exE 2 515 410⟩,⟨Kp,Kp,Kp,exE 2 575 410⟩]
def QFl:AV := .agg [.int false .i64 2000,.int false .i64 20,.int false .i64 30,.int false .i64 0,.int false .i64 10,.int false .i64 4,.int false .i64 1,.bool false false,.slice true 0 0 4 (.lit 4)]
def QGU:Nat×Blk:=(0,.rowl 33 28 (QLZ.map fun p=>(Enc.enc p).cells))
abbrev QDX:List AV:=
  [.int true .i64 (2000:Int),.int true .i64 (20:Int),.int true .i64 (30:Int),.int true .i64 (0:Int),.int true .i64 (10:Int),.int true .i64 (4:Int),.int true .i64 (1
  : Int),.bool true false,.slice true 248 0 4 (Cap.lit 4)]
abbrev QH5:List (Nat×Blk):=
  [(248,.rowl 33 28 [[.int true .i64 (0:Int),.int true .i64 (0:Int),.int true .i64 (0:Int),.int true .i64 (0:Int),.int true .i64 (0:Int),.int true .i64 (0:Int),.int
  true .i64 (0:Int),.int true .i64 (1:Int),.int true .i64 (1000:Int),.int true .i64 (1000:Int),.int true .i64 (500:Int),.int true .i64 (500:Int),.int true .i64 (400
  : Int),.int true .i64 (400:Int),.int true .i64 (0:Int),.int true .i64 (0:Int),.int true .i64 (0:Int),.int true .i64 (0:Int),.int true .i64 (0:Int),.int true .i64
  (0:Int),.int true .i64 (0:Int),.int true .i64 (0:Int),.int true .i64 (0:Int),.int true .i64 (0:Int),.int true .i64 (0:Int),.int true .i64 (0:Int),.int true .i64
  (0:Int),.int true .i64 (0:Int)],[.int true .i64 (0:Int),.int true .i64 (0:Int),.int true .i64 (0:Int),.int true .i64 (0:Int),.int true .i64 (0:Int),.int true
  .i64 (0:Int),.int true .i64 (0:Int),.int true .i64 (1:Int),.int true .i64 (1000:Int),.int true .i64 (1000:Int),.int true .i64 (500:Int),.int true .i64 (500:Int),
  .int true .i64 (400:Int),.int true .i64 (400:Int),.int true .i64 (0:Int),.int true .i64 (0:Int),.int true .i64 (0:Int),.int true .i64 (0:Int),.int true .i64 (0 :
  Int),.int true .i64 (0:Int),.int true .i64 (0:Int),.int true .i64 (2:Int),.int true .i64 (1000:Int),.int true .i64 (1000:Int),.int true .i64 (515:Int),.int true
  .i64 (515:Int),.int true .i64 (410:Int),.int true .i64 (410:Int)],[.int true .i64 (0:Int),.int true .i64 (0:Int),.int true .i64 (0:Int),.int true .i64 (0:Int),
  .int true .i64 (0:Int),.int true .i64 (0:Int),.int true .i64 (0:Int),.int true .i64 (1:Int),.int true .i64 (1000:Int),.int true .i64 (1000:Int),.int true .i64 (560
  : Int),.int true .i64 (560:Int),.int true .i64 (400:Int),.int true .i64 (400:Int),.int true .i64 (0:Int),.int true .i64 (0:Int),.int true .i64 (0:Int),.int true
  .i64 (0:Int),.int true .i64 (0:Int),.int true .i64 (0:Int),.int true .i64 (0:Int),.int true .i64 (2:Int),.int true .i64 (1000:Int),.int true .i64 (1000:Int),
  .int true .i64 (515:Int),.int true .i64 (515:Int),.int true .i64 (410:Int),.int true .i64 (410:Int)],[.int true .i64 (0:Int),.int true .i64 (0:Int),.int true .i64
  (0:Int),.int true .i64 (0:Int),.int true .i64 (0:Int),.int true .i64 (0:Int),.int true .i64 (0:Int),.int true .i64 (0:Int),.int true .i64 (0:Int),.int true .i64
  (0:Int),.int true .i64 (0:Int),.int true .i64 (0:Int),.int true .i64 (0:Int),.int true .i64 (0:Int),.int true .i64 (0:Int),.int true .i64 (0:Int),.int true .i64
  (0:Int),.int true .i64 (0:Int),.int true .i64 (0:Int),.int true .i64 (0:Int),.int true .i64 (0:Int),.int true .i64 (2:Int),.int true .i64 (1000:Int),.int true
  .i64 (1000:Int),.int true .i64 (575:Int),.int true .i64 (575:Int),.int true .i64 (410:Int),.int true .i64 (410:Int)]])]
theorem QRH :QO 8 [(.agg QDX)] (QH5) (Ks 8 QFl [QGU])=( some [(2000:Int)=(2000:Int),(20:Int)=(20:Int),(30:Int)=(30:Int),(0:Int)=(0:Int),(10:Int)=(10 :
  Int),(4:Int)=(4:Int),(1:Int)=(1:Int),false=false,0=0,4=4,Cap.lit 4=Cap.lit 4,(0:Int)=(0:Int),(0:Int)=(0:Int),(0:Int)=(0:Int),(0 :
  Int)=(0:Int),(0:Int)=(0:Int),(0:Int)=(0:Int),(0:Int)=(0:Int),(1:Int)=(1:Int),(1000:Int)=(1000:Int),(1000:Int)=(1000:Int),(500:Int) =
  (500:Int),(500:Int)=(500:Int),(400:Int)=(400:Int),(400:Int)=(400:Int),(0:Int)=(0:Int),(0:Int)=(0:Int),(0:Int)=(0:Int),(0:Int)=(0 :
  Int),(0:Int)=(0:Int),(0:Int)=(0:Int),(0:Int)=(0:Int),(0:Int)=(0:Int),(0:Int)=(0:Int),(0:Int)=(0:Int),(0:Int)=(0:Int),(0:Int)=(0
  : Int),(0:Int)=(0:Int),(0:Int)=(0:Int),(0:Int)=(0:Int),(0:Int)=(0:Int),(0:Int)=(0:Int),(0:Int)=(0:Int),(0:Int)=(0:Int),(0:Int) =
  (0:Int),(0:Int)=(0:Int),(1:Int)=(1:Int),(1000:Int)=(1000:Int),(1000:Int)=(1000:Int),(500:Int)=(500:Int),(500:Int)=(500:Int),(400:Int)
  = (400:Int),(400:Int)=(400:Int),(0:Int)=(0:Int),(0:Int)=(0:Int),(0:Int)=(0:Int),(0:Int)=(0:Int),(0:Int)=(0:Int),(0:Int)=(0:Int),
  (0:Int)=(0:Int),(2:Int)=(2:Int),(1000:Int)=(1000:Int),(1000:Int)=(1000:Int),(515:Int)=(515:Int),(515:Int)=(515:Int),(410:Int)=(410 :
  Int),(410:Int)=(410:Int),(0:Int)=(0:Int),(0:Int)=(0:Int),(0:Int)=(0:Int),(0:Int)=(0:Int),(0:Int)=(0:Int),(0:Int)=(0:Int),(0:Int)
  = (0:Int),(1:Int)=(1:Int),(1000:Int)=(1000:Int),(1000:Int)=(1000:Int),(560:Int)=(560:Int),(560:Int)=(560:Int),(400:Int)=(400:Int),(400 :
  Int)=(400:Int),(0:Int)=(0:Int),(0:Int)=(0:Int),(0:Int)=(0:Int),(0:Int)=(0:Int),(0:Int)=(0:Int),(0:Int)=(0:Int),(0:Int)=(0:Int),
  (2:Int)=(2:Int),(1000:Int)=(1000:Int),(1000:Int)=(1000:Int),(515:Int)=(515:Int),(515:Int)=(515:Int),(410:Int)=(410:Int),(410:Int)=(410
  : Int),(0:Int)=(0:Int),(0:Int)=(0:Int),(0:Int)=(0:Int),(0:Int)=(0:Int),(0:Int)=(0:Int),(0:Int)=(0:Int),(0:Int)=(0:Int),(0:Int) =
  (0:Int),(0:Int)=(0:Int),(0:Int)=(0:Int),(0:Int)=(0:Int),(0:Int)=(0:Int),(0:Int)=(0:Int),(0:Int)=(0:Int),(0:Int)=(0:Int),(0:Int)
  = (0:Int),(0:Int)=(0:Int),(0:Int)=(0:Int),(0:Int)=(0:Int),(0:Int)=(0:Int),(0:Int)=(0:Int),(2:Int)=(2:Int),(1000:Int)=(1000:Int),
  (1000:Int)=(1000:Int),(575:Int)=(575:Int),(575:Int)=(575:Int),(410:Int)=(410:Int),(410:Int)=(410:Int)]):=by kernel_rfl
def GW:WF (Unit):=fun|_=>(true,QFl,[QGU])
def QFm:FC:=wFC GW
theorem QSZ :KY (mkE Try.prog Yr) (hnd (mkE Try.prog Yr) 2) Try.f18 (QS.vals 0 ((()):Unit)) (QS.blks 0 ((()):Unit)) 8 = .leaf (.agg QDX) (QH5):=by kernel_rfl
theorem QRd:Kz (mkE Try.prog Yr) (Qm Try.f18) 8 GW (fun x_=>(hnd (mkE Try.prog Yr) 2)):=by
 refine ⟨?_⟩
 rintro ⟨⟩ hp G h1 h2
 exact Qt (QN QAg) 2 G _ h1
theorem QNW:K1 (mkE Try.prog Yr) Try.f18 8 GW (fun x_=>(hnd (mkE Try.prog Yr) 2)):=by
 refine ⟨?_⟩
 rintro ⟨⟩ hp
 refine ⟨⟨rfl,by decide,rfl⟩,⟨?_⟩⟩
 rw [QSZ ]
 simp only [GW] at hp
 exact ⟨rfl,rfl,_,QRH,by repeat' first|exact trivial|rfl|refine And.intro ?_ ?_⟩
theorem QO0:QM Try.prog 18 QFm:=
 K6 (QN QAg) Try.func18 (by kernel_rfl) (by kernel_rfl) (by decide) QRd QNW
def VO:Tab:=QX Yr 18 QFm
theorem Y0:QU VO:=QAg.add QO0
end Go.Proofs.Ytbpffdkemeoajaa
namespace Go.Proofs.Ytbpffdkemeoajaa
open Go.SX
structure Jn where
 a:Int
 i:Int
 b:Int
 j:Int
instance : QB Jn where
  ks := [.int .i64, .int .i64, .int .i64, .int .i64]
  enc p j := match j with
    | 0 => p.a
    | 1 => p.i
    | 2 => p.b
    | _ => p.j
  dec f := ⟨f 0, f 1, f 2, f 3⟩
  ok _ := rfl
instance : Enc Jn where
  enc x := .agg [.int false .i64 x.a, .int false .i64 x.i, .int false .i64 x.b, .int false .i64 x.j]
  dec | .agg [.int _ .i64 a0, .int _ .i64 a1, .int _ .i64 a2, .int _ .i64 a3] => some ⟨a0, a1, a2, a3⟩ | _ => none
  ok v x h := by
    split at h <;> (try (cases h; done))
    simp only [Option.some.injEq] at h; subst h; exact ⟨fun _ => rfl, rfl⟩
instance : Enc QA where
  enc x := .agg [.int false .i64 x.cell, .int false .i64 x.turn]
  dec | .agg [.int _ .i64 a0, .int _ .i64 a1] => some ⟨a0, a1⟩ | _ => none
  ok v x h := by
    split at h <;> (try (cases h; done))
    simp only [Option.some.injEq] at h; subst h; exact ⟨fun _ => rfl, rfl⟩
structure QE where
 d:Puz
 scans:Rw QP
 hang:Rw Jn
 lost:Int
 foreign:Int
def JG (k:Nat) (x:QE):List AV:=[.int false .i64 x.d.play.length,.int false .i64 x.d.play.slack,.int false .i64 x.d.play.loose,.int false .i64 x.d.play.damp.lo,.int false .i64 x.d.play.damp.hi,.int false .i64 x.d.wide,.int false .i64 x.d.high,.bool false x.d.turn,Qy.val k x.d.ps,Qy.val (k + 1) x.scans,Qy.val (k + 2) x.hang,.int false .i64 x.lost,.int false .i64 x.foreign]
def K9 (k:Nat) (x:QE):List (Nat×Blk):=Qy.blk k x.d.ps++(Qy.blk (k + 1) x.scans++Qy.blk (k + 2) x.hang)
instance {β : Type} [QS β] : QS (QE × β) where
  len := QS.len β + 3
  vals k x := .agg (JG k x.1) :: QS.vals (k + 3) x.2
  blks k x := K9 k x.1 ++ QS.blks (k + 3) x.2
  dec
    | v :: l, lk => (match v with
      | .agg [.int _ .i64 a, .int _ .i64 b, .int _ .i64 c, .int _ .i64 d, .int _ .i64 e, .int _ .i64 f, .int _ .i64 g, .bool _ t, s1, s2, s3, .int _ .i64 lo, .int _ .i64 fo] => (match (Qy.dec s1 lk : Option (Bool × Rw QP)), (Qy.dec s2 lk : Option (Bool × Rw QP)), (Qy.dec s3 lk : Option (Bool × Rw Jn)), (QS.dec l lk : Option (Bool × β)) with
        | some (p1, x1), some (p2, x2), some (p3, x3), some (q, y) => some (p1 && (p2 && (p3 && q)), ⟨⟨⟨a, b, c, ⟨d, e⟩⟩, f, g, t, x1⟩, x2, x3, lo, fo⟩, y)
        | _, _, _, _ => none)
      | _ => none)
    | _, _ => none
  ok vs lk p x h hp := by
    split at h <;> (try (cases h; done))
    split at h <;> (try (cases h; done))
    split at h <;> (try (cases h; done))
    rename_i l lk' _ _ a _ b _ c _ d _ e _ f _ g _ t s1 s2 s3 _ lo _ fo _ _ _ _ p1 x1 p2 x2 p3 x3 q y h1 h2 h3 h4
    simp only [Option.some.injEq, Prod.mk.injEq] at h
    obtain ⟨rfl, rfl⟩ := h
    simp only [Bool.and_eq_true] at hp
    obtain ⟨a1, a2⟩ := Qy.ok _ _ _ _ h1 hp.1
    obtain ⟨b1, b2⟩ := Qy.ok _ _ _ _ h2 hp.2.1
    obtain ⟨c1, c2⟩ := Qy.ok _ _ _ _ h3 hp.2.2.1
    obtain ⟨d1, d2⟩ := QS.ok _ _ _ _ h4 hp.2.2.2
    refine ⟨fun k => ⟨?_, fun z hz => ?_⟩, fun r w hw => ?_⟩
    · simp only [AV.allL, Bool.and_eq_true]
      refine ⟨?_, allL_mono (fun i hi => ?_) _ (d1 (k + 3)).1⟩
      · simp only [AV.all, JG, AV.allL, Bool.true_and, Bool.and_true, Bool.and_eq_true]
        refine ⟨all_mono (fun i hi => ?_) _ (a1 k).1, all_mono (fun i hi => ?_) _ (b1 (k + 1)).1, all_mono (fun i hi => ?_) _ (c1 (k + 2)).1⟩
        · have hi : i = k := by simpa using hi
          subst hi; simp
        · have hi : i = k + 1 := by simpa using hi
          subst hi; simp
        · have hi : i = k + 2 := by simpa using hi
          subst hi; simp
      · simp only [decide_eq_true_eq] at hi ⊢; omega
    · simp only [K9, List.mem_append] at hz
      rcases hz with (hz | hz | hz) | hz
      · obtain ⟨e1, e2, e3⟩ := (a1 k).2 z hz
        exact ⟨by omega, e2, e3⟩
      · obtain ⟨e1, e2, e3⟩ := (b1 (k + 1)).2 z hz
        exact ⟨by omega, e2, e3⟩
      · obtain ⟨e1, e2, e3⟩ := (c1 (k + 2)).2 z hz
        exact ⟨by omega, e2, e3⟩
      · obtain ⟨e1, e2, e3⟩ := (d1 (k + 3)).2 z hz
        exact ⟨by omega, e2, e3⟩
    · obtain ⟨l1, e1⟩ := a2 r w hw
      obtain ⟨l2, e2⟩ := b2 r w hw
      obtain ⟨l3, e3⟩ := c2 r w hw
      obtain ⟨L, e4⟩ := d2 r w hw
      refine ⟨fun i => match i with | 0 => l1 | 1 => l2 | 2 => l3 | i + 3 => L i, fun k r' hr => ?_⟩
      obtain ⟨g1, g2⟩ := e1 k r' (by simpa using hr 0 (by omega))
      obtain ⟨g3, g4⟩ := e2 (k + 1) r' (hr 1 (by omega))
      obtain ⟨g5, g6⟩ := e3 (k + 2) r' (hr 2 (by omega))
      obtain ⟨g7, g8⟩ := e4 (k + 3) r' (fun i hi => by have := hr (i + 3) (by omega); rw [show k + 3 + i = k + (i + 3) by omega]; exact this)
      refine ⟨?_, fun z hz => ?_⟩
      · simp only [AV.denL, AV.den, JG] at g1 g3 g5 g7 ⊢
        rw [g1, g3, g5, g7]
      · simp only [K9, List.mem_append] at hz
        rcases hz with (hz | hz | hz) | hz
        · exact g2 z hz
        · exact g4 z hz
        · exact g6 z hz
        · exact g8 z hz
end Go.Proofs.Ytbpffdkemeoajaa
