/- - -/
import Derived.Test.YtbpffdkemeoajaaMwzh
open Go.IntKind (i64)
set_option maxRecDepth 100000
namespace Go.Proofs.Ytbpffdkemeoajaa
open Go.SX
def QOU:Int×Int×Int×Unit→Bool×AV:=fun|(n,(a,(b,_)))=>(true,.bool false (Qf n a b))
def QNr:FC:=Q2 (Q3 QOU)
theorem QYc(n:Int)(a:Int)(b:Int):Qy (mkE Try.prog QAf) (hnd (mkE Try.prog QAf) 0) false Try.f68 (Qp.enc ((n,a,b,()):Int×Int×Int×Unit)) [] 0 =
  QD.br (decide (a≤n)) (QD.leaf (AV.bool false (decide (n≤b))) ([])) (QD.leaf (AV.bool true false) ([])):=by kernel_rfl
theorem QZA:QO Try.prog 68 QNr:=by
 refine KC QKp 0 Try.func68 (by kernel_rfl) (by kernel_rfl) ?_
 rintro⟨n,a,b,⟨⟩⟩ hp;rw[QYc n a b];simp only[QOU,QD.den,AV.same,AV.sameL,and_true,true_and]at hp ⊢
 (repeat' (first|(refine And.intro ?_ ?_)|(intro _)))<;>simp_all [Qf]<;>omega
def QBX:Tab:=Qd QAf 68 QNr
theorem QHV:QZ QBX:=QKp.add QZA
def QNU:Sp×Sp×Unit→Bool×AV:=fun|(a,(b,_))=>(true,.bool false (com a b))
def QJB:FC:=Q2 (Q3 QNU)
theorem QRp(a:Sp)(b:Sp):Qy (mkE Try.prog QBX) (hnd (mkE Try.prog QBX) 0) false Try.f102 (Qp.enc ((a,b,()):Sp×Sp×Unit)) [] 0 =
  QD.br (decide (a.lo≤b.hi)) (QD.leaf (AV.bool false (decide (b.lo≤a.hi))) ([])) (QD.leaf (AV.bool true false) ([])):=by kernel_rfl
theorem QPk:QO Try.prog 102 QJB:=by
 refine KC QHV 0 Try.func102 (by kernel_rfl) (by kernel_rfl) ?_
 rintro⟨a,b,⟨⟩⟩ hp;rw[QRp a b];simp only[QNU,QD.den,AV.same,AV.sameL,and_true,true_and]at hp ⊢;simp only[com];refine⟨fun h => ?_,fun h => ?_⟩
 ·rw[h];simp
 ·rw[h];simp
def QAi:Tab:=Qd QBX 102 QJB
theorem QJf:QZ QAi:=QHV.add QPk
def QIW:Edge×Edge×Unit→Bool×AV:=fun|(a,(b,_))=>(true,.bool false (isS a b))
def QOT:FC:=Q2 (Q3 QIW)
theorem QRY(a:Edge)(b:Edge):Qy (mkE Try.prog QAi) (hnd (mkE Try.prog QAi) 0) false Try.f88 (Qp.enc ((a,b,()):Edge×Edge×Unit)) [] 0 =
  QD.br (a.kind==b.kind) (QD.br (a.kind==(0:Int)) (QD.leaf (AV.bool true true) ([])) (QD.need (true) (QD.br (com a.at_ b.at_) (QD.need (true) (QD.br (com a.wide
  b.wide) (QD.need (true) (QD.leaf (AV.bool false (com a.deep b.deep)) ([]))) (QD.leaf (AV.bool true false) ([])))) (QD.leaf (AV.bool true false) ([]))))) (QD.leaf (AV.bool
  true false) ([])):=by kernel_rfl
theorem QP5:QO Try.prog 88 QOT:=by
 refine KC QJf 0 Try.func88 (by kernel_rfl) (by kernel_rfl) ?_
 rintro⟨a,b,⟨⟩⟩ hp;rw[QRY a b];simp only[QIW,QD.den,AV.same,AV.sameL,and_true,true_and]at hp ⊢;simp only[isS,isF];generalize com a.at_ b.at_=c1
 generalize com a.wide b.wide=c2;generalize com a.deep b.deep=c3
 by_cases h:a.kind=b.kind
 ·by_cases h0:b.kind=0
  ·simp[h,h0]
  ·cases c1<;>cases c2<;>cases c3<;>simp[h,h0]
 ·by_cases h0:a.kind=0
  ·have:¬ b.kind=0:=fun e=>h (by rw[h0,e])
   have h':¬ 0=b.kind:=fun e=>this e.symm;simp[h0,this,h']
  ·simp[h,h0]
def QBD:Tab:=Qd QAi 88 QOT
theorem QII:QZ QBD:=QJf.add QP5
def QOF:QT×Unit→Bool×AV:=fun|(s,_)=>(true,.bool false s.ok)
def QMw:FC:=Q2 (Q3 QOF)
theorem QVn(s:QT):Qy (mkE Try.prog QBD) (hnd (mkE Try.prog QBD) 6) false Try.f28 (Qp.enc ((s,()):QT×Unit)) [] 0 =
  QD.need (true) (QD.br (!s.up.ok) (QD.leaf (AV.bool true false) ([])) (QD.need (true) (QD.br (!s.right.ok) (QD.leaf (AV.bool true false) ([])) (QD.need (true) (QD.br
  (!s.down.ok) (QD.leaf (AV.bool true false) ([])) (QD.need (true) (QD.br (!s.left.ok) (QD.leaf (AV.bool true false) ([])) (QD.leaf (AV.bool true true) ([]))))))))):=by kernel_rfl
theorem QUZ:QO Try.prog 28 QMw:=by
 refine KC QII 6 Try.func28 (by kernel_rfl) (by kernel_rfl) ?_
 rintro⟨s,⟨⟩⟩ hp;rw[QVn s];simp only[QOF,QD.den,AV.same,AV.sameL,and_true,true_and]at hp ⊢;simp only[QT.ok];cases s.up.ok<;>cases s.right.ok<;>cases s.down.ok<;>cases s.left.ok<;>simp
def Zo:Tab:=Qd QBD 28 QMw
theorem QDM:QZ Zo:=QII.add QUZ
def GV:WF (Puz×Edge×Edge×Unit):=fun|(d,(a,(b,_)))=>(decide (d.ps.n≤1000),.int false .i64 (KH d.play a b).1,[])
def QOR:FC:=wFC GV
variable (d:Puz)(k:Nat)
theorem QP3(a:Edge)(b:Edge):KR (mkE Try.prog Zo) (hnd (mkE Try.prog Zo) 0) Try.f41 (QX.vals 0 ((d,a,b,()):Puz×Edge×Edge×Unit)) (QX.blks 0 ((d,a,b,()):Puz×Edge×Edge×Unit)) 8 =
  QD.need (true) (QD.leaf (AV.int false i64 (KH d.play a b).1) ([])):=by kernel_rfl
theorem QV7:JN (mkE Try.prog Zo) (Qo Try.f41) 8 GV (fun x_=>(hnd (mkE Try.prog Zo) 0)):=by
 refine⟨?_⟩;rintro⟨d,⟨a,⟨b,⟨⟩⟩⟩⟩ hp G h1 h2;exact Qq (QP QDM) 0 G _ h1
theorem QTb:JM (mkE Try.prog Zo) Try.f41 8 GV (fun x_=>(hnd (mkE Try.prog Zo) 0)):=by
 refine⟨?_⟩;rintro⟨d,⟨a,⟨b,⟨⟩⟩⟩⟩ hp;refine⟨⟨rfl,by simp[GV],rfl⟩,⟨?_⟩⟩
 rw[QP3 d a b];simp only[GV]at hp;refine QF rfl (Kk ?_ rfl);exact⟨rfl,rfl⟩
theorem QSx:QO Try.prog 41 QOR:=
 JX (QP QDM) Try.func41 (by kernel_rfl) (by kernel_rfl) (by decide) QV7 QTb
def Z5:Tab:=Qd Zo 41 QOR
theorem QDt:QZ Z5:=QDM.add QSx
def Wz:WF (Puz×Int×Int×Unit):=fun|(d,(c,(s,_)))=>(decide ((1≤d.wide∧d.wide≤100)∧(1≤d.high∧d.high≤100)∧(0≤c∧c≤100)),.int false .i64 (Qb d.wide d.high c s),[])
def QHc:FC:=wFC Wz
theorem QXP(c:Int)(s:Int):KR (mkE Try.prog Z5) (hnd (mkE Try.prog Z5) 0) Try.f31 (QX.vals 0 ((d,c,s,()):Puz×Int×Int×Unit)) (QX.blks 0 ((d,c,s,()):Puz×Int×Int ×
  Unit)) 8 = .need (!decide (d.wide=0)) (.need (!decide (d.wide=0)) (.br (s==0) (.br (decide (i64.wrap (c.tdiv d.wide)>0)) (.leaf (.int false .i64 (i64.wrap (c
  - d.wide))) ([])) (.br (s==1) (.br (decide (c.tmod d.wide<i64.wrap (d.wide-1))) (.leaf (.int false .i64 (i64.wrap (c+1))) ([])) (.br (s==2) (.br (decide
  (i64.wrap (c.tdiv d.wide)<i64.wrap (d.high-1))) (.leaf (.int false .i64 (i64.wrap (c+d.wide))) ([])) (.br (s==3) (.br (decide (c.tmod d.wide>0))
  (.leaf (.int false .i64 (i64.wrap (c-1))) ([])) (.leaf (.int true .i64 (-1)) ([]))) (.leaf (.int true .i64 (-1)) ([])))) (.br (s==3) (.br (decide (c.tmod d.wide>0))
  (.leaf (.int false .i64 (i64.wrap (c-1))) ([])) (.leaf (.int true .i64 (-1)) ([]))) (.leaf (.int true .i64 (-1)) ([]))))) (.br (s==2) (.br (decide (i64.wrap
  (c.tdiv d.wide)<i64.wrap (d.high-1))) (.leaf (.int false .i64 (i64.wrap (c+d.wide))) ([])) (.br (s==3) (.br (decide (c.tmod d.wide>0)) (.leaf (.int false
  .i64 (i64.wrap (c-1))) ([])) (.leaf (.int true .i64 (-1)) ([]))) (.leaf (.int true .i64 (-1)) ([])))) (.br (s==3) (.br (decide (c.tmod d.wide>0)) (.leaf (.int false
  .i64 (i64.wrap (c-1))) ([])) (.leaf (.int true .i64 (-1)) ([]))) (.leaf (.int true .i64 (-1)) ([])))))) (.br (s==1) (.br (decide (c.tmod d.wide<i64.wrap
  (d.wide-1))) (.leaf (.int false .i64 (i64.wrap (c+1))) ([])) (.br (s==2) (.br (decide (i64.wrap (c.tdiv d.wide)<i64.wrap (d.high-1))) (.leaf (.int
  false .i64 (i64.wrap (c+d.wide))) ([])) (.br (s==3) (.br (decide (c.tmod d.wide>0)) (.leaf (.int false .i64 (i64.wrap (c-1))) ([])) (.leaf (.int true .i64
  (-1)) ([]))) (.leaf (.int true .i64 (-1)) ([])))) (.br (s==3) (.br (decide (c.tmod d.wide>0)) (.leaf (.int false .i64 (i64.wrap (c-1))) ([])) (.leaf (.int true .i64
  (-1)) ([]))) (.leaf (.int true .i64 (-1)) ([]))))) (.br (s==2) (.br (decide (i64.wrap (c.tdiv d.wide)<i64.wrap (d.high-1))) (.leaf (.int false .i64
  (i64.wrap (c+d.wide))) ([])) (.br (s==3) (.br (decide (c.tmod d.wide>0)) (.leaf (.int false .i64 (i64.wrap (c-1))) ([])) (.leaf (.int true .i64 (-1)) ([])))
  (.leaf (.int true .i64 (-1)) ([])))) (.br (s==3) (.br (decide (c.tmod d.wide>0)) (.leaf (.int false .i64 (i64.wrap (c-1))) ([])) (.leaf (.int true .i64 (-1)) ([])))
  (.leaf (.int true .i64 (-1)) ([]))))))):=by kernel_rfl
theorem QTc:JN (mkE Try.prog Z5) (Qo Try.f31) 8 Wz (fun x_=>(hnd (mkE Try.prog Z5) 0)):=by
 refine⟨?_⟩;rintro⟨d,⟨c,⟨s,⟨⟩⟩⟩⟩ hp G h1 h2;exact Qq (QP QDt) 0 G _ h1
theorem QTR:JM (mkE Try.prog Z5) Try.f31 8 Wz (fun x_=>(hnd (mkE Try.prog Z5) 0)):=by
 refine⟨?_⟩;rintro⟨d,⟨c,⟨s,⟨⟩⟩⟩⟩ hp;refine⟨⟨rfl,by simp[Wz],rfl⟩,⟨?_⟩⟩
 rw[QXP d c s];simp only[Wz]at hp;obtain⟨⟨w1,w2⟩,⟨h1,h2⟩,c1,c2⟩:=qdt hp;have q0:0≤c.tdiv d.wide:=Int.tdiv_nonneg c1 (by omega)
 have q1:c.tdiv d.wide≤c:=by rw[Int.tdiv_eq_ediv_of_nonneg c1];exact Int.ediv_le_self _ c1
 have m0:0≤c.tmod d.wide:=Int.tmod_nonneg _ c1;have m1:c.tmod d.wide<d.wide:=Int.tmod_lt_of_pos _ (by omega)
 have e1:i64.wrap (c.tdiv d.wide)=c.tdiv d.wide:=w64 (by omega) (by omega)
 have e2:i64.wrap (c-d.wide)=c-d.wide:=w64 (by omega) (by omega)
 have e3:i64.wrap (d.wide-1)=d.wide-1:=w64 (by omega) (by omega)
 have e4:i64.wrap (c+1)=c+1:=w64 (by omega) (by omega)
 have e5:i64.wrap (d.high-1)=d.high-1:=w64 (by omega) (by omega)
 have e6:i64.wrap (c+d.wide)=c+d.wide:=w64 (by omega) (by omega)
 have e7:i64.wrap (c-1)=c-1:=w64 (by omega) (by omega)
 have dz:(!decide (d.wide=0))=true:=by simp;omega
 rw[e1,e2,e3,e4,e5,e6,e7];refine QF dz (QF dz ?_);have fin:∀ v:AV,v.same (.int false .i64 (Qb d.wide d.high c s))→(QD.leaf v []).den (Xj 8 (Wz (d,c,s,())).2.1 (Wz (d,c,s,())).2.2):=fun v h=>Kk h rfl
 repeat' refine QI (fun _ => ?_) (fun _ => ?_)
 all_goals refine fin _ ?_
 all_goals simp only[AV.same,Qb,true_and]
 all_goals grind
theorem QRr:QO Try.prog 31 QHc:=
 JX (QP QDt) Try.func31 (by kernel_rfl) (by kernel_rfl) (by decide) QTc QTR
def YC:Tab:=Qd Z5 31 QHc
theorem zi:QZ YC:=QDt.add QRr
def Kt(l:Rw QT)(i:Nat):Bool := !(l.get i).ok
def okR:Bool:=d.play.ok&&(Qf (d.ps.n:Int) 1 9&&(Qf d.wide 1 9&&(Qf d.high 1 9&&((i64.wrap (d.wide*d.high)==(d.ps.n:Int))&&(QQ (Kt d.ps) d.ps.n 0).isNone))))
theorem QKe(p:Qn)(l:Rw QT)(h:1≤l.n):VR p l=(p.ok&&(QQ (Kt l) l.n 0).isNone):=by
 unfold VR;cases hp:p.ok with
 | true=>
  have:JA ⟨p⟩ l=Kt l:=by funext i;simp only[JA,Kt,hp,Bool.true_and]
  rw[this,Bool.true_and]
 | false=>
  obtain⟨m,hm⟩:∃ m,l.n=m+1:=⟨l.n-1,by omega⟩
  rw[hm,QQ];simp only[JA,hp,Bool.false_and,Bool.not_false];rfl
theorem QB0:okR d=d.ok:=by
 rw[Bool.eq_iff_iff];simp only[okR,Puz.ok,Puz.okN,qbA,Qf,qdE,beq_iff_eq];constructor
 ·rintro⟨hp,hn,hw,hh,hm,ha⟩;have m1:d.wide*d.high≤9*9:=Int.mul_le_mul hw.2 hh.2 (by omega) (by omega)
  have m0:0≤d.wide*d.high:=Int.mul_nonneg (by omega) (by omega)
  have e:=hm;rw[w64 (by omega) (by omega)]at e
  have a1:=Int.mul_le_mul_of_nonneg_left (show 1≤d.high from hh.1) (show 0≤d.wide by omega)
  have a2:=Int.mul_le_mul_of_nonneg_right (show 1≤d.wide from hw.1) (show 0≤d.high by omega)
  refine⟨⟨hn,by omega,by omega,hm⟩,?_⟩
  rw[QKe _ _ (by omega),hp,ha];rfl
 ·rintro⟨⟨hn,hw,hh,hm⟩,hs⟩;rw[QKe _ _ (by omega),qbA]at hs
  exact⟨hs.1,hn,by omega,by omega,hm,hs.2⟩
def QAP:JSt:=⟨60,[(1,.ptr 8 0 0),(3,.int false .i64 k)],[(8,.cells 0 28 (QI2 d))]++Qw.blk 0 d.ps,96⟩
def QIr:Ex→List Nat
 | .normal=>[1,3]
 | .exit _=>[]
 | .ret=>[2]
noncomputable abbrev QJ5:List (Nat×Blk):=
  [(8,.cells 0 28 [vi d.play.length,vi d.play.slack,vi d.play.loose,vi d.play.damp.lo,vi d.play.damp.hi,.int
  false .i64 d.wide,vi d.high,.bool false d.turn,.slz 0 0 d.ps.n cO]),(0,.frz [.int .i64,.int .i64,.int .i64,.int .i64,.int .i64,.int .i64,.int .i64,
  .int .i64,.int .i64,.int .i64,.int .i64,.int .i64,.int .i64,.int .i64,.int .i64,.int .i64,.int .i64,.int .i64,.int .i64,.int .i64,.int .i64,.int .i64,.int .i64,.int
  .i64,.int .i64,.int .i64,.int .i64,.int .i64] d.ps.n fun i=>QA.enc (d.ps.get i))]
theorem QSe(g:Nat→Value):exec (mkE Try.prog YC) (hnd (mkE Try.prog YC) 6) (QW Try.f40 0) (JSt.inst (QAP d k) g) (KF [] QIr) = .br (decide ((k:Int)<(d.ps.n:Int))) (.need (decide
  ((0:Int)≤(k:Int)∧(k:Int)<(d.ps.n:Int))&&decide (d.ps.n≤d.ps.n)) (.need (decide (k<d.ps.n)) (.need (true) (.br (!(d.ps.get k).up.ok) (.leaf (.tup [.nili,.ptr 60
  0 0,.bool true false]) ([])) (.need (decide ((0:Int)≤(k:Int)∧(k:Int)<(d.ps.n:Int))&&decide (d.ps.n≤d.ps.n)) (.need (decide (k<d.ps.n)) (.need (true) (.br
  (!(d.ps.get k).right.ok) (.leaf (.tup [.nili,.ptr 60 0 0,.bool true false]) ([])) (.need (decide ((0:Int)≤(k:Int)∧(k:Int)<(d.ps.n:Int))&&decide (d.ps.n≤d.ps.n))
  (.need (decide (k<d.ps.n)) (.need (true) (.br (!(d.ps.get k).down.ok) (.leaf (.tup [.nili,.ptr 60 0 0,.bool true false]) ([])) (.need (decide ((0:Int)≤(k:Int)∧(k:Int)
  < (d.ps.n:Int))&&decide (d.ps.n≤d.ps.n)) (.need (decide (k<d.ps.n)) (.need (true) (.br (!(d.ps.get k).left.ok) (.leaf (.tup [.nili,.ptr 60 0 0,.bool true false]) ([]))
  (.leaf (.tup [.nilp,.ptr 60 0 0,.ptr 8 0 0,vi (i64.wrap ((k:Int)+1))]) ((QJ5 d))))))))))))))))))) (.leaf (.tup [.ptr 0 0 0,.ptr 60 0 0]) ([])):=by kernel_rfl
def vQ:JSt:=⟨60,[(2,.bool false false)],[],96⟩
def QDC:JSt:=⟨60,[],[],96⟩
theorem QTS :QL 8 [AV.bool true false] ([]) vQ=(
  some [false=false]):=by kernel_rfl
theorem QPA :QL 8 [AV.bool true false] ([]) vQ=(
  some [false=false]):=by kernel_rfl
theorem QSD :QL 8 [AV.bool true false] ([]) vQ=(
  some [false=false]):=by kernel_rfl
theorem QS3 :QL 8 [AV.bool true false] ([]) vQ=(
  some [false=false]):=by kernel_rfl
theorem QQy(k k':Nat):QL 8 [.ptr 8 0 0,vi (i64.wrap ((k:Int)+1))] ((QJ5 d)) (QAP d k')=(some [0=0,0=0,i64.wrap ((k:Int)+1)=(k':Int),d.play.length =
  d.play.length,d.play.slack=d.play.slack,d.play.loose=d.play.loose,d.play.damp.lo=d.play.damp.lo,d.play.damp.hi=d.play.damp.hi,d.wide=d.wide,d.high=d.high,d.turn =
  d.turn,0=0,d.ps.n=d.ps.n,cO=cO,d.ps.n≤d.ps.n,QC 28 d.ps.n (fun i=>QA.enc (d.ps.get i)) fun i=>QA.enc (d.ps.get i)]):=by kernel_rfl
theorem QTG :QL 8 [] ([]) QDC=(
  some []):=by kernel_rfl
def QGf(e:Ex)(J:JSt):Prop:=(e = .ret∧(QQ (Kt d.ps) (d.ps.n-k) k).isNone=false∧J=vQ)∨(e = .exit 0∧(QQ (Kt d.ps) (d.ps.n-k) k).isNone=true∧J=QDC)
theorem QPy(hl:d.ps.n≤1000):K0 (QAP d) (fun k=>k≤d.ps.n) (fun k=>d.ps.n-k) (QGf d) 8 QIr [] (mkE Try.prog YC) (fun _=>hnd (mkE Try.prog YC) 6) (QW Try.f40 0):=by
 refine⟨fun k g hk=>Wn (QSe d k g) ?_⟩;refine QI (fun h => ?_) (fun h => ?_)
 ·have h:k<d.ps.n:=by have:=qdt h;omega
  obtain⟨m,hm⟩:∃ m,d.ps.n-k=m+1:=⟨d.ps.n-k-1,by omega⟩
  have hm':d.ps.n-(k+1)=m:=by omega
  have hA:(decide ((0:Int)≤(k:Int)∧(k:Int)<(d.ps.n:Int))&&decide (d.ps.n≤d.ps.n))=true:=by simp;omega
  have hB:decide (k<d.ps.n)=true:=by simp;omega
  have bad:Kt d.ps k=true→QQ (Kt d.ps) (d.ps.n-k) k=some k:=fun q=>by rw[hm,QQ,q]
  have go:Kt d.ps k=false→QQ (Kt d.ps) (d.ps.n-k) k=QQ (Kt d.ps) (d.ps.n-(k+1)) (k+1):=fun q=>by rw[hm,hm',QQ,q]
  have no:Kt d.ps k=true→(QQ (Kt d.ps) (d.ps.n-k) k).isNone=false:=fun q=>by rw[bad q];rfl
  refine QF hA (QF hB (QF rfl (QI (fun h0 => ?_) (fun h0 => ?_))))
  ·have q:Kt d.ps k=true:=by simp only[Bool.not_eq_true']at h0;simp only[Kt,QT.ok,h0,Bool.false_and,Bool.not_false]
   exact⟨_,.inl ⟨rfl,no q,rfl⟩,rfl,rfl,_,QTS,⟨rfl,trivial⟩⟩
  refine QF hA (QF hB (QF rfl (QI (fun h1 => ?_) (fun h1 => ?_))))
  ·have q:Kt d.ps k=true:=by simp only[Bool.not_eq_true']at h1;simp only[Kt,QT.ok,h1,Bool.false_and,Bool.and_false,Bool.not_false]
   exact⟨_,.inl ⟨rfl,no q,rfl⟩,rfl,rfl,_,QPA,⟨rfl,trivial⟩⟩
  refine QF hA (QF hB (QF rfl (QI (fun h2 => ?_) (fun h2 => ?_))))
  ·have q:Kt d.ps k=true:=by simp only[Bool.not_eq_true']at h2;simp only[Kt,QT.ok,h2,Bool.false_and,Bool.and_false,Bool.not_false]
   exact⟨_,.inl ⟨rfl,no q,rfl⟩,rfl,rfl,_,QSD,⟨rfl,trivial⟩⟩
  refine QF hA (QF hB (QF rfl (QI (fun h3 => ?_) (fun h3 => ?_))))
  ·have q:Kt d.ps k=true:=by simp only[Bool.not_eq_true']at h3;simp only[Kt,QT.ok,h3,Bool.and_false,Bool.not_false]
   exact⟨_,.inl ⟨rfl,no q,rfl⟩,rfl,rfl,_,QS3,⟨rfl,trivial⟩⟩
  have q:Kt d.ps k=false:=by simp only[Bool.not_eq_false']at h0 h1 h2 h3;simp only[Kt,QT.ok,h0,h1,h2,h3,Bool.and_self,Bool.not_true]
  have hw:i64.wrap ((k:Int)+1)=((k+1:Nat):Int):=(w64 (by omega) (by omega)).trans (by omega)
  refine⟨k+1,h,by show d.ps.n-(k+1)<d.ps.n-k;omega,fun e J h=>by unfold QGf at h ⊢;rw[go q];exact h,rfl,rfl,_,QQy d k (k+1),?_⟩
  repeat' first|exact trivial|with_reducible rfl|exact qlr _|exact qRr|exact hw|refine And.intro ?_ ?_
 ·have h:d.ps.n≤k:=by have:=of_decide_eq_false h;omega
  have hf:QQ (Kt d.ps) (d.ps.n-k) k=none:=by rw[show d.ps.n-k=0 by omega];rfl
  exact⟨_,.inr ⟨rfl,by rw[hf];rfl,rfl⟩,rfl,rfl,_,QTG,trivial⟩
def QW2:List (Prop×Ex×JSt):=[((QQ (Kt d.ps) d.ps.n 0).isNone=false,.ret,vQ),((QQ (Kt d.ps) d.ps.n 0).isNone=true,.exit 0,QDC)]
abbrev QBc(P:Program)(d:Puz):Hnd:={ hnd (mkE P YC) 1 with loop:=fun _=>Q7 8 [] (QAP d (0:Nat)) (QW2 d) }
theorem QTd(hl:d.ps.n≤1000)(G:Ctx)(hrd:G.rd=none)(hG:G.n=8):Q1 (mkE Try.prog YC) G (QBc Try.prog d) (Qo Try.f40):=by
 refine JF (body:=QW Try.f40 0) (QP zi) hrd (by kernel_rfl) ?_
 refine JG (n0:=8) (QP zi) (by omega) (fun s hs=>Qq (QP zi) 6 G _ hrd) (fun s hs=>(by decide:8≤96)) ?_ (QPy d hl) (s0:=0) (Nat.zero_le _) ?_
 ·rintro s e J (⟨_,_,rfl⟩|⟨_,_,rfl⟩)<;>exact(by decide:8≤96)
 ·rintro e J (⟨rfl,h,rfl⟩|⟨rfl,h,rfl⟩)
  ·exact⟨_,List.mem_cons_self,h,rfl,rfl⟩
  ·exact⟨_,List.mem_cons_of_mem _ List.mem_cons_self,h,rfl,rfl⟩
def Ww:WF (Puz×Unit):=fun|(d,_)=>(decide (d.ps.n≤1000),.bool false d.ok,[])
def QNR:FC:=wFC Ww
theorem QW1 :KR (mkE Try.prog YC) (QBc Try.prog d) Try.f40 (QX.vals 0 ((d,()):Puz×Unit)) (QX.blks 0 ((d,()):Puz×Unit)) 8 = .need (true) (.br (!d.play.ok) (.leaf (.bool
  true false) ([])) (.need (true) (.br (!Qf (d.ps.n:Int) (1:Int) (9:Int)) (.leaf (.bool true false) ([])) (.need (true) (.br (!Qf d.wide (1:Int) (9:Int)) (.leaf
  (.bool true false) ([])) (.need (true) (.br (!Qf d.high (1:Int) (9:Int)) (.leaf (.bool true false) ([])) (.br (i64.wrap (d.wide*d.high) != (d.ps.n:Int)) (.leaf
  (.bool true false) ([])) (.ask (0=0) (.ask (0=0) (.ask ((0:Int)=0) (.ask (d.play.length=d.play.length) (.ask (d.play.slack=d.play.slack) (.ask (d.play.loose =
  d.play.loose) (.ask (d.play.damp.lo=d.play.damp.lo) (.ask (d.play.damp.hi=d.play.damp.hi) (.ask (d.wide=d.wide) (.ask (d.high=d.high) (.ask (d.turn=d.turn) (.ask (0=0)
  (.ask (d.ps.n=d.ps.n) (.ask (cO=cO) (.ask (d.ps.n≤d.ps.n) (.ask (QC 28 d.ps.n (fun i=>QA.enc (d.ps.get i)) fun i=>QA.enc (d.ps.get i)) (.both (.asm
  ((QQ (Kt d.ps) d.ps.n 0).isNone=false) (.all (fun(g0:Nat→Value) => .leaf (.bool false false) ([])))) (.asm ((QQ (Kt d.ps) d.ps.n 0).isNone=true) (.all (fun(g1
  : Nat→Value) => .leaf (.bool true true) ([]))))))))))))))))))))))))))))):=by kernel_rfl
theorem QVg:JN (mkE Try.prog YC) (Qo Try.f40) 8 Ww (fun x_=>(QBc Try.prog x_.1)):=by
 refine⟨?_⟩;rintro⟨d,⟨⟩⟩ hp G h1 h2;exact QTd d (qdt hp) G h1 h2
theorem QRH:JM (mkE Try.prog YC) Try.f40 8 Ww (fun x_=>(QBc Try.prog x_.1)):=by
 refine⟨?_⟩;rintro⟨d,⟨⟩⟩ hp;refine⟨⟨rfl,by simp[Ww],rfl⟩,⟨?_⟩⟩
 rw[QW1 d];simp only[Ww]at hp;have no:okR d=false→(QD.leaf (AV.bool true false) []).den (Xj 8 (Ww (d,())).2.1 (Ww (d,())).2.2):=fun h=>Kk (show false=d.ok by rw[←QB0,h]) rfl
 refine QF rfl (QI (fun h1=>no ?_) (fun h1=>QF rfl (QI (fun h2=>no ?_) (fun h2=>QF rfl (QI (fun h3=>no ?_) (fun h3=>QF rfl (QI (fun h4=>no ?_) (fun h4=>QI (fun h5=>no ?_) (fun h5 => ?_)))))))))
 ·simp only[Bool.not_eq_true']at h1;simp only[okR,h1,Bool.false_and]
 ·simp only[Bool.not_eq_true']at h2;simp only[okR,h2,Bool.false_and,Bool.and_false]
 ·simp only[Bool.not_eq_true']at h3;simp only[okR,h3,Bool.false_and,Bool.and_false]
 ·simp only[Bool.not_eq_true']at h4;simp only[okR,h4,Bool.false_and,Bool.and_false]
 ·have h5:(i64.wrap (d.wide*d.high)==(d.ps.n:Int))=false:=by simpa using h5
  simp only[okR,h5,Bool.false_and,Bool.and_false]
 ·have h5:(i64.wrap (d.wide*d.high)==(d.ps.n:Int))=true:=by simpa using h5
  simp only[Bool.not_eq_false']at h1 h2 h3 h4
  repeat' first|refine QR (show _=_ by with_reducible rfl) ?_|refine QR (show _≤_ from qlr _) ?_|refine QR (show QC _ _ _ _ from qRr) ?_
  refine Xf (KA fun h=>Q6 fun g => ?_) (KA fun h=>Q6 fun g => ?_)
  ·exact Kk (show false=d.ok by rw[←QB0];simp only[okR,h,Bool.and_false]) rfl
  ·exact Kk (show true=d.ok by rw[←QB0];simp only[okR,h1,h2,h3,h4,h5,h,Bool.and_self]) rfl
theorem QQ1:QO Try.prog 40 QNR:=
 JX (QP zi) Try.func40 (by kernel_rfl) (by kernel_rfl) (by decide) QVg QRH
def QCX:Tab:=Qd YC 40 QNR
theorem QG9:QZ QCX:=zi.add QQ1
end Go.Proofs.Ytbpffdkemeoajaa
namespace Go.SX
open Go Go.RowKit Go.Proofs.Ytbpffdkemeoajaa
def qw:Code→Option Nat
 | .region id _ _=>some id
 | .seq a b=>(match qw a with
  | some x=>some x
  | none=>qw b)
 | .block _ a=>qw a
 | .scope a=>qw a
 | .loop a=>qw a
 | _=>none
def QLN(l:List (Nat×(St→(Ex→St→QD)→QD)))(c:Code):St→(Ex→St→QD)→QD:=match qw c with
 | some r=>(match l.find? (fun p=>Nat.beq p.1 r)with
  | some p=>p.2
  | none => fun _ _ => .fail "a loop that is not told")
 | none => fun _ _ => .fail "a loop without a region"
theorem QIB{E:Env}(hE:E.Sound){d:Nat}{G:Ctx}(hG:G.rd=none){c:Code}{L:Code→St→(Ex→St→QD)→QD}(h:∀ s∈Kz c,JS E G s (L s)):Q1 E G { hnd E d with loop:=L } c:=
 ⟨h,(Qq hE d G c hG).call,(Qq hE d G c hG).yield⟩
end Go.SX
namespace Go.Proofs.Ytbpffdkemeoajaa
open Go.SX
variable {f:Nat→Bool}{n:Nat}(x:QE)(k:Nat)
def QEZ:List (Nat×Blk):=[(8,.cells 0 50 (JJ 0 x))]++JY 0 x
def zU:JSt:=⟨97,[(1,.ptr 8 0 0),(3,.int false .i64 k)],QEZ x,96⟩
def vl:JSt:=⟨97,[(1,.ptr 8 0 0),(4,.int false .i64 k)],QEZ x,96⟩
def QOV:Ex→List Nat
 | .normal=>[1,3]
 | .exit _=>[1]
 | .ret=>[2]
def QGV:Ex→List Nat
 | .normal=>[1,4]
 | .exit _=>[1]
 | .ret=>[2]
def vP:JSt:=⟨97,[(2,.bool false false)],[],96⟩
def jI:JSt:=⟨97,[(1,.ptr 8 0 0)],QEZ x,96⟩
def QLc:Int×Int×Int×Unit→Bool×AV:=fun|(n,(a,(b,_)))=>(true,.bool false (Qf n a b))
def QHU:FC:=Q2 (Q3 QLc)
theorem QRX(n:Int)(a:Int)(b:Int):Qy (mkE Try.prog QCX) (hnd (mkE Try.prog QCX) 0) false Try.f63 (Qp.enc ((n,a,b,()):Int×Int×Int×Unit)) [] 0 =
  QD.br (decide (a≤n)) (QD.leaf (AV.bool false (decide (n≤b))) ([])) (QD.leaf (AV.bool true false) ([])):=by kernel_rfl
theorem QPR:QO Try.prog 63 QHU:=by
 refine KC QG9 0 Try.func63 (by kernel_rfl) (by kernel_rfl) ?_
 rintro⟨n,a,b,⟨⟩⟩ hp;rw[QRX n a b];simp only[QLc,QD.den,AV.same,AV.sameL,and_true,true_and]at hp ⊢
 (repeat' (first|(refine And.intro ?_ ?_)|(intro _)))<;>simp_all [Qf]<;>omega
def VT:Tab:=Qd QCX 63 QHU
theorem qU:QZ VT:=QG9.add QPR
noncomputable abbrev QOO:List AV:=
  [.nilp,.ptr 97 0 0,.ptr 8 0 0,vi (i64.wrap ((k:Int)+1))]
abbrev QNK:List CK:=
  [.int .i64,.int .i64,.int .i64,.int .i64,.int .i64,.int .i64,.int .i64,.int .i64,.int .i64,.int .i64,.int .i64,.int .i64,.int .i64,.int .i64,.int .i64,.int .i64,.int
  .i64,.int .i64,.int .i64,.int .i64,.int .i64,.int .i64,.int .i64,.int .i64,.int .i64,.int .i64,.int .i64,.int .i64]
noncomputable abbrev WS:List (Nat×Blk):=
  [(8,.cells 0 50 [vi x.d.play.length,vi x.d.play.slack,vi x.d.play.loose,vi x.d.play.damp.lo,.int false .i64
  x.d.play.damp.hi,vi x.d.wide,vi x.d.high,.bool false x.d.turn,.slz 0 0 x.d.ps.n cO,.slz 1 0 x.scans.n cO,.slz 2 0 x.hang.n (Cap.of
  0),vi x.lost,vi x.foreign]),(0,.frz QNK x.d.ps.n fun i=>QA.enc (x.d.ps.get i)),(1,.frz QNK x.scans.n fun i=>QA.enc (x.scans.get i)),(2,
  .frz [.int .i64,.int .i64,.int .i64,.int .i64] x.hang.n fun i=>QA.enc (x.hang.get i))]
theorem QVO(g:Nat→Value):exec (mkE Try.prog VT) (hnd (mkE Try.prog VT) 6) (QW Try.f35 0) (JSt.inst (zU x k) g) (KF [] QOV) = .br (decide ((k:Int)<(x.scans.n:Int))) (.need (decide
  ((0:Int)≤(k:Int)∧(k:Int)<(x.scans.n:Int))&&decide (x.scans.n≤x.scans.n)) (.need (decide (k<x.scans.n)) (.need (true) (.br (!(x.scans.get k).ok) (.leaf (.tup
  [.nili,.ptr 97 0 0,.bool true false]) ([])) (.leaf (.tup (QOO k)) ((WS x))))))) (.leaf (.tup [.ptr 0 0 0,.ptr 97 0 0,.ptr 8 0 0]) ((WS x))):=by kernel_rfl
theorem QTa(g:Nat→Value):exec (mkS Try.prog VT) (hnd (mkS Try.prog VT) 6) (QW Try.f35 1) (JSt.inst (vl x k) g) (KF [] QGV) = .br (decide ((k:Int)<(x.hang.n:Int))) (.need (decide
  ((0:Int)≤(k:Int)∧(k:Int)<(x.hang.n:Int))&&decide (x.hang.n≤x.hang.n)) (.need (decide (k<x.hang.n)) (.need (true) (.need (!!!Qf (x.hang.get k).a (0:Int)
  (i64.wrap ((x.scans.n:Int)-1)) || !!Qf (x.hang.get k).a (0:Int) (i64.wrap ((x.scans.n:Int)-1))) (.need (!!!Qf (x.hang.get k).a (0:Int)
  (i64.wrap ((x.scans.n:Int)-1)) || !!Qf (x.hang.get k).a (0:Int) (i64.wrap ((x.scans.n:Int)-1))) (.need (!!!Qf (x.hang.get k).a (0:Int)
  (i64.wrap ((x.scans.n:Int)-1)) || !!Qf (x.hang.get k).a (0:Int) (i64.wrap ((x.scans.n:Int)-1))) (.need (!!!Qf (x.hang.get k).a (0:Int)
  (i64.wrap ((x.scans.n:Int)-1)) || !!Qf (x.hang.get k).a (0:Int) (i64.wrap ((x.scans.n:Int)-1))) (.need (!!!Qf (x.hang.get k).a (0:Int)
  (i64.wrap ((x.scans.n:Int)-1))||true&&(!!Qf (x.hang.get k).a (0:Int) (i64.wrap ((x.scans.n:Int)-1)) && !!Qf (x.hang.get k).a (0:Int)
  (i64.wrap ((x.scans.n:Int)-1)))) (.need (!!!Qf (x.hang.get k).a (0:Int) (i64.wrap ((x.scans.n:Int)-1)) || !!Qf (x.hang.get k).a (0:Int)
  (i64.wrap ((x.scans.n:Int)-1))) (.need (!Qf (x.hang.get k).a (0:Int) (i64.wrap ((x.scans.n:Int)-1)) || !!Qf (x.hang.get k).a (0:Int)
  (i64.wrap ((x.scans.n:Int)-1))) (.bnd (!Qf (x.hang.get k).a (0:Int) (i64.wrap ((x.scans.n:Int)-1)) || !Qf (x.hang.get k).b (0:Int)
  (i64.wrap ((x.scans.n:Int)-1))) (fun(x0:Bool) => .need (!!x0 || !x0) (.need (!!x0 || !x0) (.need (!!x0 || !x0 && !x0) (.need (x0 || !x0) (.bnd (x0||(x.hang.get k).a
  == (x.hang.get k).b) (fun(x1:Bool) => .need (!!x1 || !x1) (.need (!!x1||true && !x1) (.need (!!x1 || !x1) (.need (x1 || !x1) (.bnd (x1 || !Qf (x.hang.get k).i (0:Int) (3
  : Int)) (fun(x2:Bool) => .need (!!x2 || !x2) (.need (!!x2||true && !x2) (.need (!!x2 || !x2) (.need (x2 || !x2) (.bnd (x2 || !Qf (x.hang.get k).j (0:Int) (3:Int)) (fun
  (x3:Bool) => .br (x3) (.leaf (.tup [.nili,.ptr 97 0 0,.bool true false]) ([])) (.leaf (.tup (QOO k)) ((WS x)))))))))))))))))))))))))))))) (.leaf (.tup [.ptr 2 0 0,.ptr 97 0
  0,.ptr 8 0 0]) ((WS x))):=by kernel_rfl
theorem QUP :QL 8 [AV.bool true false] ([]) vP=(
  some [false=false]):=by kernel_rfl
abbrev QK3(k':Nat)(x:QE):List Prop:=
  [0=0,0=0,i64.wrap ((k:Int)+1)=(k':Int),x.d.play.length=x.d.play.length,x.d.play.slack=x.d.play.slack,x.d.play.loose=x.d.play.loose,x.d.play.damp.lo =
  x.d.play.damp.lo,x.d.play.damp.hi=x.d.play.damp.hi,x.d.wide=x.d.wide,x.d.high=x.d.high,x.d.turn=x.d.turn,0=0,x.d.ps.n=x.d.ps.n,cO=cO,0=0,
  x.scans.n=x.scans.n,cO=cO,0=0,x.hang.n=x.hang.n,cO=cO,x.lost=x.lost,x.foreign=x.foreign,x.d.ps.n≤x.d.ps.n,QC 28 x.d.ps.n (fun i
  => QA.enc (x.d.ps.get i)) fun i=>QA.enc (x.d.ps.get i),x.scans.n≤x.scans.n,QC 28 x.scans.n (fun i=>QA.enc (x.scans.get i)) fun i=>QA.enc (x.scans.get i),
  x.hang.n≤x.hang.n,QC 4 x.hang.n (fun i=>QA.enc (x.hang.get i)) fun i=>QA.enc (x.hang.get i)]
theorem QYG(k k':Nat):QL 8 [.ptr 8 0 0,vi (i64.wrap ((k:Int)+1))] ((WS x)) (zU x k')=(some (QK3 k k' x)):=by kernel_rfl
abbrev QK2:List Prop:=
  [0=0,0=0,x.d.play.length=x.d.play.length,x.d.play.slack=x.d.play.slack,x.d.play.loose=x.d.play.loose,x.d.play.damp.lo=x.d.play.damp.lo,x.d.play.damp.hi =
  x.d.play.damp.hi,x.d.wide=x.d.wide,x.d.high=x.d.high,x.d.turn=x.d.turn,0=0,x.d.ps.n=x.d.ps.n,cO=cO,0=0,x.scans.n=x.scans.n,cO=cO,
  0=0,x.hang.n=x.hang.n,cO=cO,x.lost=x.lost,x.foreign=x.foreign,x.d.ps.n≤x.d.ps.n,QC 28 x.d.ps.n (fun i=>QA.enc (x.d.ps.get i)) fun i=>QA.enc
  (x.d.ps.get i),x.scans.n≤x.scans.n,QC 28 x.scans.n (fun i=>QA.enc (x.scans.get i)) fun i=>QA.enc (x.scans.get i),x.hang.n≤x.hang.n,QC 4 x.hang.n (fun i=>
  QA.enc (x.hang.get i)) fun i=>QA.enc (x.hang.get i)]
theorem QYA :QL 8 [.ptr 8 0 0] ((WS x)) (jI x)=(some (QK2 x)):=by kernel_rfl
theorem QX8 :QL 8 [AV.bool true false] ([]) vP=(
  some [false=false]):=by kernel_rfl
theorem QZY(k k':Nat):QL 8 [.ptr 8 0 0,vi (i64.wrap ((k:Int)+1))] ((WS x)) (vl x k')=(some (QK3 k k' x)):=by kernel_rfl
theorem QVI :QL 8 [.ptr 8 0 0] ((WS x)) (jI x)=(some (QK2 x)):=by kernel_rfl
def Yl:Bool := !(x.scans.get k).ok
def QOA(e:Ex)(J:JSt):Prop:=(e = .ret∧(QQ (Yl x) (x.scans.n-k) k).isNone=false∧J=vP)∨(e = .exit 0∧(QQ (Yl x) (x.scans.n-k) k).isNone=true∧J=jI x)
def QLS(e:Ex)(J:JSt):Prop:=(e = .ret∧(QQ (K8 x) (x.hang.n-k) k).isNone=false∧J=vP)∨(e = .exit 2∧(QQ (K8 x) (x.hang.n-k) k).isNone=true∧J=jI x)
theorem QMP{k:Nat}(h:k<n)(q:f k=true):(QQ f (n-k) k).isNone=false:=by
 obtain⟨m,hm⟩:∃ m,n-k=m+1:=⟨n-k-1,by omega⟩
 rw[hm,QQ,q];rfl
theorem QN6{k:Nat}(h:k<n)(q:f k=false):QQ f (n-k) k=QQ f (n-(k+1)) (k+1):=by
 obtain⟨m,hm⟩:∃ m,n-k=m+1:=⟨n-k-1,by omega⟩
 rw[hm,show n-(k+1)=m by omega,QQ,q]
theorem QMV{k:Nat}(h:n≤k):(QQ f (n-k) k).isNone=true:=by
 rw[show n-k=0 by omega];rfl
theorem QWD(hl:x.scans.n≤1000):K0 (zU x) (fun k=>k≤x.scans.n) (fun k=>x.scans.n-k) (QOA x) 8 QOV [] (mkE Try.prog VT) (fun _=>hnd (mkE Try.prog VT) 6) (QW Try.f35 0):=by
 refine⟨fun k g hk=>Qt (QVO x k g) ?_⟩;refine QI (fun h => ?_) (fun h => ?_)
 ·have h:k<x.scans.n:=by have:=qdt h;omega
  refine QF (by simp;omega) (QF (by simp;omega) (QF rfl (QI (fun q => ?_) (fun q => ?_))))
  ·exact⟨_,.inl ⟨rfl,QMP h q,rfl⟩,rfl,rfl,_,QUP,⟨rfl,trivial⟩⟩
  ·refine⟨k+1,h,by show x.scans.n-(k+1)<x.scans.n-k;omega,fun e J r=>by unfold QOA at r ⊢;rw[QN6 h q];exact r,rfl,rfl,_,QYG x k (k+1),?_⟩
   repeat' first|with_reducible refine QN ?_ ?_|exact trivial|with_reducible rfl|exact qlr _|exact qRr|exact Kj h hl|refine And.intro ?_ ?_
 ·have h:x.scans.n≤k:=by have:=of_decide_eq_false h;omega
  refine⟨_,.inr ⟨rfl,QMV h,rfl⟩,rfl,rfl,_,QYA x,?_⟩
  repeat' first|with_reducible refine QN ?_ ?_|exact trivial|with_reducible rfl|exact qlr _|exact qRr|refine And.intro ?_ ?_
theorem QVm(hl:x.hang.n≤1000):K0 (vl x) (fun k=>k≤x.hang.n) (fun k=>x.hang.n-k) (QLS x) 8 QGV [] (mkS Try.prog VT) (fun _=>hnd (mkS Try.prog VT) 6) (QW Try.f35 1):=by
 refine⟨fun k g hk=>Qt (QTa x k g) ?_⟩;refine QI (fun h => ?_) (fun h => ?_)
 ·have h:k<x.hang.n:=by have:=qdt h;omega
  refine QF (by simp;omega) (QF (by simp;omega) ?_)
  have hb:K8 x k=(!Qf (x.hang.get k).a 0 (i64.wrap ((x.scans.n:Int)-1))||(!Qf (x.hang.get k).b 0 (i64.wrap ((x.scans.n:Int)-1))||(((x.hang.get k).a==(x.hang.get k).b)||(!Qf (x.hang.get k).i 0 3 || !Qf (x.hang.get k).j 0 3)))):=rfl
  generalize Qf (x.hang.get k).a 0 (i64.wrap ((x.scans.n:Int)-1))=w1 at hb ⊢;generalize Qf (x.hang.get k).b 0 (i64.wrap ((x.scans.n:Int)-1))=w2 at hb ⊢;generalize ((x.hang.get k).a==(x.hang.get k).b)=w3 at hb ⊢;generalize Qf (x.hang.get k).i 0 3=w4 at hb ⊢;generalize Qf (x.hang.get k).j 0 3=w5 at hb ⊢
  repeat' first|refine QF rfl ?_|refine QF (by grind) ?_|refine Yb fun z hz => ?_
  refine QI (fun q => ?_) (fun q => ?_)
  ·exact⟨_,.inl ⟨rfl,QMP h (by grind),rfl⟩,rfl,rfl,_,QX8,⟨rfl,trivial⟩⟩
  ·refine⟨k+1,h,by show x.hang.n-(k+1)<x.hang.n-k;omega,fun e J r=>by unfold QLS at r ⊢;rw[QN6 h (by grind)];exact r,rfl,rfl,_,QZY x k (k+1),?_⟩
   repeat' first|with_reducible refine QN ?_ ?_|exact trivial|with_reducible rfl|exact qlr _|exact qRr|exact Kj h hl|refine And.intro ?_ ?_
 ·have h:x.hang.n≤k:=by have:=of_decide_eq_false h;omega
  refine⟨_,.inr ⟨rfl,QMV h,rfl⟩,rfl,rfl,_,QVI x,?_⟩
  repeat' first|with_reducible refine QN ?_ ?_|exact trivial|with_reducible rfl|exact qlr _|exact qRr|refine And.intro ?_ ?_
def QOk:List (Prop×Ex×JSt):=[((QQ (Yl x) x.scans.n 0).isNone=false,.ret,vP),((QQ (Yl x) x.scans.n 0).isNone=true,.exit 0,jI x)]
def QN0:List (Prop×Ex×JSt):=[((QQ (K8 x) x.hang.n 0).isNone=false,.ret,vP),((QQ (K8 x) x.hang.n 0).isNone=true,.exit 2,jI x)]
abbrev QCw:Code→St→(Ex→St→QD)→QD:=QLN [(4,Q7 8 [] (zU x (0:Nat)) (QOk x)),(9,Q7 8 [] (vl x (0:Nat)) (QN0 x))]
abbrev Hz(P:Program)(x:QE):Hnd:={ hnd (mkS P VT) 1 with loop:=QCw x }
theorem QO4(hs:x.scans.n≤1000)(hh:x.hang.n≤1000)(G:Ctx)(hrd:G.rd=none)(hG:G.n=8):Q1 (mkS Try.prog VT) G (Hz Try.prog x) (Qo Try.f35):=by
 refine QIB (Yp qU) hrd fun c hc => ?_;have he:Kz (Qo Try.f35)=[.loop (QW Try.f35 0),.loop (QW Try.f35 1)]:=by kernel_rfl
 rw[he]at hc;simp only[List.mem_cons,List.not_mem_nil,or_false]at hc;rcases hc with rfl|rfl
 ·have e1:QCw x (.loop (QW Try.f35 0))=Q7 8 [] (zU x (0:Nat)) (QOk x):=by kernel_rfl
  rw[e1];refine X0 (E:=mkE Try.prog VT) rfl (JG (n0:=8) (QP qU) (by omega) (fun s hs=>Qq (QP qU) 6 G _ hrd) (fun s hs=>(by decide:8≤96)) ?_ (QWD x hs) (s0:=0) (Nat.zero_le _) ?_)
  ·rintro s e J (⟨_,_,rfl⟩|⟨_,_,rfl⟩)<;>exact(by decide:8≤96)
  ·rintro e J (⟨rfl,h,rfl⟩|⟨rfl,h,rfl⟩)
   ·exact⟨_,List.mem_cons_self,h,rfl,rfl⟩
   ·exact⟨_,List.mem_cons_of_mem _ List.mem_cons_self,h,rfl,rfl⟩
 ·have e1:QCw x (.loop (QW Try.f35 1))=Q7 8 [] (vl x (0:Nat)) (QN0 x):=by kernel_rfl
  rw[e1];refine JG (n0:=8) (Yp qU) (by omega) (fun s hs=>Qq (Yp qU) 6 G _ hrd) (fun s hs=>(by decide:8≤96)) ?_ (QVm x hh) (s0:=0) (Nat.zero_le _) ?_
  ·rintro s e J (⟨_,_,rfl⟩|⟨_,_,rfl⟩)<;>exact(by decide:8≤96)
  ·rintro e J (⟨rfl,h,rfl⟩|⟨rfl,h,rfl⟩)
   ·exact⟨_,List.mem_cons_self,h,rfl,rfl⟩
   ·exact⟨_,List.mem_cons_of_mem _ List.mem_cons_self,h,rfl,rfl⟩
end Go.Proofs.Ytbpffdkemeoajaa
