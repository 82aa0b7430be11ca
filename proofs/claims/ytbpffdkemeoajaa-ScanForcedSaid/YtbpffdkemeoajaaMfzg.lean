/- - -/
import Derived.Test.YtbpffdkemeoajaaMfzf
open Go.IntKind (i64)
set_option maxRecDepth 100000
namespace Go.Proofs.Ytbpffdkemeoajaa
open Go.SX
def QG5:Int×Int×Int×Unit→Bool×AV:=fun|(n,(a,(b,_)))=>(true,.bool false (QW n a b))
def QKQ:FC:=Q8 (KA QG5)
theorem QPd(n:Int)(a:Int)(b:Int):Q5 (mkE Try.prog H4) (hnd (mkE Try.prog H4) 0) false Try.f68 (Qt.enc ((n,a,b,()):Int×Int×Int×Unit)) [] 0 =
  QD.br (decide (a≤n)) (QD.leaf (AV.bool false (decide (n≤b))) ([])) (QD.leaf (AV.bool true false) ([])):=by kernel_rfl
theorem QP3:QP Try.prog 68 QKQ:=by
 refine KN QK2 0 Try.func68 (by kernel_rfl) (by kernel_rfl) ?_
 rintro⟨n,a,b,⟨⟩⟩ hp;rw[QPd n a b];simp only[QG5,QD.den,AV.same,AV.sameL,and_true,true_and]at hp ⊢
 (repeat' (first|(refine And.intro ?_ ?_)|(intro _)))<;>simp_all [QW]<;>omega
def QBf:Tab:=Qg H4 68 QKQ
theorem QIm:QZ QBf:=QK2.add QP3
def QNJ:Sp×Sp×Unit→Bool×AV:=fun|(a,(b,_))=>(true,.bool false (com a b))
def QH8:FC:=Q8 (KA QNJ)
theorem QP1(a:Sp)(b:Sp):Q5 (mkE Try.prog QBf) (hnd (mkE Try.prog QBf) 0) false Try.f102 (Qt.enc ((a,b,()):Sp×Sp×Unit)) [] 0 =
  QD.br (decide (a.lo≤b.hi)) (QD.leaf (AV.bool false (decide (b.lo≤a.hi))) ([])) (QD.leaf (AV.bool true false) ([])):=by kernel_rfl
theorem QSb:QP Try.prog 102 QH8:=by
 refine KN QIm 0 Try.func102 (by kernel_rfl) (by kernel_rfl) ?_
 rintro⟨a,b,⟨⟩⟩ hp;rw[QP1 a b];simp only[QNJ,QD.den,AV.same,AV.sameL,and_true,true_and]at hp ⊢;simp only[com];refine⟨fun h => ?_,fun h => ?_⟩
 ·rw[h];simp
 ·rw[h];simp
def QBA:Tab:=Qg QBf 102 QH8
theorem QMV:QZ QBA:=QIm.add QSb
def QOm:Edge×Edge×Unit→Bool×AV:=fun|(a,(b,_))=>(true,.bool false (isS a b))
def QH6:FC:=Q8 (KA QOm)
theorem QXd(a:Edge)(b:Edge):Q5 (mkE Try.prog QBA) (hnd (mkE Try.prog QBA) 0) false Try.f88 (Qt.enc ((a,b,()):Edge×Edge×Unit)) [] 0 =
  QD.br (a.kind==b.kind) (QD.br (a.kind==(0:Int)) (QD.leaf (AV.bool true true) ([])) (QD.need (true) (QD.br (com a.at_ b.at_) (QD.need (true) (QD.br (com a.wide
  b.wide) (QD.need (true) (QD.leaf (AV.bool false (com a.deep b.deep)) ([]))) (QD.leaf (AV.bool true false) ([])))) (QD.leaf (AV.bool true false) ([]))))) (QD.leaf (AV.bool
  true false) ([])):=by kernel_rfl
theorem QPF:QP Try.prog 88 QH6:=by
 refine KN QMV 0 Try.func88 (by kernel_rfl) (by kernel_rfl) ?_
 rintro⟨a,b,⟨⟩⟩ hp;rw[QXd a b];simp only[QOm,QD.den,AV.same,AV.sameL,and_true,true_and]at hp ⊢;simp only[isS,isF];generalize com a.at_ b.at_=c1
 generalize com a.wide b.wide=c2;generalize com a.deep b.deep=c3
 by_cases h:a.kind=b.kind
 ·by_cases h0:b.kind=0
  ·simp[h,h0]
  ·cases c1<;>cases c2<;>cases c3<;>simp[h,h0]
 ·by_cases h0:a.kind=0
  ·have:¬ b.kind=0:=fun e=>h (by rw[h0,e])
   have h':¬ 0=b.kind:=fun e=>this e.symm;simp[h0,this,h']
  ·simp[h,h0]
def QAx:Tab:=Qg QBA 88 QH6
theorem QNE:QZ QAx:=QMV.add QPF
def QJ2:QS×Unit→Bool×AV:=fun|(s,_)=>(true,.bool false s.ok)
def QKS:FC:=Q8 (KA QJ2)
theorem QVy(s:QS):Q5 (mkE Try.prog QAx) (hnd (mkE Try.prog QAx) 6) false Try.f28 (Qt.enc ((s,()):QS×Unit)) [] 0 =
  QD.need (true) (QD.br (!s.up.ok) (QD.leaf (AV.bool true false) ([])) (QD.need (true) (QD.br (!s.right.ok) (QD.leaf (AV.bool true false) ([])) (QD.need (true) (QD.br
  (!s.down.ok) (QD.leaf (AV.bool true false) ([])) (QD.need (true) (QD.br (!s.left.ok) (QD.leaf (AV.bool true false) ([])) (QD.leaf (AV.bool true true) ([]))))))))):=by kernel_rfl
theorem QUV:QP Try.prog 28 QKS:=by
 refine KN QNE 6 Try.func28 (by kernel_rfl) (by kernel_rfl) ?_
 rintro⟨s,⟨⟩⟩ hp;rw[QVy s];simp only[QJ2,QD.den,AV.same,AV.sameL,and_true,true_and]at hp ⊢;simp only[QS.ok];cases s.up.ok<;>cases s.right.ok<;>cases s.down.ok<;>cases s.left.ok<;>simp
def WK:Tab:=Qg QAx 28 QKS
theorem QFy:QZ WK:=QNE.add QUV
def Gd:WF (Puz×Edge×Edge×Unit):=fun|(d,(a,(b,_)))=>(decide (d.ps.n≤1000),.int false .i64 (KQ d.play a b).1,[])
def QHR:FC:=wFC Gd
variable (d:Puz)(k:Nat)
theorem QWi(a:Edge)(b:Edge):KO (mkE Try.prog WK) (hnd (mkE Try.prog WK) 0) Try.f41 (QV.vals 0 ((d,a,b,()):Puz×Edge×Edge×Unit)) (QV.blks 0 ((d,a,b,()):Puz×Edge×Edge×Unit)) 8 =
  QD.need (true) (QD.leaf (AV.int false i64 (KQ d.play a b).1) ([])):=by kernel_rfl
theorem QTr:JN (mkE Try.prog WK) (Qs Try.f41) 8 Gd (fun x_=>(hnd (mkE Try.prog WK) 0)):=by
 refine⟨?_⟩;rintro⟨d,⟨a,⟨b,⟨⟩⟩⟩⟩ hp G h1 h2;exact Qy (QT QFy) 0 G _ h1
theorem QXT:JS (mkE Try.prog WK) Try.f41 8 Gd (fun x_=>(hnd (mkE Try.prog WK) 0)):=by
 refine⟨?_⟩;rintro⟨d,⟨a,⟨b,⟨⟩⟩⟩⟩ hp;refine⟨⟨rfl,by simp[Gd],rfl⟩,⟨?_⟩⟩
 rw[QWi d a b];simp only[Gd]at hp;refine QF rfl (Kp ?_ rfl);exact⟨rfl,rfl⟩
theorem QVF:QP Try.prog 41 QHR:=
 Jc (QT QFy) Try.func41 (by kernel_rfl) (by kernel_rfl) (by decide) QTr QXT
def WM:Tab:=Qg WK 41 QHR
theorem QCv:QZ WM:=QFy.add QVF
def qq:WF (Puz×Int×Int×Unit):=fun|(d,(c,(s,_)))=>(decide ((1≤d.wide∧d.wide≤100)∧(1≤d.high∧d.high≤100)∧(0≤c∧c≤100)),.int false .i64 (Qc d.wide d.high c s),[])
def QMZ:FC:=wFC qq
theorem QTL(c:Int)(s:Int):KO (mkE Try.prog WM) (hnd (mkE Try.prog WM) 0) Try.f31 (QV.vals 0 ((d,c,s,()):Puz×Int×Int×Unit)) (QV.blks 0 ((d,c,s,()):Puz×Int×Int ×
  Unit)) 8 = .need (!decide (d.wide=0)) (.need (!decide (d.wide=0)) (.br (s==0) (.br (decide (i64.wrap (c.tdiv d.wide)>0)) (.leaf (.int false .i64 (i64.wrap (c
  - d.wide))) ([])) (.br (s==1) (.br (decide (c.tmod d.wide<i64.wrap (d.wide-1))) (.leaf (.int false .i64 (i64.wrap (c+1))) ([])) (.br (s==2) (.br (decide
  (i64.wrap (c.tdiv d.wide)<i64.wrap (d.high-1))) (.leaf (.int false .i64 (i64.wrap (c+d.wide))) ([])) (.br (s==3) (.br (decide (c.tmod d.wide>0))
  (.leaf (.int false .i64 (i64.wrap (c-1))) ([])) (.leaf (.int true .i64 (-1)) ([]))) (.leaf (.int true .i64 (-1)) ([])))) (.br (s==3) (.br (decide (c.tmod d.wide>0))
  (.leaf (.int false .i64 (i64.wrap (c-1))) ([])) (.leaf (.int true .i64 (-1)) ([]))) (.leaf (.int true .i64 (-1)) ([]))))) (.br (s==2) (.br (decide (i64.wrap
  (c.tdiv d.wide)<i64.wrap (d.high-1))) (.leaf (.int false .i64 (i64.wrap (c+d.wide))) ([])) (.br (s==3) (.br (decide (c.tmod d.wide>0)) (.leaf (.int false
  .i64 (i64.wrap (c-1))) ([])) (.leaf (.int true .i64 (-1)) ([]))) (.leaf (.int true .i64 (-1)) ([])))) (.br (s==3) (.br (decide (c.tmod d.wide>0)) (.leaf (.int false
  .i64 (i64.wrap (c-1))) ([])) (.leaf (.int true .i64 (-1)) ([]))) (.leaf (.int true .i64 (-1)) ([])))))) (.br (s==1) (.br (decide (c.tmod d.wide<i64.wrap
  (d.wide-1))) (.leaf (.int false .i64 (i64.wrap (c+1))) ([])) (.br (s==2) (.br (decide (i64.wrap (c.tdiv d.wide)<i64.wrap (d.high-1))) (.leaf (.int
  false .i64 (i64.wrap (c+d.wide))) ([])) (.br (s==3) (.br (decide (c.tmod d.wide>0)) (.leaf (.int false .i64 (i64.wrap (c-1))) ([])) (.leaf (.int true .i64
  (-1)) ([]))) (.leaf (.int true .i64 (-1)) ([])))) (.br (s==3) (.br (decide (c.tmod d.wide>0)) (.leaf (.int false .i64 (i64.wrap (c-1))) ([])) (.leaf (.int true .i64
  (-1)) ([]))) (.leaf (.int true .i64 (-1)) ([]))))) (.br (s==2) (.br (decide (i64.wrap (c.tdiv d.wide)<i64.wrap (d.high-1))) (.leaf (.int false .i64
  (i64.wrap (c+d.wide))) ([])) (.br (s==3) (.br (decide (c.tmod d.wide>0)) (.leaf (.int false .i64 (i64.wrap (c-1))) ([])) (.leaf (.int true .i64 (-1)) ([])))
  (.leaf (.int true .i64 (-1)) ([])))) (.br (s==3) (.br (decide (c.tmod d.wide>0)) (.leaf (.int false .i64 (i64.wrap (c-1))) ([])) (.leaf (.int true .i64 (-1)) ([])))
  (.leaf (.int true .i64 (-1)) ([]))))))):=by kernel_rfl
theorem QYH:JN (mkE Try.prog WM) (Qs Try.f31) 8 qq (fun x_=>(hnd (mkE Try.prog WM) 0)):=by
 refine⟨?_⟩;rintro⟨d,⟨c,⟨s,⟨⟩⟩⟩⟩ hp G h1 h2;exact Qy (QT QCv) 0 G _ h1
theorem QSG:JS (mkE Try.prog WM) Try.f31 8 qq (fun x_=>(hnd (mkE Try.prog WM) 0)):=by
 refine⟨?_⟩;rintro⟨d,⟨c,⟨s,⟨⟩⟩⟩⟩ hp;refine⟨⟨rfl,by simp[qq],rfl⟩,⟨?_⟩⟩
 rw[QTL d c s];simp only[qq]at hp;obtain⟨⟨w1,w2⟩,⟨h1,h2⟩,c1,c2⟩:=qdt hp;have q0:0≤c.tdiv d.wide:=Int.tdiv_nonneg c1 (by omega)
 have q1:c.tdiv d.wide≤c:=by rw[Int.tdiv_eq_ediv_of_nonneg c1];exact Int.ediv_le_self _ c1
 have m0:0≤c.tmod d.wide:=Int.tmod_nonneg _ c1;have m1:c.tmod d.wide<d.wide:=Int.tmod_lt_of_pos _ (by omega)
 have e1:i64.wrap (c.tdiv d.wide)=c.tdiv d.wide:=w64 (by omega) (by omega)
 have e2:i64.wrap (c-d.wide)=c-d.wide:=w64 (by omega) (by omega)
 have e3:i64.wrap (d.wide-1)=d.wide-1:=w64 (by omega) (by omega)
 have e4:i64.wrap (c+1)=c+1:=w64 (by omega) (by omega)
 have e5:i64.wrap (d.high-1)=d.high-1:=w64 (by omega) (by omega)
 have e6:i64.wrap (c+d.wide)=c+d.wide:=w64 (by omega) (by omega)
 have e7:i64.wrap (c-1)=c-1:=w64 (by omega) (by omega)
 have dz:(!decide (d.wide=0))=true:=by simp;omega
 rw[e1,e2,e3,e4,e5,e6,e7];refine QF dz (QF dz ?_);have fin:∀ v:AV,v.same (.int false .i64 (Qc d.wide d.high c s))→(QD.leaf v []).den (Vg 8 (qq (d,c,s,())).2.1 (qq (d,c,s,())).2.2):=fun v h=>Kp h rfl
 repeat' refine QG (fun _ => ?_) (fun _ => ?_)
 all_goals refine fin _ ?_
 all_goals simp only[AV.same,Qc,true_and]
 all_goals grind
theorem QY8:QP Try.prog 31 QMZ:=
 Jc (QT QCv) Try.func31 (by kernel_rfl) (by kernel_rfl) (by decide) QYH QSG
def YL:Tab:=Qg WM 31 QMZ
theorem zx:QZ YL:=QCv.add QY8
def K2(l:Rw QS)(i:Nat):Bool := !(l.get i).ok
def okR:Bool:=d.play.ok&&(QW (d.ps.n:Int) 1 9&&(QW d.wide 1 9&&(QW d.high 1 9&&((i64.wrap (d.wide*d.high)==(d.ps.n:Int))&&(QM (K2 d.ps) d.ps.n 0).isNone))))
theorem QOS(p:Qq)(l:Rw QS)(h:1≤l.n):VK p l=(p.ok&&(QM (K2 l) l.n 0).isNone):=by
 unfold VK;cases hp:p.ok with
 | true=>
  have:Kz ⟨p⟩ l=K2 l:=by funext i;simp only[Kz,K2,hp,Bool.true_and]
  rw[this,Bool.true_and]
 | false=>
  obtain⟨m,hm⟩:∃ m,l.n=m+1:=⟨l.n-1,by omega⟩
  rw[hm,QM];simp only[Kz,hp,Bool.false_and,Bool.not_false];rfl
theorem Hp:okR d=d.ok:=by
 rw[Bool.eq_iff_iff];simp only[okR,Puz.ok,Puz.okN,qbA,QW,qdE,beq_iff_eq];constructor
 ·rintro⟨hp,hn,hw,hh,hm,ha⟩;have m1:d.wide*d.high≤9*9:=Int.mul_le_mul hw.2 hh.2 (by omega) (by omega)
  have m0:0≤d.wide*d.high:=Int.mul_nonneg (by omega) (by omega)
  have e:=hm;rw[w64 (by omega) (by omega)]at e
  have a1:=Int.mul_le_mul_of_nonneg_left (show 1≤d.high from hh.1) (show 0≤d.wide by omega)
  have a2:=Int.mul_le_mul_of_nonneg_right (show 1≤d.wide from hw.1) (show 0≤d.high by omega)
  refine⟨⟨hn,by omega,by omega,hm⟩,?_⟩
  rw[QOS _ _ (by omega),hp,ha];rfl
 ·rintro⟨⟨hn,hw,hh,hm⟩,hs⟩;rw[QOS _ _ (by omega),qbA]at hs
  exact⟨hs.1,hn,by omega,by omega,hm,hs.2⟩
def QAS:JSt:=⟨60,[(1,.ptr 8 0 0),(3,.int false .i64 k)],[(8,.cells 0 28 (QJJ d))]++Q7.blk 0 d.ps,96⟩
def QI1:Ex→List Nat
 | .normal=>[1,3]
 | .exit _=>[]
 | .ret=>[2]
noncomputable abbrev QHY:List (Nat×Blk):=
  [(8,.cells 0 28 [vi d.play.length,vi d.play.slack,vi d.play.loose,vi d.play.damp.lo,vi d.play.damp.hi,.int
  false .i64 d.wide,vi d.high,.bool false d.turn,.slz 0 0 d.ps.n cO]),(0,.frz [.int .i64,.int .i64,.int .i64,.int .i64,.int .i64,.int .i64,.int .i64,
  .int .i64,.int .i64,.int .i64,.int .i64,.int .i64,.int .i64,.int .i64,.int .i64,.int .i64,.int .i64,.int .i64,.int .i64,.int .i64,.int .i64,.int .i64,.int .i64,.int
  .i64,.int .i64,.int .i64,.int .i64,.int .i64] d.ps.n fun i=>QA.enc (d.ps.get i))]
theorem QSV(g:Nat→Value):exec (mkE Try.prog YL) (hnd (mkE Try.prog YL) 6) (QX Try.f40 0) (JSt.inst (QAS d k) g) (KT [] QI1) = .br (decide ((k:Int)<(d.ps.n:Int))) (.need (decide
  ((0:Int)≤(k:Int)∧(k:Int)<(d.ps.n:Int))&&decide (d.ps.n≤d.ps.n)) (.need (decide (k<d.ps.n)) (.need (true) (.br (!(d.ps.get k).up.ok) (.leaf (.tup [.nili,.ptr 60
  0 0,.bool true false]) ([])) (.need (decide ((0:Int)≤(k:Int)∧(k:Int)<(d.ps.n:Int))&&decide (d.ps.n≤d.ps.n)) (.need (decide (k<d.ps.n)) (.need (true) (.br
  (!(d.ps.get k).right.ok) (.leaf (.tup [.nili,.ptr 60 0 0,.bool true false]) ([])) (.need (decide ((0:Int)≤(k:Int)∧(k:Int)<(d.ps.n:Int))&&decide (d.ps.n≤d.ps.n))
  (.need (decide (k<d.ps.n)) (.need (true) (.br (!(d.ps.get k).down.ok) (.leaf (.tup [.nili,.ptr 60 0 0,.bool true false]) ([])) (.need (decide ((0:Int)≤(k:Int)∧(k:Int)
  < (d.ps.n:Int))&&decide (d.ps.n≤d.ps.n)) (.need (decide (k<d.ps.n)) (.need (true) (.br (!(d.ps.get k).left.ok) (.leaf (.tup [.nili,.ptr 60 0 0,.bool true false]) ([]))
  (.leaf (.tup [.nilp,.ptr 60 0 0,.ptr 8 0 0,vi (i64.wrap ((k:Int)+1))]) ((QHY d))))))))))))))))))) (.leaf (.tup [.ptr 0 0 0,.ptr 60 0 0]) ([])):=by kernel_rfl
def jQ:JSt:=⟨60,[(2,.bool false false)],[],96⟩
def QC7:JSt:=⟨60,[],[],96⟩
theorem QTK :QL 8 [AV.bool true false] ([]) jQ=(
  some [false=false]):=by kernel_rfl
theorem QT3 :QL 8 [AV.bool true false] ([]) jQ=(
  some [false=false]):=by kernel_rfl
theorem QTd :QL 8 [AV.bool true false] ([]) jQ=(
  some [false=false]):=by kernel_rfl
theorem QSm :QL 8 [AV.bool true false] ([]) jQ=(
  some [false=false]):=by kernel_rfl
theorem QWd(k k':Nat):QL 8 [.ptr 8 0 0,vi (i64.wrap ((k:Int)+1))] ((QHY d)) (QAS d k')=(some [0=0,0=0,i64.wrap ((k:Int)+1)=(k':Int),d.play.length =
  d.play.length,d.play.slack=d.play.slack,d.play.loose=d.play.loose,d.play.damp.lo=d.play.damp.lo,d.play.damp.hi=d.play.damp.hi,d.wide=d.wide,d.high=d.high,d.turn =
  d.turn,0=0,d.ps.n=d.ps.n,cO=cO,d.ps.n≤d.ps.n,QC 28 d.ps.n (fun i=>QA.enc (d.ps.get i)) fun i=>QA.enc (d.ps.get i)]):=by kernel_rfl
theorem QXC :QL 8 [] ([]) QC7=(
  some []):=by kernel_rfl
def QNd(e:Ex)(J:JSt):Prop:=(e = .ret∧(QM (K2 d.ps) (d.ps.n-k) k).isNone=false∧J=jQ)∨(e = .exit 0∧(QM (K2 d.ps) (d.ps.n-k) k).isNone=true∧J=QC7)
theorem QP0(hl:d.ps.n≤1000):JJ (QAS d) (fun k=>k≤d.ps.n) (fun k=>d.ps.n-k) (QNd d) 8 QI1 [] (mkE Try.prog YL) (fun _=>hnd (mkE Try.prog YL) 6) (QX Try.f40 0):=by
 refine⟨fun k g hk=>qH (QSV d k g) ?_⟩;refine QG (fun h => ?_) (fun h => ?_)
 ·have h:k<d.ps.n:=by have:=qdt h;omega
  obtain⟨m,hm⟩:∃ m,d.ps.n-k=m+1:=⟨d.ps.n-k-1,by omega⟩
  have hm':d.ps.n-(k+1)=m:=by omega
  have hA:(decide ((0:Int)≤(k:Int)∧(k:Int)<(d.ps.n:Int))&&decide (d.ps.n≤d.ps.n))=true:=by simp;omega
  have hB:decide (k<d.ps.n)=true:=by simp;omega
  have bad:K2 d.ps k=true→QM (K2 d.ps) (d.ps.n-k) k=some k:=fun q=>by rw[hm,QM,q]
  have go:K2 d.ps k=false→QM (K2 d.ps) (d.ps.n-k) k=QM (K2 d.ps) (d.ps.n-(k+1)) (k+1):=fun q=>by rw[hm,hm',QM,q]
  have no:K2 d.ps k=true→(QM (K2 d.ps) (d.ps.n-k) k).isNone=false:=fun q=>by rw[bad q];rfl
  refine QF hA (QF hB (QF rfl (QG (fun h0 => ?_) (fun h0 => ?_))))
  ·have q:K2 d.ps k=true:=by simp only[Bool.not_eq_true']at h0;simp only[K2,QS.ok,h0,Bool.false_and,Bool.not_false]
   exact⟨_,.inl ⟨rfl,no q,rfl⟩,rfl,rfl,_,QTK,⟨rfl,trivial⟩⟩
  refine QF hA (QF hB (QF rfl (QG (fun h1 => ?_) (fun h1 => ?_))))
  ·have q:K2 d.ps k=true:=by simp only[Bool.not_eq_true']at h1;simp only[K2,QS.ok,h1,Bool.false_and,Bool.and_false,Bool.not_false]
   exact⟨_,.inl ⟨rfl,no q,rfl⟩,rfl,rfl,_,QT3,⟨rfl,trivial⟩⟩
  refine QF hA (QF hB (QF rfl (QG (fun h2 => ?_) (fun h2 => ?_))))
  ·have q:K2 d.ps k=true:=by simp only[Bool.not_eq_true']at h2;simp only[K2,QS.ok,h2,Bool.false_and,Bool.and_false,Bool.not_false]
   exact⟨_,.inl ⟨rfl,no q,rfl⟩,rfl,rfl,_,QTd,⟨rfl,trivial⟩⟩
  refine QF hA (QF hB (QF rfl (QG (fun h3 => ?_) (fun h3 => ?_))))
  ·have q:K2 d.ps k=true:=by simp only[Bool.not_eq_true']at h3;simp only[K2,QS.ok,h3,Bool.and_false,Bool.not_false]
   exact⟨_,.inl ⟨rfl,no q,rfl⟩,rfl,rfl,_,QSm,⟨rfl,trivial⟩⟩
  have q:K2 d.ps k=false:=by simp only[Bool.not_eq_false']at h0 h1 h2 h3;simp only[K2,QS.ok,h0,h1,h2,h3,Bool.and_self,Bool.not_true]
  have hw:i64.wrap ((k:Int)+1)=((k+1:Nat):Int):=(w64 (by omega) (by omega)).trans (by omega)
  refine⟨k+1,h,by show d.ps.n-(k+1)<d.ps.n-k;omega,fun e J h=>by unfold QNd at h ⊢;rw[go q];exact h,rfl,rfl,_,QWd d k (k+1),?_⟩
  repeat' first|exact trivial|with_reducible rfl|exact qlr _|exact qRr|exact hw|refine And.intro ?_ ?_
 ·have h:d.ps.n≤k:=by have:=of_decide_eq_false h;omega
  have hf:QM (K2 d.ps) (d.ps.n-k) k=none:=by rw[show d.ps.n-k=0 by omega];rfl
  exact⟨_,.inr ⟨rfl,by rw[hf];rfl,rfl⟩,rfl,rfl,_,QXC,trivial⟩
def QSU:List (Prop×Ex×JSt):=[((QM (K2 d.ps) d.ps.n 0).isNone=false,.ret,jQ),((QM (K2 d.ps) d.ps.n 0).isNone=true,.exit 0,QC7)]
abbrev QCr(P:Program)(d:Puz):Hnd:={ hnd (mkE P YL) 1 with loop:=fun _=>KD 8 [] (QAS d (0:Nat)) (QSU d) }
theorem QY0(hl:d.ps.n≤1000)(G:Ctx)(hrd:G.rd=none)(hG:G.n=8):KC (mkE Try.prog YL) G (QCr Try.prog d) (Qs Try.f40):=by
 refine Jj (body:=QX Try.f40 0) (QT zx) hrd (by kernel_rfl) ?_
 refine JW (n0:=8) (QT zx) (by omega) (fun s hs=>Qy (QT zx) 6 G _ hrd) (fun s hs=>(by decide:8≤96)) ?_ (QP0 d hl) (s0:=0) (Nat.zero_le _) ?_
 ·rintro s e J (⟨_,_,rfl⟩|⟨_,_,rfl⟩)<;>exact(by decide:8≤96)
 ·rintro e J (⟨rfl,h,rfl⟩|⟨rfl,h,rfl⟩)
  ·exact⟨_,List.mem_cons_self,h,rfl,rfl⟩
  ·exact⟨_,List.mem_cons_of_mem _ List.mem_cons_self,h,rfl,rfl⟩
def qG:WF (Puz×Unit):=fun|(d,_)=>(decide (d.ps.n≤1000),.bool false d.ok,[])
def QOG:FC:=wFC qG
theorem QV2 :KO (mkE Try.prog YL) (QCr Try.prog d) Try.f40 (QV.vals 0 ((d,()):Puz×Unit)) (QV.blks 0 ((d,()):Puz×Unit)) 8 = .need (true) (.br (!d.play.ok) (.leaf (.bool
  true false) ([])) (.need (true) (.br (!QW (d.ps.n:Int) (1:Int) (9:Int)) (.leaf (.bool true false) ([])) (.need (true) (.br (!QW d.wide (1:Int) (9:Int)) (.leaf
  (.bool true false) ([])) (.need (true) (.br (!QW d.high (1:Int) (9:Int)) (.leaf (.bool true false) ([])) (.br (i64.wrap (d.wide*d.high) != (d.ps.n:Int)) (.leaf
  (.bool true false) ([])) (.ask (0=0) (.ask (0=0) (.ask ((0:Int)=0) (.ask (d.play.length=d.play.length) (.ask (d.play.slack=d.play.slack) (.ask (d.play.loose =
  d.play.loose) (.ask (d.play.damp.lo=d.play.damp.lo) (.ask (d.play.damp.hi=d.play.damp.hi) (.ask (d.wide=d.wide) (.ask (d.high=d.high) (.ask (d.turn=d.turn) (.ask (0=0)
  (.ask (d.ps.n=d.ps.n) (.ask (cO=cO) (.ask (d.ps.n≤d.ps.n) (.ask (QC 28 d.ps.n (fun i=>QA.enc (d.ps.get i)) fun i=>QA.enc (d.ps.get i)) (.both (.asm
  ((QM (K2 d.ps) d.ps.n 0).isNone=false) (.all (fun(g0:Nat→Value) => .leaf (.bool false false) ([])))) (.asm ((QM (K2 d.ps) d.ps.n 0).isNone=true) (.all (fun(g1
  : Nat→Value) => .leaf (.bool true true) ([]))))))))))))))))))))))))))))):=by kernel_rfl
theorem QUf:JN (mkE Try.prog YL) (Qs Try.f40) 8 qG (fun x_=>(QCr Try.prog x_.1)):=by
 refine⟨?_⟩;rintro⟨d,⟨⟩⟩ hp G h1 h2;exact QY0 d (qdt hp) G h1 h2
theorem QRy:JS (mkE Try.prog YL) Try.f40 8 qG (fun x_=>(QCr Try.prog x_.1)):=by
 refine⟨?_⟩;rintro⟨d,⟨⟩⟩ hp;refine⟨⟨rfl,by simp[qG],rfl⟩,⟨?_⟩⟩
 rw[QV2 d];simp only[qG]at hp;have no:okR d=false→(QD.leaf (AV.bool true false) []).den (Vg 8 (qG (d,())).2.1 (qG (d,())).2.2):=fun h=>Kp (show false=d.ok by rw[←Hp,h]) rfl
 refine QF rfl (QG (fun h1=>no ?_) (fun h1=>QF rfl (QG (fun h2=>no ?_) (fun h2=>QF rfl (QG (fun h3=>no ?_) (fun h3=>QF rfl (QG (fun h4=>no ?_) (fun h4=>QG (fun h5=>no ?_) (fun h5 => ?_)))))))))
 ·simp only[Bool.not_eq_true']at h1;simp only[okR,h1,Bool.false_and]
 ·simp only[Bool.not_eq_true']at h2;simp only[okR,h2,Bool.false_and,Bool.and_false]
 ·simp only[Bool.not_eq_true']at h3;simp only[okR,h3,Bool.false_and,Bool.and_false]
 ·simp only[Bool.not_eq_true']at h4;simp only[okR,h4,Bool.false_and,Bool.and_false]
 ·have h5:(i64.wrap (d.wide*d.high)==(d.ps.n:Int))=false:=by simpa using h5
  simp only[okR,h5,Bool.false_and,Bool.and_false]
 ·have h5:(i64.wrap (d.wide*d.high)==(d.ps.n:Int))=true:=by simpa using h5
  simp only[Bool.not_eq_false']at h1 h2 h3 h4
  repeat' first|refine Qa (show _=_ by with_reducible rfl) ?_|refine Qa (show _≤_ from qlr _) ?_|refine Qa (show QC _ _ _ _ from qRr) ?_
  refine Xf (KJ fun h=>KF fun g => ?_) (KJ fun h=>KF fun g => ?_)
  ·exact Kp (show false=d.ok by rw[←Hp];simp only[okR,h,Bool.and_false]) rfl
  ·exact Kp (show true=d.ok by rw[←Hp];simp only[okR,h1,h2,h3,h4,h5,h,Bool.and_self]) rfl
theorem QRQ:QP Try.prog 40 QOG:=
 Jc (QT zx) Try.func40 (by kernel_rfl) (by kernel_rfl) (by decide) QUf QRy
def QAj:Tab:=Qg YL 40 QOG
theorem QHN:QZ QAj:=zx.add QRQ
end Go.Proofs.Ytbpffdkemeoajaa
namespace Go.SX
open Go Go.RowKit Go.Proofs.Ytbpffdkemeoajaa
def vV:Code→Option Nat
 | .region id _ _=>some id
 | .seq a b=>(match vV a with
  | some x=>some x
  | none=>vV b)
 | .block _ a=>vV a
 | .scope a=>vV a
 | .loop a=>vV a
 | _=>none
def QBw(l:List (Nat×(St→(Ex→St→QD)→QD)))(c:Code):St→(Ex→St→QD)→QD:=match vV c with
 | some r=>(match l.find? (fun p=>Nat.beq p.1 r)with
  | some p=>p.2
  | none => fun _ _ => .fail "a loop that is not told")
 | none => fun _ _ => .fail "a loop without a region"
theorem QA6{E:Env}(hE:E.Sound){d:Nat}{G:Ctx}(hG:G.rd=none){c:Code}{L:Code→St→(Ex→St→QD)→QD}(h:∀ s∈Km c,JV E G s (L s)):KC E G { hnd E d with loop:=L } c:=
 ⟨h,(Qy hE d G c hG).call,(Qy hE d G c hG).yield⟩
end Go.SX
namespace Go.Proofs.Ytbpffdkemeoajaa
open Go.SX
variable {f:Nat→Bool}{n:Nat}(x:QE)(k:Nat)
def QDc:List (Nat×Blk):=[(8,.cells 0 50 (JG 0 x))]++Jd 0 x
def zD:JSt:=⟨97,[(1,.ptr 8 0 0),(3,.int false .i64 k)],QDc x,96⟩
def HO:JSt:=⟨97,[(1,.ptr 8 0 0),(4,.int false .i64 k)],QDc x,96⟩
def QNG:Ex→List Nat
 | .normal=>[1,3]
 | .exit _=>[1]
 | .ret=>[2]
def QLt:Ex→List Nat
 | .normal=>[1,4]
 | .exit _=>[1]
 | .ret=>[2]
def j9:JSt:=⟨97,[(2,.bool false false)],[],96⟩
def vM:JSt:=⟨97,[(1,.ptr 8 0 0)],QDc x,96⟩
def QNp:Int×Int×Int×Unit→Bool×AV:=fun|(n,(a,(b,_)))=>(true,.bool false (QW n a b))
def QLh:FC:=Q8 (KA QNp)
theorem QVD(n:Int)(a:Int)(b:Int):Q5 (mkE Try.prog QAj) (hnd (mkE Try.prog QAj) 0) false Try.f63 (Qt.enc ((n,a,b,()):Int×Int×Int×Unit)) [] 0 =
  QD.br (decide (a≤n)) (QD.leaf (AV.bool false (decide (n≤b))) ([])) (QD.leaf (AV.bool true false) ([])):=by kernel_rfl
theorem QPT:QP Try.prog 63 QLh:=by
 refine KN QHN 0 Try.func63 (by kernel_rfl) (by kernel_rfl) ?_
 rintro⟨n,a,b,⟨⟩⟩ hp;rw[QVD n a b];simp only[QNp,QD.den,AV.same,AV.sameL,and_true,true_and]at hp ⊢
 (repeat' (first|(refine And.intro ?_ ?_)|(intro _)))<;>simp_all [QW]<;>omega
def VU:Tab:=Qg QAj 63 QLh
theorem qt:QZ VU:=QHN.add QPT
noncomputable abbrev QN3:List AV:=
  [.nilp,.ptr 97 0 0,.ptr 8 0 0,vi (i64.wrap ((k:Int)+1))]
abbrev QHp:List CK:=
  [.int .i64,.int .i64,.int .i64,.int .i64,.int .i64,.int .i64,.int .i64,.int .i64,.int .i64,.int .i64,.int .i64,.int .i64,.int .i64,.int .i64,.int .i64,.int .i64,.int
  .i64,.int .i64,.int .i64,.int .i64,.int .i64,.int .i64,.int .i64,.int .i64,.int .i64,.int .i64,.int .i64,.int .i64]
noncomputable abbrev WS:List (Nat×Blk):=
  [(8,.cells 0 50 [vi x.d.play.length,vi x.d.play.slack,vi x.d.play.loose,vi x.d.play.damp.lo,.int false .i64
  x.d.play.damp.hi,vi x.d.wide,vi x.d.high,.bool false x.d.turn,.slz 0 0 x.d.ps.n cO,.slz 1 0 x.scans.n cO,.slz 2 0 x.hang.n (Cap.of
  0),vi x.lost,vi x.foreign]),(0,.frz QHp x.d.ps.n fun i=>QA.enc (x.d.ps.get i)),(1,.frz QHp x.scans.n fun i=>QA.enc (x.scans.get i)),(2,
  .frz [.int .i64,.int .i64,.int .i64,.int .i64] x.hang.n fun i=>QA.enc (x.hang.get i))]
theorem QPH(g:Nat→Value):exec (mkE Try.prog VU) (hnd (mkE Try.prog VU) 6) (QX Try.f35 0) (JSt.inst (zD x k) g) (KT [] QNG) = .br (decide ((k:Int)<(x.scans.n:Int))) (.need (decide
  ((0:Int)≤(k:Int)∧(k:Int)<(x.scans.n:Int))&&decide (x.scans.n≤x.scans.n)) (.need (decide (k<x.scans.n)) (.need (true) (.br (!(x.scans.get k).ok) (.leaf (.tup
  [.nili,.ptr 97 0 0,.bool true false]) ([])) (.leaf (.tup (QN3 k)) ((WS x))))))) (.leaf (.tup [.ptr 0 0 0,.ptr 97 0 0,.ptr 8 0 0]) ((WS x))):=by kernel_rfl
theorem QQo(g:Nat→Value):exec (mkS Try.prog VU) (hnd (mkS Try.prog VU) 6) (QX Try.f35 1) (JSt.inst (HO x k) g) (KT [] QLt) = .br (decide ((k:Int)<(x.hang.n:Int))) (.need (decide
  ((0:Int)≤(k:Int)∧(k:Int)<(x.hang.n:Int))&&decide (x.hang.n≤x.hang.n)) (.need (decide (k<x.hang.n)) (.need (true) (.need (!!!QW (x.hang.get k).a (0:Int)
  (i64.wrap ((x.scans.n:Int)-1)) || !!QW (x.hang.get k).a (0:Int) (i64.wrap ((x.scans.n:Int)-1))) (.need (!!!QW (x.hang.get k).a (0:Int)
  (i64.wrap ((x.scans.n:Int)-1)) || !!QW (x.hang.get k).a (0:Int) (i64.wrap ((x.scans.n:Int)-1))) (.need (!!!QW (x.hang.get k).a (0:Int)
  (i64.wrap ((x.scans.n:Int)-1)) || !!QW (x.hang.get k).a (0:Int) (i64.wrap ((x.scans.n:Int)-1))) (.need (!!!QW (x.hang.get k).a (0:Int)
  (i64.wrap ((x.scans.n:Int)-1)) || !!QW (x.hang.get k).a (0:Int) (i64.wrap ((x.scans.n:Int)-1))) (.need (!!!QW (x.hang.get k).a (0:Int)
  (i64.wrap ((x.scans.n:Int)-1))||true&&(!!QW (x.hang.get k).a (0:Int) (i64.wrap ((x.scans.n:Int)-1)) && !!QW (x.hang.get k).a (0:Int)
  (i64.wrap ((x.scans.n:Int)-1)))) (.need (!!!QW (x.hang.get k).a (0:Int) (i64.wrap ((x.scans.n:Int)-1)) || !!QW (x.hang.get k).a (0:Int)
  (i64.wrap ((x.scans.n:Int)-1))) (.need (!QW (x.hang.get k).a (0:Int) (i64.wrap ((x.scans.n:Int)-1)) || !!QW (x.hang.get k).a (0:Int)
  (i64.wrap ((x.scans.n:Int)-1))) (.bnd (!QW (x.hang.get k).a (0:Int) (i64.wrap ((x.scans.n:Int)-1)) || !QW (x.hang.get k).b (0:Int)
  (i64.wrap ((x.scans.n:Int)-1))) (fun(x0:Bool) => .need (!!x0 || !x0) (.need (!!x0 || !x0) (.need (!!x0 || !x0 && !x0) (.need (x0 || !x0) (.bnd (x0||(x.hang.get k).a
  == (x.hang.get k).b) (fun(x1:Bool) => .need (!!x1 || !x1) (.need (!!x1||true && !x1) (.need (!!x1 || !x1) (.need (x1 || !x1) (.bnd (x1 || !QW (x.hang.get k).i (0:Int) (3
  : Int)) (fun(x2:Bool) => .need (!!x2 || !x2) (.need (!!x2||true && !x2) (.need (!!x2 || !x2) (.need (x2 || !x2) (.bnd (x2 || !QW (x.hang.get k).j (0:Int) (3:Int)) (fun
  (x3:Bool) => .br (x3) (.leaf (.tup [.nili,.ptr 97 0 0,.bool true false]) ([])) (.leaf (.tup (QN3 k)) ((WS x)))))))))))))))))))))))))))))) (.leaf (.tup [.ptr 2 0 0,.ptr 97 0
  0,.ptr 8 0 0]) ((WS x))):=by kernel_rfl
theorem QVb :QL 8 [AV.bool true false] ([]) j9=(
  some [false=false]):=by kernel_rfl
abbrev QHh(k':Nat)(x:QE):List Prop:=
  [0=0,0=0,i64.wrap ((k:Int)+1)=(k':Int),x.d.play.length=x.d.play.length,x.d.play.slack=x.d.play.slack,x.d.play.loose=x.d.play.loose,x.d.play.damp.lo =
  x.d.play.damp.lo,x.d.play.damp.hi=x.d.play.damp.hi,x.d.wide=x.d.wide,x.d.high=x.d.high,x.d.turn=x.d.turn,0=0,x.d.ps.n=x.d.ps.n,cO=cO,0=0,
  x.scans.n=x.scans.n,cO=cO,0=0,x.hang.n=x.hang.n,cO=cO,x.lost=x.lost,x.foreign=x.foreign,x.d.ps.n≤x.d.ps.n,QC 28 x.d.ps.n (fun i
  => QA.enc (x.d.ps.get i)) fun i=>QA.enc (x.d.ps.get i),x.scans.n≤x.scans.n,QC 28 x.scans.n (fun i=>QA.enc (x.scans.get i)) fun i=>QA.enc (x.scans.get i),
  x.hang.n≤x.hang.n,QC 4 x.hang.n (fun i=>QA.enc (x.hang.get i)) fun i=>QA.enc (x.hang.get i)]
theorem QU7(k k':Nat):QL 8 [.ptr 8 0 0,vi (i64.wrap ((k:Int)+1))] ((WS x)) (zD x k')=(some (QHh k k' x)):=by kernel_rfl
abbrev QMy:List Prop:=
  [0=0,0=0,x.d.play.length=x.d.play.length,x.d.play.slack=x.d.play.slack,x.d.play.loose=x.d.play.loose,x.d.play.damp.lo=x.d.play.damp.lo,x.d.play.damp.hi =
  x.d.play.damp.hi,x.d.wide=x.d.wide,x.d.high=x.d.high,x.d.turn=x.d.turn,0=0,x.d.ps.n=x.d.ps.n,cO=cO,0=0,x.scans.n=x.scans.n,cO=cO,
  0=0,x.hang.n=x.hang.n,cO=cO,x.lost=x.lost,x.foreign=x.foreign,x.d.ps.n≤x.d.ps.n,QC 28 x.d.ps.n (fun i=>QA.enc (x.d.ps.get i)) fun i=>QA.enc
  (x.d.ps.get i),x.scans.n≤x.scans.n,QC 28 x.scans.n (fun i=>QA.enc (x.scans.get i)) fun i=>QA.enc (x.scans.get i),x.hang.n≤x.hang.n,QC 4 x.hang.n (fun i=>
  QA.enc (x.hang.get i)) fun i=>QA.enc (x.hang.get i)]
theorem QUu :QL 8 [.ptr 8 0 0] ((WS x)) (vM x)=(some (QMy x)):=by kernel_rfl
theorem QQs :QL 8 [AV.bool true false] ([]) j9=(
  some [false=false]):=by kernel_rfl
theorem QSv(k k':Nat):QL 8 [.ptr 8 0 0,vi (i64.wrap ((k:Int)+1))] ((WS x)) (HO x k')=(some (QHh k k' x)):=by kernel_rfl
theorem QTF :QL 8 [.ptr 8 0 0] ((WS x)) (vM x)=(some (QMy x)):=by kernel_rfl
def YD:Bool := !(x.scans.get k).ok
def QG9(e:Ex)(J:JSt):Prop:=(e = .ret∧(QM (YD x) (x.scans.n-k) k).isNone=false∧J=j9)∨(e = .exit 0∧(QM (YD x) (x.scans.n-k) k).isNone=true∧J=vM x)
def QNA(e:Ex)(J:JSt):Prop:=(e = .ret∧(QM (JD x) (x.hang.n-k) k).isNone=false∧J=j9)∨(e = .exit 2∧(QM (JD x) (x.hang.n-k) k).isNone=true∧J=vM x)
theorem qW{k:Nat}(h:k<n)(q:f k=true):(QM f (n-k) k).isNone=false:=by
 obtain⟨m,hm⟩:∃ m,n-k=m+1:=⟨n-k-1,by omega⟩
 rw[hm,QM,q];rfl
theorem jT{k:Nat}(h:k<n)(q:f k=false):QM f (n-k) k=QM f (n-(k+1)) (k+1):=by
 obtain⟨m,hm⟩:∃ m,n-k=m+1:=⟨n-k-1,by omega⟩
 rw[hm,show n-(k+1)=m by omega,QM,q]
theorem zZ{k:Nat}(h:n≤k):(QM f (n-k) k).isNone=true:=by
 rw[show n-k=0 by omega];rfl
theorem QV1(hl:x.scans.n≤1000):JJ (zD x) (fun k=>k≤x.scans.n) (fun k=>x.scans.n-k) (QG9 x) 8 QNG [] (mkE Try.prog VU) (fun _=>hnd (mkE Try.prog VU) 6) (QX Try.f35 0):=by
 refine⟨fun k g hk=>Q2 (QPH x k g) ?_⟩;refine QG (fun h => ?_) (fun h => ?_)
 ·have h:k<x.scans.n:=by have:=qdt h;omega
  refine QF (by simp;omega) (QF (by simp;omega) (QF rfl (QG (fun q => ?_) (fun q => ?_))))
  ·exact⟨_,.inl ⟨rfl,qW h q,rfl⟩,rfl,rfl,_,QVb,⟨rfl,trivial⟩⟩
  ·refine⟨k+1,h,by show x.scans.n-(k+1)<x.scans.n-k;omega,fun e J r=>by unfold QG9 at r ⊢;rw[jT h q];exact r,rfl,rfl,_,QU7 x k (k+1),?_⟩
   repeat' first|with_reducible refine QQ ?_ ?_|exact trivial|with_reducible rfl|exact qlr _|exact qRr|exact Kn h hl|refine And.intro ?_ ?_
 ·have h:x.scans.n≤k:=by have:=of_decide_eq_false h;omega
  refine⟨_,.inr ⟨rfl,zZ h,rfl⟩,rfl,rfl,_,QUu x,?_⟩
  repeat' first|with_reducible refine QQ ?_ ?_|exact trivial|with_reducible rfl|exact qlr _|exact qRr|refine And.intro ?_ ?_
theorem QZy(hl:x.hang.n≤1000):JJ (HO x) (fun k=>k≤x.hang.n) (fun k=>x.hang.n-k) (QNA x) 8 QLt [] (mkS Try.prog VU) (fun _=>hnd (mkS Try.prog VU) 6) (QX Try.f35 1):=by
 refine⟨fun k g hk=>Q2 (QQo x k g) ?_⟩;refine QG (fun h => ?_) (fun h => ?_)
 ·have h:k<x.hang.n:=by have:=qdt h;omega
  refine QF (by simp;omega) (QF (by simp;omega) ?_)
  have hb:JD x k=(!QW (x.hang.get k).a 0 (i64.wrap ((x.scans.n:Int)-1))||(!QW (x.hang.get k).b 0 (i64.wrap ((x.scans.n:Int)-1))||(((x.hang.get k).a==(x.hang.get k).b)||(!QW (x.hang.get k).i 0 3 || !QW (x.hang.get k).j 0 3)))):=rfl
  generalize QW (x.hang.get k).a 0 (i64.wrap ((x.scans.n:Int)-1))=w1 at hb ⊢;generalize QW (x.hang.get k).b 0 (i64.wrap ((x.scans.n:Int)-1))=w2 at hb ⊢;generalize ((x.hang.get k).a==(x.hang.get k).b)=w3 at hb ⊢;generalize QW (x.hang.get k).i 0 3=w4 at hb ⊢;generalize QW (x.hang.get k).j 0 3=w5 at hb ⊢
  repeat' first|refine QF rfl ?_|refine QF (by grind) ?_|refine Qz fun z hz => ?_
  refine QG (fun q => ?_) (fun q => ?_)
  ·exact⟨_,.inl ⟨rfl,qW h (by grind),rfl⟩,rfl,rfl,_,QQs,⟨rfl,trivial⟩⟩
  ·refine⟨k+1,h,by show x.hang.n-(k+1)<x.hang.n-k;omega,fun e J r=>by unfold QNA at r ⊢;rw[jT h (by grind)];exact r,rfl,rfl,_,QSv x k (k+1),?_⟩
   repeat' first|with_reducible refine QQ ?_ ?_|exact trivial|with_reducible rfl|exact qlr _|exact qRr|exact Kn h hl|refine And.intro ?_ ?_
 ·have h:x.hang.n≤k:=by have:=of_decide_eq_false h;omega
  refine⟨_,.inr ⟨rfl,zZ h,rfl⟩,rfl,rfl,_,QTF x,?_⟩
  repeat' first|with_reducible refine QQ ?_ ?_|exact trivial|with_reducible rfl|exact qlr _|exact qRr|refine And.intro ?_ ?_
def QOf:List (Prop×Ex×JSt):=[((QM (YD x) x.scans.n 0).isNone=false,.ret,j9),((QM (YD x) x.scans.n 0).isNone=true,.exit 0,vM x)]
def QNn:List (Prop×Ex×JSt):=[((QM (JD x) x.hang.n 0).isNone=false,.ret,j9),((QM (JD x) x.hang.n 0).isNone=true,.exit 2,vM x)]
abbrev QGA:Code→St→(Ex→St→QD)→QD:=QBw [(4,KD 8 [] (zD x (0:Nat)) (QOf x)),(9,KD 8 [] (HO x (0:Nat)) (QNn x))]
abbrev HT(P:Program)(x:QE):Hnd:={ hnd (mkS P VU) 1 with loop:=QGA x }
theorem QSY(hs:x.scans.n≤1000)(hh:x.hang.n≤1000)(G:Ctx)(hrd:G.rd=none)(hG:G.n=8):KC (mkS Try.prog VU) G (HT Try.prog x) (Qs Try.f35):=by
 refine QA6 (Jt qt) hrd fun c hc => ?_;have he:Km (Qs Try.f35)=[.loop (QX Try.f35 0),.loop (QX Try.f35 1)]:=by kernel_rfl
 rw[he]at hc;simp only[List.mem_cons,List.not_mem_nil,or_false]at hc;rcases hc with rfl|rfl
 ·have e1:QGA x (.loop (QX Try.f35 0))=KD 8 [] (zD x (0:Nat)) (QOf x):=by kernel_rfl
  rw[e1];refine ZG (E:=mkE Try.prog VU) rfl (JW (n0:=8) (QT qt) (by omega) (fun s hs=>Qy (QT qt) 6 G _ hrd) (fun s hs=>(by decide:8≤96)) ?_ (QV1 x hs) (s0:=0) (Nat.zero_le _) ?_)
  ·rintro s e J (⟨_,_,rfl⟩|⟨_,_,rfl⟩)<;>exact(by decide:8≤96)
  ·rintro e J (⟨rfl,h,rfl⟩|⟨rfl,h,rfl⟩)
   ·exact⟨_,List.mem_cons_self,h,rfl,rfl⟩
   ·exact⟨_,List.mem_cons_of_mem _ List.mem_cons_self,h,rfl,rfl⟩
 ·have e1:QGA x (.loop (QX Try.f35 1))=KD 8 [] (HO x (0:Nat)) (QNn x):=by kernel_rfl
  rw[e1];refine JW (n0:=8) (Jt qt) (by omega) (fun s hs=>Qy (Jt qt) 6 G _ hrd) (fun s hs=>(by decide:8≤96)) ?_ (QZy x hh) (s0:=0) (Nat.zero_le _) ?_
  ·rintro s e J (⟨_,_,rfl⟩|⟨_,_,rfl⟩)<;>exact(by decide:8≤96)
  ·rintro e J (⟨rfl,h,rfl⟩|⟨rfl,h,rfl⟩)
   ·exact⟨_,List.mem_cons_self,h,rfl,rfl⟩
   ·exact⟨_,List.mem_cons_of_mem _ List.mem_cons_self,h,rfl,rfl⟩
end Go.Proofs.Ytbpffdkemeoajaa
