/- - -/
import Derived.Test.YtbpffdkemeoajaaMazg
open Go.IntKind (i64)
set_option maxRecDepth 100000
namespace Go.Proofs.Ytbpffdkemeoajaa
open Go.SX
def QM5:Int×Int×Int×Unit→Bool×AV:=fun|(n,(a,(b,_)))=>(true,.bool false (Qg n a b))
def QNI:FC:=KD (KE QM5)
theorem QZH(n:Int)(a:Int)(b:Int):Q8 (mkE Try.prog QBi) (hnd (mkE Try.prog QBi) 0) false Try.f68 (Qt.enc ((n,a,b,()):Int×Int×Int×Unit)) [] 0 =
  QD.br (decide (a≤n)) (QD.leaf (AV.bool false (decide (n≤b))) ([])) (QD.leaf (AV.bool true false) ([])):=by kernel_rfl
theorem QWb:QQ Try.prog 68 QNI:=by
 refine KQ QIc 0 Try.func68 (by kernel_rfl) (by kernel_rfl) ?_
 rintro⟨n,a,b,⟨⟩⟩ hp;rw[QZH n a b];simp only[QM5,QD.den,AV.same,AV.sameL,and_true,true_and]at hp ⊢
 (repeat' (first|(refine And.intro ?_ ?_)|(intro _)))<;>simp_all [Qg]<;>omega
def QAT:Tab:=Qe QBi 68 QNI
theorem QIa:Qc QAT:=QIc.add QWb
def QIU:Sp×Sp×Unit→Bool×AV:=fun|(a,(b,_))=>(true,.bool false (com a b))
def QJ5:FC:=KD (KE QIU)
theorem Qac(a:Sp)(b:Sp):Q8 (mkE Try.prog QAT) (hnd (mkE Try.prog QAT) 0) false Try.f102 (Qt.enc ((a,b,()):Sp×Sp×Unit)) [] 0 =
  QD.br (decide (a.lo≤b.hi)) (QD.leaf (AV.bool false (decide (b.lo≤a.hi))) ([])) (QD.leaf (AV.bool true false) ([])):=by kernel_rfl
theorem QXZ:QQ Try.prog 102 QJ5:=by
 refine KQ QIa 0 Try.func102 (by kernel_rfl) (by kernel_rfl) ?_
 rintro⟨a,b,⟨⟩⟩ hp;rw[Qac a b];simp only[QIU,QD.den,AV.same,AV.sameL,and_true,true_and]at hp ⊢;simp only[com];refine⟨fun h => ?_,fun h => ?_⟩
 ·rw[h];simp
 ·rw[h];simp
def QDY:Tab:=Qe QAT 102 QJ5
theorem QMW:Qc QDY:=QIa.add QXZ
def QON:Edge×Edge×Unit→Bool×AV:=fun|(a,(b,_))=>(true,.bool false (isS a b))
def QJE:FC:=KD (KE QON)
theorem QTv(a:Edge)(b:Edge):Q8 (mkE Try.prog QDY) (hnd (mkE Try.prog QDY) 0) false Try.f88 (Qt.enc ((a,b,()):Edge×Edge×Unit)) [] 0 =
  QD.br (a.kind==b.kind) (QD.br (a.kind==(0:Int)) (QD.leaf (AV.bool true true) ([])) (QD.need (true) (QD.br (com a.at_ b.at_) (QD.need (true) (QD.br (com a.wide
  b.wide) (QD.need (true) (QD.leaf (AV.bool false (com a.deep b.deep)) ([]))) (QD.leaf (AV.bool true false) ([])))) (QD.leaf (AV.bool true false) ([]))))) (QD.leaf (AV.bool
  true false) ([])):=by kernel_rfl
theorem QTr:QQ Try.prog 88 QJE:=by
 refine KQ QMW 0 Try.func88 (by kernel_rfl) (by kernel_rfl) ?_
 rintro⟨a,b,⟨⟩⟩ hp;rw[QTv a b];simp only[QON,QD.den,AV.same,AV.sameL,and_true,true_and]at hp ⊢;simp only[isS,isF];generalize com a.at_ b.at_=c1
 generalize com a.wide b.wide=c2;generalize com a.deep b.deep=c3
 by_cases h:a.kind=b.kind
 ·by_cases h0:b.kind=0
  ·simp[h,h0]
  ·cases c1<;>cases c2<;>cases c3<;>simp[h,h0]
 ·by_cases h0:a.kind=0
  ·have:¬ b.kind=0:=fun e=>h (by rw[h0,e])
   have h':¬ 0=b.kind:=fun e=>this e.symm;simp[h0,this,h']
  ·simp[h,h0]
def QBz:Tab:=Qe QDY 88 QJE
theorem QKu:Qc QBz:=QMW.add QTr
def QQR:QG×Unit→Bool×AV:=fun|(s,_)=>(true,.bool false s.ok)
def QMB:FC:=KD (KE QQR)
theorem QXD(s:QG):Q8 (mkE Try.prog QBz) (hnd (mkE Try.prog QBz) 6) false Try.f28 (Qt.enc ((s,()):QG×Unit)) [] 0 =
  QD.need (true) (QD.br (!s.up.ok) (QD.leaf (AV.bool true false) ([])) (QD.need (true) (QD.br (!s.right.ok) (QD.leaf (AV.bool true false) ([])) (QD.need (true) (QD.br
  (!s.down.ok) (QD.leaf (AV.bool true false) ([])) (QD.need (true) (QD.br (!s.left.ok) (QD.leaf (AV.bool true false) ([])) (QD.leaf (AV.bool true true) ([]))))))))):=by kernel_rfl
theorem QcP:QQ Try.prog 28 QMB:=by
 refine KQ QKu 6 Try.func28 (by kernel_rfl) (by kernel_rfl) ?_
 rintro⟨s,⟨⟩⟩ hp;rw[QXD s];simp only[QQR,QD.den,AV.same,AV.sameL,and_true,true_and]at hp ⊢;simp only[QG.ok];cases s.up.ok<;>cases s.right.ok<;>cases s.down.ok<;>cases s.left.ok<;>simp
def WG:Tab:=Qe QBz 28 QMB
theorem QEe:Qc WG:=QKu.add QcP
def Hn:WF (Puz×Edge×Edge×Unit):=fun|(d,(a,(b,_)))=>(decide (d.ps.n≤1000),.int false .i64 (KG d.play a b).1,[])
def QMU:FC:=wFC Hn
variable (d:Puz)(k:Nat)
theorem QX3(a:Edge)(b:Edge):Kc (mkE Try.prog WG) (hnd (mkE Try.prog WG) 0) Try.f41 (QX.vals 0 ((d,a,b,()):Puz×Edge×Edge×Unit)) (QX.blks 0 ((d,a,b,()):Puz×Edge×Edge×Unit)) 8 =
  QD.need (true) (QD.leaf (AV.int false i64 (KG d.play a b).1) ([])):=by kernel_rfl
theorem QbV:Jr (mkE Try.prog WG) (Qr Try.f41) 8 Hn (fun x_=>(hnd (mkE Try.prog WG) 0)):=by
 refine⟨?_⟩;rintro⟨d,⟨a,⟨b,⟨⟩⟩⟩⟩ hp G h1 h2;exact Qz (QT QEe) 0 G _ h1
theorem QRf:Jo (mkE Try.prog WG) Try.f41 8 Hn (fun x_=>(hnd (mkE Try.prog WG) 0)):=by
 refine⟨?_⟩;rintro⟨d,⟨a,⟨b,⟨⟩⟩⟩⟩ hp;refine⟨⟨rfl,by simp[Hn],rfl⟩,⟨?_⟩⟩
 rw[QX3 d a b];simp only[Hn]at hp;refine QF rfl (JE ?_ rfl);exact⟨rfl,rfl⟩
theorem QV5:QQ Try.prog 41 QMU:=
 Jx (QT QEe) Try.func41 (by kernel_rfl) (by kernel_rfl) (by decide) QbV QRf
def qH:Tab:=Qe WG 41 QMU
theorem QHi:Qc qH:=QEe.add QV5
def qo:WF (Puz×Int×Int×Unit):=fun|(d,(c,(s,_)))=>(decide ((1≤d.wide∧d.wide≤100)∧(1≤d.high∧d.high≤100)∧(0≤c∧c≤100)),.int false .i64 (QV d.wide d.high c s),[])
def QOx:FC:=wFC qo
theorem QVn(c:Int)(s:Int):Kc (mkE Try.prog qH) (hnd (mkE Try.prog qH) 0) Try.f31 (QX.vals 0 ((d,c,s,()):Puz×Int×Int×Unit)) (QX.blks 0 ((d,c,s,()):Puz×Int×Int ×
  Unit)) 8 = .need (!decide (d.wide=0)) (.need (!decide (d.wide=0)) (.br (s==0) (.br (decide (i64.wrap (c.tdiv d.wide)>0)) (.leaf (.int false .i64 (i64.wrap (c
  - d.wide))) ([])) (.br (s==1) (.br (decide (c.tmod d.wide<i64.wrap (d.wide-1))) (.leaf (.int false .i64 (i64.wrap (c+1))) ([])) (.br (s==2) (.br (decide
  (i64.wrap (c.tdiv d.wide)<i64.wrap (d.high-1))) (.leaf (.int false .i64 (i64.wrap (c+d.wide))) ([])) (.br (s==3) (.br (decide (c.tmod d.wide>0))
  (.leaf (.int false .i64 (i64.wrap (c-1))) ([])) (.leaf (.int true .i64 (-1)) ([]))) (.leaf (.int true .i64 (-1)) ([])))) (.br (s==3) (.br (decide (c.tmod d.wide>0))
  (.leaf (.int false .i64 (i64.wrap (c-1))) ([])) (.leaf (.int true .i64 (-1)) ([]))) (.leaf (.int true .i64 (-1)) ([]))))) (.br (s==2) (.br (decide (i64.wrap
  (c.tdiv d.wide)<i64.wrap (d.high-1))) (.leaf (.int false .i64 (i64.wrap (c+d.wide))) ([])) (.br (s==3) (.br (decide (c.tmod d.wide>0)) (.leaf (.int false
  .i64 (i64.wrap (c-1))) ([])) (.leaf (.int true .i64 (-1)) ([]))) (.leaf (.int true .i64 (-1)) ([])))) (.br (s==3) (.br (decide (c.tmod d.wide>0)) (.leaf (.int false
  .i64 (i64.wrap (c-1))) ([])) (.leaf (.int true .i64 (-1)) ([]))) (.leaf (.int true .i64 (-1)) ([])))))) (.br (s==1) (.br (decide (c.tmod d.wide<i64.wrap
  (d.wide-1))) (.leaf (.int false .i64 (i64.wrap (c+1))) ([])) (.br (s==2) (.br (decide (i64.wrap (c.tdiv d.wide)<i64.wrap (d.high-1))) (.leaf (.int
  false .i64 (i64.wrap (c+d.wide))) ([])) (.br (s==3) (.br (decide (c.tmod d.wide>0)) (.leaf (.int false .i64 (i64.wrap (c-1))) ([])) (.leaf (.int true .i64
  (-1)) ([]))) (.leaf (.int true .i64 (-1)) ([])))) (.br (s==3) (.br (decide (c.tmod d.wide>0)) (.leaf (.int false .i64 (i64.wrap (c-1))) ([])) (.leaf (.int true .i64
  (-1)) ([]))) (.leaf (.int true .i64 (-1)) ([]))))) (.br (s==2) (.br (decide (i64.wrap (c.tdiv d.wide)<i64.wrap (d.high-1))) (.leaf (.int false .i64
  (i64.wrap (c+d.wide))) ([])) (.br (s==3) (.br (decide (c.tmod d.wide>0)) (.leaf (.int false .i64 (i64.wrap (c-1))) ([])) (.leaf (.int true .i64 (-1)) ([])))
  (.leaf (.int true .i64 (-1)) ([])))) (.br (s==3) (.br (decide (c.tmod d.wide>0)) (.leaf (.int false .i64 (i64.wrap (c-1))) ([])) (.leaf (.int true .i64 (-1)) ([])))
  (.leaf (.int true .i64 (-1)) ([]))))))):=by kernel_rfl
theorem QcK:Jr (mkE Try.prog qH) (Qr Try.f31) 8 qo (fun x_=>(hnd (mkE Try.prog qH) 0)):=by
 refine⟨?_⟩;rintro⟨d,⟨c,⟨s,⟨⟩⟩⟩⟩ hp G h1 h2;exact Qz (QT QHi) 0 G _ h1
theorem QXY:Jo (mkE Try.prog qH) Try.f31 8 qo (fun x_=>(hnd (mkE Try.prog qH) 0)):=by
 refine⟨?_⟩;rintro⟨d,⟨c,⟨s,⟨⟩⟩⟩⟩ hp;refine⟨⟨rfl,by simp[qo],rfl⟩,⟨?_⟩⟩
 rw[QVn d c s];simp only[qo]at hp;obtain⟨⟨w1,w2⟩,⟨h1,h2⟩,c1,c2⟩:=qdt hp;have q0:0≤c.tdiv d.wide:=Int.tdiv_nonneg c1 (by omega)
 have q1:c.tdiv d.wide≤c:=by rw[Int.tdiv_eq_ediv_of_nonneg c1];exact Int.ediv_le_self _ c1
 have m0:0≤c.tmod d.wide:=Int.tmod_nonneg _ c1;have m1:c.tmod d.wide<d.wide:=Int.tmod_lt_of_pos _ (by omega)
 have e1:i64.wrap (c.tdiv d.wide)=c.tdiv d.wide:=w64 (by omega) (by omega)
 have e2:i64.wrap (c-d.wide)=c-d.wide:=w64 (by omega) (by omega)
 have e3:i64.wrap (d.wide-1)=d.wide-1:=w64 (by omega) (by omega)
 have e4:i64.wrap (c+1)=c+1:=w64 (by omega) (by omega)
 have e5:i64.wrap (d.high-1)=d.high-1:=w64 (by omega) (by omega)
 have e6:i64.wrap (c+d.wide)=c+d.wide:=w64 (by omega) (by omega)
 have e7:i64.wrap (c-1)=c-1:=w64 (by omega) (by omega)
 have dz:(!decide (d.wide=0))=true:=by simp;omega
 rw[e1,e2,e3,e4,e5,e6,e7];refine QF dz (QF dz ?_);have fin:∀ v:AV,v.same (.int false .i64 (QV d.wide d.high c s))→(QD.leaf v []).den (XG 8 (qo (d,c,s,())).2.1 (qo (d,c,s,())).2.2):=fun v h=>JE h rfl
 repeat' refine QI (fun _ => ?_) (fun _ => ?_)
 all_goals refine fin _ ?_
 all_goals simp only[AV.same,QV,true_and]
 all_goals grind
theorem QdL:QQ Try.prog 31 QOx:=
 Jx (QT QHi) Try.func31 (by kernel_rfl) (by kernel_rfl) (by decide) QcK QXY
def Yi:Tab:=Qe qH 31 QOx
theorem G2:Qc Yi:=QHi.add QdL
def JF(l:Rw QG)(i:Nat):Bool := !(l.get i).ok
def okR:Bool:=d.play.ok&&(Qg (d.ps.n:Int) 1 9&&(Qg d.wide 1 9&&(Qg d.high 1 9&&((i64.wrap (d.wide*d.high)==(d.ps.n:Int))&&(QU (JF d.ps) d.ps.n 0).isNone))))
theorem QJO(p:Qm)(l:Rw QG)(h:1≤l.n):Ve p l=(p.ok&&(QU (JF l) l.n 0).isNone):=by
 unfold Ve;cases hp:p.ok with
 | true=>
  have:JI ⟨p⟩ l=JF l:=by funext i;simp only[JI,JF,hp,Bool.true_and]
  rw[this,Bool.true_and]
 | false=>
  obtain⟨m,hm⟩:∃ m,l.n=m+1:=⟨l.n-1,by omega⟩
  rw[hm,QU];simp only[JI,hp,Bool.false_and,Bool.not_false];rfl
theorem QDi:okR d=d.ok:=by
 rw[Bool.eq_iff_iff];simp only[okR,Puz.ok,Puz.okN,qbA,Qg,qdE,beq_iff_eq];constructor
 ·rintro⟨hp,hn,hw,hh,hm,ha⟩;have m1:d.wide*d.high≤9*9:=Int.mul_le_mul hw.2 hh.2 (by omega) (by omega)
  have m0:0≤d.wide*d.high:=Int.mul_nonneg (by omega) (by omega)
  have e:=hm;rw[w64 (by omega) (by omega)]at e
  have a1:=Int.mul_le_mul_of_nonneg_left (show 1≤d.high from hh.1) (show 0≤d.wide by omega)
  have a2:=Int.mul_le_mul_of_nonneg_right (show 1≤d.wide from hw.1) (show 0≤d.high by omega)
  refine⟨⟨hn,by omega,by omega,hm⟩,?_⟩
  rw[QJO _ _ (by omega),hp,ha];rfl
 ·rintro⟨⟨hn,hw,hh,hm⟩,hs⟩;rw[QJO _ _ (by omega),qbA]at hs
  exact⟨hs.1,hn,by omega,by omega,hm,hs.2⟩
def QDg:JSt:=⟨60,[(1,.ptr 8 0 0),(3,.int false .i64 k)],[(8,.cells 0 28 (jc d))]++Q3.blk 0 d.ps,96⟩
def QLu:Ex→List Nat
 | .normal=>[1,3]
 | .exit _=>[]
 | .ret=>[2]
noncomputable abbrev QRT:List (Nat×Blk):=
  [(8,.cells 0 28 [vi d.play.length,vi d.play.slack,vi d.play.loose,vi d.play.damp.lo,vi d.play.damp.hi,.int
  false .i64 d.wide,vi d.high,.bool false d.turn,.slz 0 0 d.ps.n cO]),(0,.frz [.int .i64,.int .i64,.int .i64,.int .i64,.int .i64,.int .i64,.int .i64,
  .int .i64,.int .i64,.int .i64,.int .i64,.int .i64,.int .i64,.int .i64,.int .i64,.int .i64,.int .i64,.int .i64,.int .i64,.int .i64,.int .i64,.int .i64,.int .i64,.int
  .i64,.int .i64,.int .i64,.int .i64,.int .i64] d.ps.n fun i=>QA.enc (d.ps.get i))]
theorem QVa(g:Nat→Value):exec (mkE Try.prog Yi) (hnd (mkE Try.prog Yi) 6) (Qd Try.f40 0) (JSt.inst (QDg d k) g) (KS [] QLu) = .br (decide ((k:Int)<(d.ps.n:Int))) (.need (decide
  ((0:Int)≤(k:Int)∧(k:Int)<(d.ps.n:Int))&&decide (d.ps.n≤d.ps.n)) (.need (decide (k<d.ps.n)) (.need (true) (.br (!(d.ps.get k).up.ok) (.leaf (.tup [.nili,.ptr 60
  0 0,.bool true false]) ([])) (.need (decide ((0:Int)≤(k:Int)∧(k:Int)<(d.ps.n:Int))&&decide (d.ps.n≤d.ps.n)) (.need (decide (k<d.ps.n)) (.need (true) (.br
  (!(d.ps.get k).right.ok) (.leaf (.tup [.nili,.ptr 60 0 0,.bool true false]) ([])) (.need (decide ((0:Int)≤(k:Int)∧(k:Int)<(d.ps.n:Int))&&decide (d.ps.n≤d.ps.n))
  (.need (decide (k<d.ps.n)) (.need (true) (.br (!(d.ps.get k).down.ok) (.leaf (.tup [.nili,.ptr 60 0 0,.bool true false]) ([])) (.need (decide ((0:Int)≤(k:Int)∧(k:Int)
  < (d.ps.n:Int))&&decide (d.ps.n≤d.ps.n)) (.need (decide (k<d.ps.n)) (.need (true) (.br (!(d.ps.get k).left.ok) (.leaf (.tup [.nili,.ptr 60 0 0,.bool true false]) ([]))
  (.leaf (.tup [.nilp,.ptr 60 0 0,.ptr 8 0 0,vi (i64.wrap ((k:Int)+1))]) ((QRT d))))))))))))))))))) (.leaf (.tup [.ptr 0 0 0,.ptr 60 0 0]) ([])):=by kernel_rfl
def zU:JSt:=⟨60,[(2,.bool false false)],[],96⟩
def QEA:JSt:=⟨60,[],[],96⟩
theorem QYd :QK 8 [AV.bool true false] ([]) zU=(
  some [false=false]):=by kernel_rfl
theorem QXK :QK 8 [AV.bool true false] ([]) zU=(
  some [false=false]):=by kernel_rfl
theorem QUX :QK 8 [AV.bool true false] ([]) zU=(
  some [false=false]):=by kernel_rfl
theorem QVC :QK 8 [AV.bool true false] ([]) zU=(
  some [false=false]):=by kernel_rfl
theorem QYu(k k':Nat):QK 8 [.ptr 8 0 0,vi (i64.wrap ((k:Int)+1))] ((QRT d)) (QDg d k')=(some [0=0,0=0,i64.wrap ((k:Int)+1)=(k':Int),d.play.length =
  d.play.length,d.play.slack=d.play.slack,d.play.loose=d.play.loose,d.play.damp.lo=d.play.damp.lo,d.play.damp.hi=d.play.damp.hi,d.wide=d.wide,d.high=d.high,d.turn =
  d.turn,0=0,d.ps.n=d.ps.n,cO=cO,d.ps.n≤d.ps.n,QC 28 d.ps.n (fun i=>QA.enc (d.ps.get i)) fun i=>QA.enc (d.ps.get i)]):=by kernel_rfl
theorem QSc :QK 8 [] ([]) QEA=(
  some []):=by kernel_rfl
def QKR(e:Ex)(J:JSt):Prop:=(e = .ret∧(QU (JF d.ps) (d.ps.n-k) k).isNone=false∧J=zU)∨(e = .exit 0∧(QU (JF d.ps) (d.ps.n-k) k).isNone=true∧J=QEA)
theorem QRi(hl:d.ps.n≤1000):Ji (QDg d) (fun k=>k≤d.ps.n) (fun k=>d.ps.n-k) (QKR d) 8 QLu [] (mkE Try.prog Yi) (fun _=>hnd (mkE Try.prog Yi) 6) (Qd Try.f40 0):=by
 refine⟨fun k g hk=>ja (QVa d k g) ?_⟩;refine QI (fun h => ?_) (fun h => ?_)
 ·have h:k<d.ps.n:=by have:=qdt h;omega
  obtain⟨m,hm⟩:∃ m,d.ps.n-k=m+1:=⟨d.ps.n-k-1,by omega⟩
  have hm':d.ps.n-(k+1)=m:=by omega
  have hA:(decide ((0:Int)≤(k:Int)∧(k:Int)<(d.ps.n:Int))&&decide (d.ps.n≤d.ps.n))=true:=by simp;omega
  have hB:decide (k<d.ps.n)=true:=by simp;omega
  have bad:JF d.ps k=true→QU (JF d.ps) (d.ps.n-k) k=some k:=fun q=>by rw[hm,QU,q]
  have go:JF d.ps k=false→QU (JF d.ps) (d.ps.n-k) k=QU (JF d.ps) (d.ps.n-(k+1)) (k+1):=fun q=>by rw[hm,hm',QU,q]
  have no:JF d.ps k=true→(QU (JF d.ps) (d.ps.n-k) k).isNone=false:=fun q=>by rw[bad q];rfl
  refine QF hA (QF hB (QF rfl (QI (fun h0 => ?_) (fun h0 => ?_))))
  ·have q:JF d.ps k=true:=by simp only[Bool.not_eq_true']at h0;simp only[JF,QG.ok,h0,Bool.false_and,Bool.not_false]
   exact⟨_,.inl ⟨rfl,no q,rfl⟩,rfl,rfl,_,QYd,⟨rfl,trivial⟩⟩
  refine QF hA (QF hB (QF rfl (QI (fun h1 => ?_) (fun h1 => ?_))))
  ·have q:JF d.ps k=true:=by simp only[Bool.not_eq_true']at h1;simp only[JF,QG.ok,h1,Bool.false_and,Bool.and_false,Bool.not_false]
   exact⟨_,.inl ⟨rfl,no q,rfl⟩,rfl,rfl,_,QXK,⟨rfl,trivial⟩⟩
  refine QF hA (QF hB (QF rfl (QI (fun h2 => ?_) (fun h2 => ?_))))
  ·have q:JF d.ps k=true:=by simp only[Bool.not_eq_true']at h2;simp only[JF,QG.ok,h2,Bool.false_and,Bool.and_false,Bool.not_false]
   exact⟨_,.inl ⟨rfl,no q,rfl⟩,rfl,rfl,_,QUX,⟨rfl,trivial⟩⟩
  refine QF hA (QF hB (QF rfl (QI (fun h3 => ?_) (fun h3 => ?_))))
  ·have q:JF d.ps k=true:=by simp only[Bool.not_eq_true']at h3;simp only[JF,QG.ok,h3,Bool.and_false,Bool.not_false]
   exact⟨_,.inl ⟨rfl,no q,rfl⟩,rfl,rfl,_,QVC,⟨rfl,trivial⟩⟩
  have q:JF d.ps k=false:=by simp only[Bool.not_eq_false']at h0 h1 h2 h3;simp only[JF,QG.ok,h0,h1,h2,h3,Bool.and_self,Bool.not_true]
  have hw:i64.wrap ((k:Int)+1)=((k+1:Nat):Int):=(w64 (by omega) (by omega)).trans (by omega)
  refine⟨k+1,h,by show d.ps.n-(k+1)<d.ps.n-k;omega,fun e J h=>by unfold QKR at h ⊢;rw[go q];exact h,rfl,rfl,_,QYu d k (k+1),?_⟩
  repeat' first|exact trivial|with_reducible rfl|exact qlr _|exact qRr|exact hw|refine And.intro ?_ ?_
 ·have h:d.ps.n≤k:=by have:=of_decide_eq_false h;omega
  have hf:QU (JF d.ps) (d.ps.n-k) k=none:=by rw[show d.ps.n-k=0 by omega];rfl
  exact⟨_,.inr ⟨rfl,by rw[hf];rfl,rfl⟩,rfl,rfl,_,QSc,trivial⟩
def QUq:List (Prop×Ex×JSt):=[((QU (JF d.ps) d.ps.n 0).isNone=false,.ret,zU),((QU (JF d.ps) d.ps.n 0).isNone=true,.exit 0,QEA)]
abbrev QCj(P:Program)(d:Puz):Hnd:={ hnd (mkE P Yi) 1 with loop:=fun _=>KN 8 [] (QDg d (0:Nat)) (QUq d) }
theorem QVu(hl:d.ps.n≤1000)(G:Ctx)(hrd:G.rd=none)(hG:G.n=8):KH (mkE Try.prog Yi) G (QCj Try.prog d) (Qr Try.f40):=by
 refine Jd (body:=Qd Try.f40 0) (QT G2) hrd (by kernel_rfl) ?_
 refine Ju (n0:=8) (QT G2) (by omega) (fun s hs=>Qz (QT G2) 6 G _ hrd) (fun s hs=>(by decide:8≤96)) ?_ (QRi d hl) (s0:=0) (Nat.zero_le _) ?_
 ·rintro s e J (⟨_,_,rfl⟩|⟨_,_,rfl⟩)<;>exact(by decide:8≤96)
 ·rintro e J (⟨rfl,h,rfl⟩|⟨rfl,h,rfl⟩)
  ·exact⟨_,List.mem_cons_self,h,rfl,rfl⟩
  ·exact⟨_,List.mem_cons_of_mem _ List.mem_cons_self,h,rfl,rfl⟩
def qM:WF (Puz×Unit):=fun|(d,_)=>(decide (d.ps.n≤1000),.bool false d.ok,[])
def QK2:FC:=wFC qM
theorem Qbu :Kc (mkE Try.prog Yi) (QCj Try.prog d) Try.f40 (QX.vals 0 ((d,()):Puz×Unit)) (QX.blks 0 ((d,()):Puz×Unit)) 8 = .need (true) (.br (!d.play.ok) (.leaf (.bool
  true false) ([])) (.need (true) (.br (!Qg (d.ps.n:Int) (1:Int) (9:Int)) (.leaf (.bool true false) ([])) (.need (true) (.br (!Qg d.wide (1:Int) (9:Int)) (.leaf
  (.bool true false) ([])) (.need (true) (.br (!Qg d.high (1:Int) (9:Int)) (.leaf (.bool true false) ([])) (.br (i64.wrap (d.wide*d.high) != (d.ps.n:Int)) (.leaf
  (.bool true false) ([])) (.ask (0=0) (.ask (0=0) (.ask ((0:Int)=0) (.ask (d.play.length=d.play.length) (.ask (d.play.slack=d.play.slack) (.ask (d.play.loose =
  d.play.loose) (.ask (d.play.damp.lo=d.play.damp.lo) (.ask (d.play.damp.hi=d.play.damp.hi) (.ask (d.wide=d.wide) (.ask (d.high=d.high) (.ask (d.turn=d.turn) (.ask (0=0)
  (.ask (d.ps.n=d.ps.n) (.ask (cO=cO) (.ask (d.ps.n≤d.ps.n) (.ask (QC 28 d.ps.n (fun i=>QA.enc (d.ps.get i)) fun i=>QA.enc (d.ps.get i)) (.both (.asm
  ((QU (JF d.ps) d.ps.n 0).isNone=false) (.all (fun(g0:Nat→Value) => .leaf (.bool false false) ([])))) (.asm ((QU (JF d.ps) d.ps.n 0).isNone=true) (.all (fun(g1
  : Nat→Value) => .leaf (.bool true true) ([]))))))))))))))))))))))))))))):=by kernel_rfl
theorem Qbb:Jr (mkE Try.prog Yi) (Qr Try.f40) 8 qM (fun x_=>(QCj Try.prog x_.1)):=by
 refine⟨?_⟩;rintro⟨d,⟨⟩⟩ hp G h1 h2;exact QVu d (qdt hp) G h1 h2
theorem QcE:Jo (mkE Try.prog Yi) Try.f40 8 qM (fun x_=>(QCj Try.prog x_.1)):=by
 refine⟨?_⟩;rintro⟨d,⟨⟩⟩ hp;refine⟨⟨rfl,by simp[qM],rfl⟩,⟨?_⟩⟩
 rw[Qbu d];simp only[qM]at hp;have no:okR d=false→(QD.leaf (AV.bool true false) []).den (XG 8 (qM (d,())).2.1 (qM (d,())).2.2):=fun h=>JE (show false=d.ok by rw[←QDi,h]) rfl
 refine QF rfl (QI (fun h1=>no ?_) (fun h1=>QF rfl (QI (fun h2=>no ?_) (fun h2=>QF rfl (QI (fun h3=>no ?_) (fun h3=>QF rfl (QI (fun h4=>no ?_) (fun h4=>QI (fun h5=>no ?_) (fun h5 => ?_)))))))))
 ·simp only[Bool.not_eq_true']at h1;simp only[okR,h1,Bool.false_and]
 ·simp only[Bool.not_eq_true']at h2;simp only[okR,h2,Bool.false_and,Bool.and_false]
 ·simp only[Bool.not_eq_true']at h3;simp only[okR,h3,Bool.false_and,Bool.and_false]
 ·simp only[Bool.not_eq_true']at h4;simp only[okR,h4,Bool.false_and,Bool.and_false]
 ·have h5:(i64.wrap (d.wide*d.high)==(d.ps.n:Int))=false:=by simpa using h5
  simp only[okR,h5,Bool.false_and,Bool.and_false]
 ·have h5:(i64.wrap (d.wide*d.high)==(d.ps.n:Int))=true:=by simpa using h5
  simp only[Bool.not_eq_false']at h1 h2 h3 h4
  repeat' first|refine Qb (show _=_ by with_reducible rfl) ?_|refine Qb (show _≤_ from qlr _) ?_|refine Qb (show QC _ _ _ _ from qRr) ?_
  refine Yu (KO fun h=>KK fun g => ?_) (KO fun h=>KK fun g => ?_)
  ·exact JE (show false=d.ok by rw[←QDi];simp only[okR,h,Bool.and_false]) rfl
  ·exact JE (show true=d.ok by rw[←QDi];simp only[okR,h1,h2,h3,h4,h5,h,Bool.and_self]) rfl
theorem QWc:QQ Try.prog 40 QK2:=
 Jx (QT G2) Try.func40 (by kernel_rfl) (by kernel_rfl) (by decide) Qbb QcE
def QAY:Tab:=Qe Yi 40 QK2
theorem QJY:Qc QAY:=G2.add QWc
end Go.Proofs.Ytbpffdkemeoajaa
namespace Go.SX
open Go Go.RowKit Go.Proofs.Ytbpffdkemeoajaa
def vm:Code→Option Nat
 | .region id _ _=>some id
 | .seq a b=>(match vm a with
  | some x=>some x
  | none=>vm b)
 | .block _ a=>vm a
 | .scope a=>vm a
 | .loop a=>vm a
 | _=>none
def QJo(l:List (Nat×(St→(Ex→St→QD)→QD)))(c:Code):St→(Ex→St→QD)→QD:=match vm c with
 | some r=>(match l.find? (fun p=>Nat.beq p.1 r)with
  | some p=>p.2
  | none => fun _ _ => .fail "a loop that is not told")
 | none => fun _ _ => .fail "a loop without a region"
theorem QLr{E:Env}(hE:E.Sound){d:Nat}{G:Ctx}(hG:G.rd=none){c:Code}{L:Code→St→(Ex→St→QD)→QD}(h:∀ s∈JB c,J5 E G s (L s)):KH E G { hnd E d with loop:=L } c:=
 ⟨h,(Qz hE d G c hG).call,(Qz hE d G c hG).yield⟩
end Go.SX
namespace Go.Proofs.Ytbpffdkemeoajaa
open Go.SX
variable {f:Nat→Bool}{n:Nat}(x:QE)(k:Nat)
def QHe:List (Nat×Blk):=[(8,.cells 0 50 (Jt 0 x))]++VY 0 x
def Hu:JSt:=⟨97,[(1,.ptr 8 0 0),(3,.int false .i64 k)],QHe x,96⟩
def HK:JSt:=⟨97,[(1,.ptr 8 0 0),(4,.int false .i64 k)],QHe x,96⟩
def QKq:Ex→List Nat
 | .normal=>[1,3]
 | .exit _=>[1]
 | .ret=>[2]
def QIu:Ex→List Nat
 | .normal=>[1,4]
 | .exit _=>[1]
 | .ret=>[2]
def j7:JSt:=⟨97,[(2,.bool false false)],[],96⟩
def zP:JSt:=⟨97,[(1,.ptr 8 0 0)],QHe x,96⟩
def QNj:Int×Int×Int×Unit→Bool×AV:=fun|(n,(a,(b,_)))=>(true,.bool false (Qg n a b))
def QQW:FC:=KD (KE QNj)
theorem QSW(n:Int)(a:Int)(b:Int):Q8 (mkE Try.prog QAY) (hnd (mkE Try.prog QAY) 0) false Try.f63 (Qt.enc ((n,a,b,()):Int×Int×Int×Unit)) [] 0 =
  QD.br (decide (a≤n)) (QD.leaf (AV.bool false (decide (n≤b))) ([])) (QD.leaf (AV.bool true false) ([])):=by kernel_rfl
theorem QZw:QQ Try.prog 63 QQW:=by
 refine KQ QJY 0 Try.func63 (by kernel_rfl) (by kernel_rfl) ?_
 rintro⟨n,a,b,⟨⟩⟩ hp;rw[QSW n a b];simp only[QNj,QD.den,AV.same,AV.sameL,and_true,true_and]at hp ⊢
 (repeat' (first|(refine And.intro ?_ ?_)|(intro _)))<;>simp_all [Qg]<;>omega
def Vu:Tab:=Qe QAY 63 QQW
theorem jV:Qc Vu:=QJY.add QZw
noncomputable abbrev QPk:List AV:=
  [.nilp,.ptr 97 0 0,.ptr 8 0 0,vi (i64.wrap ((k:Int)+1))]
abbrev QPv:List CK:=
  [.int .i64,.int .i64,.int .i64,.int .i64,.int .i64,.int .i64,.int .i64,.int .i64,.int .i64,.int .i64,.int .i64,.int .i64,.int .i64,.int .i64,.int .i64,.int .i64,.int
  .i64,.int .i64,.int .i64,.int .i64,.int .i64,.int .i64,.int .i64,.int .i64,.int .i64,.int .i64,.int .i64,.int .i64]
noncomputable abbrev WM:List (Nat×Blk):=
  [(8,.cells 0 50 [vi x.d.play.length,vi x.d.play.slack,vi x.d.play.loose,vi x.d.play.damp.lo,.int false .i64
  x.d.play.damp.hi,vi x.d.wide,vi x.d.high,.bool false x.d.turn,.slz 0 0 x.d.ps.n cO,.slz 1 0 x.scans.n cO,.slz 2 0 x.hang.n (Cap.of
  0),vi x.lost,vi x.foreign]),(0,.frz QPv x.d.ps.n fun i=>QA.enc (x.d.ps.get i)),(1,.frz QPv x.scans.n fun i=>QA.enc (x.scans.get i)),(2,
  .frz [.int .i64,.int .i64,.int .i64,.int .i64] x.hang.n fun i=>QA.enc (x.hang.get i))]
theorem QWm(g:Nat→Value):exec (mkE Try.prog Vu) (hnd (mkE Try.prog Vu) 6) (Qd Try.f35 0) (JSt.inst (Hu x k) g) (KS [] QKq) = .br (decide ((k:Int)<(x.scans.n:Int))) (.need (decide
  ((0:Int)≤(k:Int)∧(k:Int)<(x.scans.n:Int))&&decide (x.scans.n≤x.scans.n)) (.need (decide (k<x.scans.n)) (.need (true) (.br (!(x.scans.get k).ok) (.leaf (.tup
  [.nili,.ptr 97 0 0,.bool true false]) ([])) (.leaf (.tup (QPk k)) ((WM x))))))) (.leaf (.tup [.ptr 0 0 0,.ptr 97 0 0,.ptr 8 0 0]) ((WM x))):=by kernel_rfl
theorem QT0(g:Nat→Value):exec (mkS Try.prog Vu) (hnd (mkS Try.prog Vu) 6) (Qd Try.f35 1) (JSt.inst (HK x k) g) (KS [] QIu) = .br (decide ((k:Int)<(x.hang.n:Int))) (.need (decide
  ((0:Int)≤(k:Int)∧(k:Int)<(x.hang.n:Int))&&decide (x.hang.n≤x.hang.n)) (.need (decide (k<x.hang.n)) (.need (true) (.need (!!!Qg (x.hang.get k).a (0:Int)
  (i64.wrap ((x.scans.n:Int)-1)) || !!Qg (x.hang.get k).a (0:Int) (i64.wrap ((x.scans.n:Int)-1))) (.need (!!!Qg (x.hang.get k).a (0:Int)
  (i64.wrap ((x.scans.n:Int)-1)) || !!Qg (x.hang.get k).a (0:Int) (i64.wrap ((x.scans.n:Int)-1))) (.need (!!!Qg (x.hang.get k).a (0:Int)
  (i64.wrap ((x.scans.n:Int)-1)) || !!Qg (x.hang.get k).a (0:Int) (i64.wrap ((x.scans.n:Int)-1))) (.need (!!!Qg (x.hang.get k).a (0:Int)
  (i64.wrap ((x.scans.n:Int)-1)) || !!Qg (x.hang.get k).a (0:Int) (i64.wrap ((x.scans.n:Int)-1))) (.need (!!!Qg (x.hang.get k).a (0:Int)
  (i64.wrap ((x.scans.n:Int)-1))||true&&(!!Qg (x.hang.get k).a (0:Int) (i64.wrap ((x.scans.n:Int)-1)) && !!Qg (x.hang.get k).a (0:Int)
  (i64.wrap ((x.scans.n:Int)-1)))) (.need (!!!Qg (x.hang.get k).a (0:Int) (i64.wrap ((x.scans.n:Int)-1)) || !!Qg (x.hang.get k).a (0:Int)
  (i64.wrap ((x.scans.n:Int)-1))) (.need (!Qg (x.hang.get k).a (0:Int) (i64.wrap ((x.scans.n:Int)-1)) || !!Qg (x.hang.get k).a (0:Int)
  (i64.wrap ((x.scans.n:Int)-1))) (.bnd (!Qg (x.hang.get k).a (0:Int) (i64.wrap ((x.scans.n:Int)-1)) || !Qg (x.hang.get k).b (0:Int)
  (i64.wrap ((x.scans.n:Int)-1))) (fun(x0:Bool) => .need (!!x0 || !x0) (.need (!!x0 || !x0) (.need (!!x0 || !x0 && !x0) (.need (x0 || !x0) (.bnd (x0||(x.hang.get k).a
  == (x.hang.get k).b) (fun(x1:Bool) => .need (!!x1 || !x1) (.need (!!x1||true && !x1) (.need (!!x1 || !x1) (.need (x1 || !x1) (.bnd (x1 || !Qg (x.hang.get k).i (0:Int) (3
  : Int)) (fun(x2:Bool) => .need (!!x2 || !x2) (.need (!!x2||true && !x2) (.need (!!x2 || !x2) (.need (x2 || !x2) (.bnd (x2 || !Qg (x.hang.get k).j (0:Int) (3:Int)) (fun
  (x3:Bool) => .br (x3) (.leaf (.tup [.nili,.ptr 97 0 0,.bool true false]) ([])) (.leaf (.tup (QPk k)) ((WM x)))))))))))))))))))))))))))))) (.leaf (.tup [.ptr 2 0 0,.ptr 97 0
  0,.ptr 8 0 0]) ((WM x))):=by kernel_rfl
theorem Qbz :QK 8 [AV.bool true false] ([]) j7=(
  some [false=false]):=by kernel_rfl
abbrev QIz(k':Nat)(x:QE):List Prop:=
  [0=0,0=0,i64.wrap ((k:Int)+1)=(k':Int),x.d.play.length=x.d.play.length,x.d.play.slack=x.d.play.slack,x.d.play.loose=x.d.play.loose,x.d.play.damp.lo =
  x.d.play.damp.lo,x.d.play.damp.hi=x.d.play.damp.hi,x.d.wide=x.d.wide,x.d.high=x.d.high,x.d.turn=x.d.turn,0=0,x.d.ps.n=x.d.ps.n,cO=cO,0=0,
  x.scans.n=x.scans.n,cO=cO,0=0,x.hang.n=x.hang.n,cO=cO,x.lost=x.lost,x.foreign=x.foreign,x.d.ps.n≤x.d.ps.n,QC 28 x.d.ps.n (fun i
  => QA.enc (x.d.ps.get i)) fun i=>QA.enc (x.d.ps.get i),x.scans.n≤x.scans.n,QC 28 x.scans.n (fun i=>QA.enc (x.scans.get i)) fun i=>QA.enc (x.scans.get i),
  x.hang.n≤x.hang.n,QC 4 x.hang.n (fun i=>QA.enc (x.hang.get i)) fun i=>QA.enc (x.hang.get i)]
theorem QX9(k k':Nat):QK 8 [.ptr 8 0 0,vi (i64.wrap ((k:Int)+1))] ((WM x)) (Hu x k')=(some (QIz k k' x)):=by kernel_rfl
abbrev QM9:List Prop:=
  [0=0,0=0,x.d.play.length=x.d.play.length,x.d.play.slack=x.d.play.slack,x.d.play.loose=x.d.play.loose,x.d.play.damp.lo=x.d.play.damp.lo,x.d.play.damp.hi =
  x.d.play.damp.hi,x.d.wide=x.d.wide,x.d.high=x.d.high,x.d.turn=x.d.turn,0=0,x.d.ps.n=x.d.ps.n,cO=cO,0=0,x.scans.n=x.scans.n,cO=cO,
  0=0,x.hang.n=x.hang.n,cO=cO,x.lost=x.lost,x.foreign=x.foreign,x.d.ps.n≤x.d.ps.n,QC 28 x.d.ps.n (fun i=>QA.enc (x.d.ps.get i)) fun i=>QA.enc
  (x.d.ps.get i),x.scans.n≤x.scans.n,QC 28 x.scans.n (fun i=>QA.enc (x.scans.get i)) fun i=>QA.enc (x.scans.get i),x.hang.n≤x.hang.n,QC 4 x.hang.n (fun i=>
  QA.enc (x.hang.get i)) fun i=>QA.enc (x.hang.get i)]
theorem QZz :QK 8 [.ptr 8 0 0] ((WM x)) (zP x)=(some (QM9 x)):=by kernel_rfl
theorem QTN :QK 8 [AV.bool true false] ([]) j7=(
  some [false=false]):=by kernel_rfl
theorem QWY(k k':Nat):QK 8 [.ptr 8 0 0,vi (i64.wrap ((k:Int)+1))] ((WM x)) (HK x k')=(some (QIz k k' x)):=by kernel_rfl
theorem QR6 :QK 8 [.ptr 8 0 0] ((WM x)) (zP x)=(some (QM9 x)):=by kernel_rfl
def Ya:Bool := !(x.scans.get k).ok
def QKl(e:Ex)(J:JSt):Prop:=(e = .ret∧(QU (Ya x) (x.scans.n-k) k).isNone=false∧J=j7)∨(e = .exit 0∧(QU (Ya x) (x.scans.n-k) k).isNone=true∧J=zP x)
def QPo(e:Ex)(J:JSt):Prop:=(e = .ret∧(QU (JM x) (x.hang.n-k) k).isNone=false∧J=j7)∨(e = .exit 2∧(QU (JM x) (x.hang.n-k) k).isNone=true∧J=zP x)
theorem QNp{k:Nat}(h:k<n)(q:f k=true):(QU f (n-k) k).isNone=false:=by
 obtain⟨m,hm⟩:∃ m,n-k=m+1:=⟨n-k-1,by omega⟩
 rw[hm,QU,q];rfl
theorem QOl{k:Nat}(h:k<n)(q:f k=false):QU f (n-k) k=QU f (n-(k+1)) (k+1):=by
 obtain⟨m,hm⟩:∃ m,n-k=m+1:=⟨n-k-1,by omega⟩
 rw[hm,show n-(k+1)=m by omega,QU,q]
theorem QNt{k:Nat}(h:n≤k):(QU f (n-k) k).isNone=true:=by
 rw[show n-k=0 by omega];rfl
theorem QWP(hl:x.scans.n≤1000):Ji (Hu x) (fun k=>k≤x.scans.n) (fun k=>x.scans.n-k) (QKl x) 8 QKq [] (mkE Try.prog Vu) (fun _=>hnd (mkE Try.prog Vu) 6) (Qd Try.f35 0):=by
 refine⟨fun k g hk=>Q0 (QWm x k g) ?_⟩;refine QI (fun h => ?_) (fun h => ?_)
 ·have h:k<x.scans.n:=by have:=qdt h;omega
  refine QF (by simp;omega) (QF (by simp;omega) (QF rfl (QI (fun q => ?_) (fun q => ?_))))
  ·exact⟨_,.inl ⟨rfl,QNp h q,rfl⟩,rfl,rfl,_,Qbz,⟨rfl,trivial⟩⟩
  ·refine⟨k+1,h,by show x.scans.n-(k+1)<x.scans.n-k;omega,fun e J r=>by unfold QKl at r ⊢;rw[QOl h q];exact r,rfl,rfl,_,QX9 x k (k+1),?_⟩
   repeat' first|with_reducible refine QN ?_ ?_|exact trivial|with_reducible rfl|exact qlr _|exact qRr|exact K6 h hl|refine And.intro ?_ ?_
 ·have h:x.scans.n≤k:=by have:=of_decide_eq_false h;omega
  refine⟨_,.inr ⟨rfl,QNt h,rfl⟩,rfl,rfl,_,QZz x,?_⟩
  repeat' first|with_reducible refine QN ?_ ?_|exact trivial|with_reducible rfl|exact qlr _|exact qRr|refine And.intro ?_ ?_
theorem QTI(hl:x.hang.n≤1000):Ji (HK x) (fun k=>k≤x.hang.n) (fun k=>x.hang.n-k) (QPo x) 8 QIu [] (mkS Try.prog Vu) (fun _=>hnd (mkS Try.prog Vu) 6) (Qd Try.f35 1):=by
 refine⟨fun k g hk=>Q0 (QT0 x k g) ?_⟩;refine QI (fun h => ?_) (fun h => ?_)
 ·have h:k<x.hang.n:=by have:=qdt h;omega
  refine QF (by simp;omega) (QF (by simp;omega) ?_)
  have hb:JM x k=(!Qg (x.hang.get k).a 0 (i64.wrap ((x.scans.n:Int)-1))||(!Qg (x.hang.get k).b 0 (i64.wrap ((x.scans.n:Int)-1))||(((x.hang.get k).a==(x.hang.get k).b)||(!Qg (x.hang.get k).i 0 3 || !Qg (x.hang.get k).j 0 3)))):=rfl
  generalize Qg (x.hang.get k).a 0 (i64.wrap ((x.scans.n:Int)-1))=w1 at hb ⊢;generalize Qg (x.hang.get k).b 0 (i64.wrap ((x.scans.n:Int)-1))=w2 at hb ⊢;generalize ((x.hang.get k).a==(x.hang.get k).b)=w3 at hb ⊢;generalize Qg (x.hang.get k).i 0 3=w4 at hb ⊢;generalize Qg (x.hang.get k).j 0 3=w5 at hb ⊢
  repeat' first|refine QF rfl ?_|refine QF (by grind) ?_|refine KL fun z hz => ?_
  refine QI (fun q => ?_) (fun q => ?_)
  ·exact⟨_,.inl ⟨rfl,QNp h (by grind),rfl⟩,rfl,rfl,_,QTN,⟨rfl,trivial⟩⟩
  ·refine⟨k+1,h,by show x.hang.n-(k+1)<x.hang.n-k;omega,fun e J r=>by unfold QPo at r ⊢;rw[QOl h (by grind)];exact r,rfl,rfl,_,QWY x k (k+1),?_⟩
   repeat' first|with_reducible refine QN ?_ ?_|exact trivial|with_reducible rfl|exact qlr _|exact qRr|exact K6 h hl|refine And.intro ?_ ?_
 ·have h:x.hang.n≤k:=by have:=of_decide_eq_false h;omega
  refine⟨_,.inr ⟨rfl,QNt h,rfl⟩,rfl,rfl,_,QR6 x,?_⟩
  repeat' first|with_reducible refine QN ?_ ?_|exact trivial|with_reducible rfl|exact qlr _|exact qRr|refine And.intro ?_ ?_
def QQv:List (Prop×Ex×JSt):=[((QU (Ya x) x.scans.n 0).isNone=false,.ret,j7),((QU (Ya x) x.scans.n 0).isNone=true,.exit 0,zP x)]
def QLk:List (Prop×Ex×JSt):=[((QU (JM x) x.hang.n 0).isNone=false,.ret,j7),((QU (JM x) x.hang.n 0).isNone=true,.exit 2,zP x)]
abbrev QDu:Code→St→(Ex→St→QD)→QD:=QJo [(4,KN 8 [] (Hu x (0:Nat)) (QQv x)),(9,KN 8 [] (HK x (0:Nat)) (QLk x))]
abbrev QBp(P:Program)(x:QE):Hnd:={ hnd (mkS P Vu) 1 with loop:=QDu x }
theorem QV7(hs:x.scans.n≤1000)(hh:x.hang.n≤1000)(G:Ctx)(hrd:G.rd=none)(hG:G.n=8):KH (mkS Try.prog Vu) G (QBp Try.prog x) (Qr Try.f35):=by
 refine QLr (XK jV) hrd fun c hc => ?_;have he:JB (Qr Try.f35)=[.loop (Qd Try.f35 0),.loop (Qd Try.f35 1)]:=by kernel_rfl
 rw[he]at hc;simp only[List.mem_cons,List.not_mem_nil,or_false]at hc;rcases hc with rfl|rfl
 ·have e1:QDu x (.loop (Qd Try.f35 0))=KN 8 [] (Hu x (0:Nat)) (QQv x):=by kernel_rfl
  rw[e1];refine Ze (E:=mkE Try.prog Vu) rfl (Ju (n0:=8) (QT jV) (by omega) (fun s hs=>Qz (QT jV) 6 G _ hrd) (fun s hs=>(by decide:8≤96)) ?_ (QWP x hs) (s0:=0) (Nat.zero_le _) ?_)
  ·rintro s e J (⟨_,_,rfl⟩|⟨_,_,rfl⟩)<;>exact(by decide:8≤96)
  ·rintro e J (⟨rfl,h,rfl⟩|⟨rfl,h,rfl⟩)
   ·exact⟨_,List.mem_cons_self,h,rfl,rfl⟩
   ·exact⟨_,List.mem_cons_of_mem _ List.mem_cons_self,h,rfl,rfl⟩
 ·have e1:QDu x (.loop (Qd Try.f35 1))=KN 8 [] (HK x (0:Nat)) (QLk x):=by kernel_rfl
  rw[e1];refine Ju (n0:=8) (XK jV) (by omega) (fun s hs=>Qz (XK jV) 6 G _ hrd) (fun s hs=>(by decide:8≤96)) ?_ (QTI x hh) (s0:=0) (Nat.zero_le _) ?_
  ·rintro s e J (⟨_,_,rfl⟩|⟨_,_,rfl⟩)<;>exact(by decide:8≤96)
  ·rintro e J (⟨rfl,h,rfl⟩|⟨rfl,h,rfl⟩)
   ·exact⟨_,List.mem_cons_self,h,rfl,rfl⟩
   ·exact⟨_,List.mem_cons_of_mem _ List.mem_cons_self,h,rfl,rfl⟩
end Go.Proofs.Ytbpffdkemeoajaa
