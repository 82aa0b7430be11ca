/- - -/
import Derived.Test.YtbpffdkemeoajaaMxzc
open Go.IntKind (i64)
set_option maxRecDepth 100000
namespace Go.Proofs.Ytbpffdkemeoajaa
open Go.SX
def QIS:Int×Int×Int×Unit→Bool×AV:=fun|(n,(a,(b,_)))=>(true,.bool false (QX n a b))
def QKX:FC:=Q3 (Q1 QIS)
theorem QQb(n:Int)(a:Int)(b:Int):Qt (mkE Try.prog GL) (hnd (mkE Try.prog GL) 0) false Try.f68 (Qm.enc ((n,a,b,()):Int×Int×Int×Unit)) [] 0 =
  QB.br (decide (a≤n)) (QB.leaf (AV.bool false (decide (n≤b))) ([])) (QB.leaf (AV.bool true false) ([])):=by kernel_rfl
theorem QNh:QQ Try.prog 68 QKX:=by
 refine Q7 QGV 0 Try.func68 (by kernel_rfl) (by kernel_rfl) ?_
 rintro⟨n,a,b,⟨⟩⟩ hp;rw[QQb n a b];simp only[QIS,QB.den,AV.same,AV.sameL,and_true,true_and]at hp ⊢
 (repeat' (first|(refine And.intro ?_ ?_)|(intro _)))<;>simp_all [QX]<;>omega
def Ga:Tab:=Qb GL 68 QKX
theorem QIR:QV Ga:=QGV.add QNh
def QHu:Sp×Sp×Unit→Bool×AV:=fun|(a,(b,_))=>(true,.bool false (com a b))
def QJz:FC:=Q3 (Q1 QHu)
theorem QQA(a:Sp)(b:Sp):Qt (mkE Try.prog Ga) (hnd (mkE Try.prog Ga) 0) false Try.f102 (Qm.enc ((a,b,()):Sp×Sp×Unit)) [] 0 =
  QB.br (decide (a.lo≤b.hi)) (QB.leaf (AV.bool false (decide (b.lo≤a.hi))) ([])) (QB.leaf (AV.bool true false) ([])):=by kernel_rfl
theorem QOq:QQ Try.prog 102 QJz:=by
 refine Q7 QIR 0 Try.func102 (by kernel_rfl) (by kernel_rfl) ?_
 rintro⟨a,b,⟨⟩⟩ hp;rw[QQA a b];simp only[QHu,QB.den,AV.same,AV.sameL,and_true,true_and]at hp ⊢;simp only[com];refine⟨fun h => ?_,fun h => ?_⟩
 ·rw[h];simp
 ·rw[h];simp
def zi:Tab:=Qb Ga 102 QJz
theorem QJM:QV zi:=QIR.add QOq
def QLz:Edge×Edge×Unit→Bool×AV:=fun|(a,(b,_))=>(true,.bool false (isS a b))
def QGh:FC:=Q3 (Q1 QLz)
theorem QWQ(a:Edge)(b:Edge):Qt (mkE Try.prog zi) (hnd (mkE Try.prog zi) 0) false Try.f88 (Qm.enc ((a,b,()):Edge×Edge×Unit)) [] 0 =
  QB.br (a.kind==b.kind) (QB.br (a.kind==(0:Int)) (QB.leaf (AV.bool true true) ([])) (QB.need (true) (QB.br (com a.at_ b.at_) (QB.need (true) (QB.br (com a.wide
  b.wide) (QB.need (true) (QB.leaf (AV.bool false (com a.deep b.deep)) ([]))) (QB.leaf (AV.bool true false) ([])))) (QB.leaf (AV.bool true false) ([]))))) (QB.leaf (AV.bool
  true false) ([])):=by kernel_rfl
theorem QNd:QQ Try.prog 88 QGh:=by
 refine Q7 QJM 0 Try.func88 (by kernel_rfl) (by kernel_rfl) ?_
 rintro⟨a,b,⟨⟩⟩ hp;rw[QWQ a b];simp only[QLz,QB.den,AV.same,AV.sameL,and_true,true_and]at hp ⊢;simp only[isS,isF];generalize com a.at_ b.at_=c1
 generalize com a.wide b.wide=c2;generalize com a.deep b.deep=c3
 by_cases h:a.kind=b.kind
 ·by_cases h0:b.kind=0
  ·simp[h,h0]
  ·cases c1<;>cases c2<;>cases c3<;>simp[h,h0]
 ·by_cases h0:a.kind=0
  ·have:¬ b.kind=0:=fun e=>h (by rw[h0,e])
   have h':¬ 0=b.kind:=fun e=>this e.symm;simp[h0,this,h']
  ·simp[h,h0]
def QAM:Tab:=Qb zi 88 QGh
theorem QKh:QV QAM:=QJM.add QNd
def QH3:QI×Unit→Bool×AV:=fun|(s,_)=>(true,.bool false s.ok)
def QH7:FC:=Q3 (Q1 QH3)
theorem QOW(s:QI):Qt (mkE Try.prog QAM) (hnd (mkE Try.prog QAM) 6) false Try.f28 (Qm.enc ((s,()):QI×Unit)) [] 0 =
  QB.need (true) (QB.br (!s.up.ok) (QB.leaf (AV.bool true false) ([])) (QB.need (true) (QB.br (!s.right.ok) (QB.leaf (AV.bool true false) ([])) (QB.need (true) (QB.br
  (!s.down.ok) (QB.leaf (AV.bool true false) ([])) (QB.need (true) (QB.br (!s.left.ok) (QB.leaf (AV.bool true false) ([])) (QB.leaf (AV.bool true true) ([]))))))))):=by kernel_rfl
theorem QRL:QQ Try.prog 28 QH7:=by
 refine Q7 QKh 6 Try.func28 (by kernel_rfl) (by kernel_rfl) ?_
 rintro⟨s,⟨⟩⟩ hp;rw[QOW s];simp only[QH3,QB.den,AV.same,AV.sameL,and_true,true_and]at hp ⊢;simp only[QI.ok];cases s.up.ok<;>cases s.right.ok<;>cases s.down.ok<;>cases s.left.ok<;>simp
def Yu:Tab:=Qb QAM 28 QH7
theorem QBn:QV Yu:=QKh.add QRL
def vg:WF (Puz×Edge×Edge×Unit):=fun|(d,(a,(b,_)))=>(decide (d.ps.n≤1000),.int false .i64 (KA d.play a b).1,[])
def QHP:FC:=wFC vg
variable (d:Puz)(k:Nat)
theorem QNM(a:Edge)(b:Edge):KY (mkE Try.prog Yu) (hnd (mkE Try.prog Yu) 0) Try.f41 (QS.vals 0 ((d,a,b,()):Puz×Edge×Edge×Unit)) (QS.blks 0 ((d,a,b,()):Puz×Edge×Edge×Unit)) 8 =
  QB.need (true) (QB.leaf (AV.int false i64 (KA d.play a b).1) ([])):=by kernel_rfl
theorem QQs:Kx (mkE Try.prog Yu) (Qq Try.f41) 8 vg (fun x_=>(hnd (mkE Try.prog Yu) 0)):=by
 refine⟨?_⟩;rintro⟨d,⟨a,⟨b,⟨⟩⟩⟩⟩ hp G h1 h2;exact Qv (QR QBn) 0 G _ h1
theorem QSE:K3 (mkE Try.prog Yu) Try.f41 8 vg (fun x_=>(hnd (mkE Try.prog Yu) 0)):=by
 refine⟨?_⟩;rintro⟨d,⟨a,⟨b,⟨⟩⟩⟩⟩ hp;refine⟨⟨rfl,by simp[vg],rfl⟩,⟨?_⟩⟩
 rw[QNM d a b];simp only[vg]at hp;refine QF rfl (Ke ?_ rfl);exact⟨rfl,rfl⟩
theorem QSr:QQ Try.prog 41 QHP:=
 K9 (QR QBn) Try.func41 (by kernel_rfl) (by kernel_rfl) (by decide) QQs QSE
def Y4:Tab:=Qb Yu 41 QHP
theorem QD5:QV Y4:=QBn.add QSr
def Zk:WF (Puz×Int×Int×Unit):=fun|(d,(c,(s,_)))=>(decide ((1≤d.wide∧d.wide≤100)∧(1≤d.high∧d.high≤100)∧(0≤c∧c≤100)),.int false .i64 (QT d.wide d.high c s),[])
def QHA:FC:=wFC Zk
theorem QR9(c:Int)(s:Int):KY (mkE Try.prog Y4) (hnd (mkE Try.prog Y4) 0) Try.f31 (QS.vals 0 ((d,c,s,()):Puz×Int×Int×Unit)) (QS.blks 0 ((d,c,s,()):Puz×Int×Int ×
  Unit)) 8 = .need (!decide (d.wide=0)) (.need (!decide (d.wide=0)) (.br (s==0) (.br (decide (i64.wrap (c.tdiv d.wide)>0)) (.leaf (.int false .i64 (i64.wrap (c
  - d.wide))) ([])) (.br (s==1) (.br (decide (c.tmod d.wide<i64.wrap (d.wide-1))) (.leaf (.int false .i64 (i64.wrap (c+1))) ([])) (.br (s==2) (.br (decide
  (i64.wrap (c.tdiv d.wide)<i64.wrap (d.high-1))) (.leaf (.int false .i64 (i64.wrap (c+d.wide))) ([])) (.br (s==3) (.br (decide (c.tmod d.wide>0))
  (.leaf (.int false .i64 (i64.wrap (c-1))) ([])) (.leaf (.int true .i64 (-1)) ([]))) (.leaf (.int true .i64 (-1)) ([])))) (.br (s==3) (.br (decide (c.tmod d.wide>0))
  (.leaf (.int false .i64 (i64.wrap (c-1))) ([])) (.leaf (.int true .i64 (-1)) ([]))) (.leaf (.int true .i64 (-1)) ([]))))) (.br (s==2) (.br (decide (i64.wrap
  (c.tdiv d.wide)<i64.wrap (d.high-1))) (.leaf (.int false .i64 (i64.wrap (c+d.wide))) ([])) (.br (s==3) (.br (decide (c.tmod d.wide>0)) (.leaf (.int false
  .i64 (i64.wrap (c-1))) ([])) (.leaf (.int true .i64 (-1)) ([]))) (.leaf (.int true .i64 (-1)) ([])))) (.br (s==3) (.br (decide (c.tmod d.wide>0)) (.leaf (.int false
  .i64 (i64.wrap (c-1))) ([])) (.leaf (.int true .i64 (-1)) ([]))) (.leaf (.int true .i64 (-1)) ([])))))) (.br (s==1) (.br (decide (c.tmod d.wide<i64.wrap
  (d.wide-1))) (.leaf (.int false .i64 (i64.wrap (c+1))) ([])) (.br (s==2) (.br (decide (i64.wrap (c.tdiv d.wide)<i64.wrap (d.high-1))) (.leaf (.int
  false .i64 (i64.wrap (c+d.wide))) ([])) (.br (s==3) (.br (decide (c.tmod d.wide>0)) (.leaf (.int false .i64 (i64.wrap (c-1))) ([])) (.leaf (.int true .i64
  (-1)) ([]))) (.leaf (.int true .i64 (-1)) ([])))) (.br (s==3) (.br (decide (c.tmod d.wide>0)) (.leaf (.int false .i64 (i64.wrap (c-1))) ([])) (.leaf (.int true .i64
  (-1)) ([]))) (.leaf (.int true .i64 (-1)) ([]))))) (.br (s==2) (.br (decide (i64.wrap (c.tdiv d.wide)<i64.wrap (d.high-1))) (.leaf (.int false .i64
  (i64.wrap (c+d.wide))) ([])) (.br (s==3) (.br (decide (c.tmod d.wide>0)) (.leaf (.int false .i64 (i64.wrap (c-1))) ([])) (.leaf (.int true .i64 (-1)) ([])))
  (.leaf (.int true .i64 (-1)) ([])))) (.br (s==3) (.br (decide (c.tmod d.wide>0)) (.leaf (.int false .i64 (i64.wrap (c-1))) ([])) (.leaf (.int true .i64 (-1)) ([])))
  (.leaf (.int true .i64 (-1)) ([]))))))):=by kernel_rfl
theorem QNb:Kx (mkE Try.prog Y4) (Qq Try.f31) 8 Zk (fun x_=>(hnd (mkE Try.prog Y4) 0)):=by
 refine⟨?_⟩;rintro⟨d,⟨c,⟨s,⟨⟩⟩⟩⟩ hp G h1 h2;exact Qv (QR QD5) 0 G _ h1
theorem QVi:K3 (mkE Try.prog Y4) Try.f31 8 Zk (fun x_=>(hnd (mkE Try.prog Y4) 0)):=by
 refine⟨?_⟩;rintro⟨d,⟨c,⟨s,⟨⟩⟩⟩⟩ hp;refine⟨⟨rfl,by simp[Zk],rfl⟩,⟨?_⟩⟩
 rw[QR9 d c s];simp only[Zk]at hp;obtain⟨⟨w1,w2⟩,⟨h1,h2⟩,c1,c2⟩:=qdt hp;have q0:0≤c.tdiv d.wide:=Int.tdiv_nonneg c1 (by omega)
 have q1:c.tdiv d.wide≤c:=by rw[Int.tdiv_eq_ediv_of_nonneg c1];exact Int.ediv_le_self _ c1
 have m0:0≤c.tmod d.wide:=Int.tmod_nonneg _ c1;have m1:c.tmod d.wide<d.wide:=Int.tmod_lt_of_pos _ (by omega)
 have e1:i64.wrap (c.tdiv d.wide)=c.tdiv d.wide:=w64 (by omega) (by omega)
 have e2:i64.wrap (c-d.wide)=c-d.wide:=w64 (by omega) (by omega)
 have e3:i64.wrap (d.wide-1)=d.wide-1:=w64 (by omega) (by omega)
 have e4:i64.wrap (c+1)=c+1:=w64 (by omega) (by omega)
 have e5:i64.wrap (d.high-1)=d.high-1:=w64 (by omega) (by omega)
 have e6:i64.wrap (c+d.wide)=c+d.wide:=w64 (by omega) (by omega)
 have e7:i64.wrap (c-1)=c-1:=w64 (by omega) (by omega)
 have dz:(!decide (d.wide=0))=true:=by simp;omega
 rw[e1,e2,e3,e4,e5,e6,e7];refine QF dz (QF dz ?_);have fin:∀ v:AV,v.same (.int false .i64 (QT d.wide d.high c s))→(QB.leaf v []).den (XI 8 (Zk (d,c,s,())).2.1 (Zk (d,c,s,())).2.2):=fun v h=>Ke h rfl
 repeat' refine QK (fun _ => ?_) (fun _ => ?_)
 all_goals refine fin _ ?_
 all_goals simp only[AV.same,QT,true_and]
 all_goals grind
theorem QM7:QQ Try.prog 31 QHA:=
 K9 (QR QD5) Try.func31 (by kernel_rfl) (by kernel_rfl) (by decide) QNb QVi
def Xi:Tab:=Qb Y4 31 QHA
theorem vI:QV Xi:=QD5.add QM7
def Kh(l:Rw QI)(i:Nat):Bool := !(l.get i).ok
def okR:Bool:=d.play.ok&&(QX (d.ps.n:Int) 1 9&&(QX d.wide 1 9&&(QX d.high 1 9&&((i64.wrap (d.wide*d.high)==(d.ps.n:Int))&&(QL (Kh d.ps) d.ps.n 0).isNone))))
theorem QJj(p:Ql)(l:Rw QI)(h:1≤l.n):Js p l=(p.ok&&(QL (Kh l) l.n 0).isNone):=by
 unfold Js;cases hp:p.ok with
 | true=>
  have:Km ⟨p⟩ l=Kh l:=by funext i;simp only[Km,Kh,hp,Bool.true_and]
  rw[this,Bool.true_and]
 | false=>
  obtain⟨m,hm⟩:∃ m,l.n=m+1:=⟨l.n-1,by omega⟩
  rw[hm,QL];simp only[Km,hp,Bool.false_and,Bool.not_false];rfl
theorem GV:okR d=d.ok:=by
 rw[Bool.eq_iff_iff];simp only[okR,Puz.ok,Puz.okN,qbA,QX,qdE,beq_iff_eq];constructor
 ·rintro⟨hp,hn,hw,hh,hm,ha⟩;have m1:d.wide*d.high≤9*9:=Int.mul_le_mul hw.2 hh.2 (by omega) (by omega)
  have m0:0≤d.wide*d.high:=Int.mul_nonneg (by omega) (by omega)
  have e:=hm;rw[w64 (by omega) (by omega)]at e
  have a1:=Int.mul_le_mul_of_nonneg_left (show 1≤d.high from hh.1) (show 0≤d.wide by omega)
  have a2:=Int.mul_le_mul_of_nonneg_right (show 1≤d.wide from hw.1) (show 0≤d.high by omega)
  refine⟨⟨hn,by omega,by omega,hm⟩,?_⟩
  rw[QJj _ _ (by omega),hp,ha];rfl
 ·rintro⟨⟨hn,hw,hh,hm⟩,hs⟩;rw[QJj _ _ (by omega),qbA]at hs
  exact⟨hs.1,hn,by omega,by omega,hm,hs.2⟩
def ze:JSt:=⟨60,[(1,.ptr 8 0 0),(3,.int false .i64 k)],[(8,.cells 0 28 (QFz d))]++Qz.blk 0 d.ps,96⟩
def QEj:Ex→List Nat
 | .normal=>[1,3]
 | .exit _=>[]
 | .ret=>[2]
noncomputable abbrev QKJ:List (Nat×Blk):=
  [(8,.cells 0 28 [vi d.play.length,vi d.play.slack,vi d.play.loose,vi d.play.damp.lo,vi d.play.damp.hi,.int
  false .i64 d.wide,vi d.high,.bool false d.turn,.slz 0 0 d.ps.n cO]),(0,.frz [.int .i64,.int .i64,.int .i64,.int .i64,.int .i64,.int .i64,.int .i64,
  .int .i64,.int .i64,.int .i64,.int .i64,.int .i64,.int .i64,.int .i64,.int .i64,.int .i64,.int .i64,.int .i64,.int .i64,.int .i64,.int .i64,.int .i64,.int .i64,.int
  .i64,.int .i64,.int .i64,.int .i64,.int .i64] d.ps.n fun i=>QA.enc (d.ps.get i))]
theorem QRX(g:Nat→Value):exec (mkE Try.prog Xi) (hnd (mkE Try.prog Xi) 6) (QZ Try.f40 0) (JSt.inst (ze d k) g) (KW [] QEj) = .br (decide ((k:Int)<(d.ps.n:Int))) (.need (decide
  ((0:Int)≤(k:Int)∧(k:Int)<(d.ps.n:Int))&&decide (d.ps.n≤d.ps.n)) (.need (decide (k<d.ps.n)) (.need (true) (.br (!(d.ps.get k).up.ok) (.leaf (.tup [.nili,.ptr 60
  0 0,.bool true false]) ([])) (.need (decide ((0:Int)≤(k:Int)∧(k:Int)<(d.ps.n:Int))&&decide (d.ps.n≤d.ps.n)) (.need (decide (k<d.ps.n)) (.need (true) (.br
  (!(d.ps.get k).right.ok) (.leaf (.tup [.nili,.ptr 60 0 0,.bool true false]) ([])) (.need (decide ((0:Int)≤(k:Int)∧(k:Int)<(d.ps.n:Int))&&decide (d.ps.n≤d.ps.n))
  (.need (decide (k<d.ps.n)) (.need (true) (.br (!(d.ps.get k).down.ok) (.leaf (.tup [.nili,.ptr 60 0 0,.bool true false]) ([])) (.need (decide ((0:Int)≤(k:Int)∧(k:Int)
  < (d.ps.n:Int))&&decide (d.ps.n≤d.ps.n)) (.need (decide (k<d.ps.n)) (.need (true) (.br (!(d.ps.get k).left.ok) (.leaf (.tup [.nili,.ptr 60 0 0,.bool true false]) ([]))
  (.leaf (.tup [.nilp,.ptr 60 0 0,.ptr 8 0 0,vi (i64.wrap ((k:Int)+1))]) ((QKJ d))))))))))))))))))) (.leaf (.tup [.ptr 0 0 0,.ptr 60 0 0]) ([])):=by kernel_rfl
def qe:JSt:=⟨60,[(2,.bool false false)],[],96⟩
def QBw:JSt:=⟨60,[],[],96⟩
theorem QOX :QO 8 [AV.bool true false] ([]) qe=(
  some [false=false]):=by kernel_rfl
theorem QQz :QO 8 [AV.bool true false] ([]) qe=(
  some [false=false]):=by kernel_rfl
theorem QSL :QO 8 [AV.bool true false] ([]) qe=(
  some [false=false]):=by kernel_rfl
theorem QUT :QO 8 [AV.bool true false] ([]) qe=(
  some [false=false]):=by kernel_rfl
theorem QVt(k k':Nat):QO 8 [.ptr 8 0 0,vi (i64.wrap ((k:Int)+1))] ((QKJ d)) (ze d k')=(some [0=0,0=0,i64.wrap ((k:Int)+1)=(k':Int),d.play.length =
  d.play.length,d.play.slack=d.play.slack,d.play.loose=d.play.loose,d.play.damp.lo=d.play.damp.lo,d.play.damp.hi=d.play.damp.hi,d.wide=d.wide,d.high=d.high,d.turn =
  d.turn,0=0,d.ps.n=d.ps.n,cO=cO,d.ps.n≤d.ps.n,QE 28 d.ps.n (fun i=>QA.enc (d.ps.get i)) fun i=>QA.enc (d.ps.get i)]):=by kernel_rfl
theorem QTb :QO 8 [] ([]) QBw=(
  some []):=by kernel_rfl
def QHk(e:Ex)(J:JSt):Prop:=(e = .ret∧(QL (Kh d.ps) (d.ps.n-k) k).isNone=false∧J=qe)∨(e = .exit 0∧(QL (Kh d.ps) (d.ps.n-k) k).isNone=true∧J=QBw)
theorem QPu(hl:d.ps.n≤1000):JD (ze d) (fun k=>k≤d.ps.n) (fun k=>d.ps.n-k) (QHk d) 8 QEj [] (mkE Try.prog Xi) (fun _=>hnd (mkE Try.prog Xi) 6) (QZ Try.f40 0):=by
 refine⟨fun k g hk=>Wg (QRX d k g) ?_⟩;refine QK (fun h => ?_) (fun h => ?_)
 ·have h:k<d.ps.n:=by have:=qdt h;omega
  obtain⟨m,hm⟩:∃ m,d.ps.n-k=m+1:=⟨d.ps.n-k-1,by omega⟩
  have hm':d.ps.n-(k+1)=m:=by omega
  have hA:(decide ((0:Int)≤(k:Int)∧(k:Int)<(d.ps.n:Int))&&decide (d.ps.n≤d.ps.n))=true:=by simp;omega
  have hB:decide (k<d.ps.n)=true:=by simp;omega
  have bad:Kh d.ps k=true→QL (Kh d.ps) (d.ps.n-k) k=some k:=fun q=>by rw[hm,QL,q]
  have go:Kh d.ps k=false→QL (Kh d.ps) (d.ps.n-k) k=QL (Kh d.ps) (d.ps.n-(k+1)) (k+1):=fun q=>by rw[hm,hm',QL,q]
  have no:Kh d.ps k=true→(QL (Kh d.ps) (d.ps.n-k) k).isNone=false:=fun q=>by rw[bad q];rfl
  refine QF hA (QF hB (QF rfl (QK (fun h0 => ?_) (fun h0 => ?_))))
  ·have q:Kh d.ps k=true:=by simp only[Bool.not_eq_true']at h0;simp only[Kh,QI.ok,h0,Bool.false_and,Bool.not_false]
   exact⟨_,.inl ⟨rfl,no q,rfl⟩,rfl,rfl,_,QOX,⟨rfl,trivial⟩⟩
  refine QF hA (QF hB (QF rfl (QK (fun h1 => ?_) (fun h1 => ?_))))
  ·have q:Kh d.ps k=true:=by simp only[Bool.not_eq_true']at h1;simp only[Kh,QI.ok,h1,Bool.false_and,Bool.and_false,Bool.not_false]
   exact⟨_,.inl ⟨rfl,no q,rfl⟩,rfl,rfl,_,QQz,⟨rfl,trivial⟩⟩
  refine QF hA (QF hB (QF rfl (QK (fun h2 => ?_) (fun h2 => ?_))))
  ·have q:Kh d.ps k=true:=by simp only[Bool.not_eq_true']at h2;simp only[Kh,QI.ok,h2,Bool.false_and,Bool.and_false,Bool.not_false]
   exact⟨_,.inl ⟨rfl,no q,rfl⟩,rfl,rfl,_,QSL,⟨rfl,trivial⟩⟩
  refine QF hA (QF hB (QF rfl (QK (fun h3 => ?_) (fun h3 => ?_))))
  ·have q:Kh d.ps k=true:=by simp only[Bool.not_eq_true']at h3;simp only[Kh,QI.ok,h3,Bool.and_false,Bool.not_false]
   exact⟨_,.inl ⟨rfl,no q,rfl⟩,rfl,rfl,_,QUT,⟨rfl,trivial⟩⟩
  have q:Kh d.ps k=false:=by simp only[Bool.not_eq_false']at h0 h1 h2 h3;simp only[Kh,QI.ok,h0,h1,h2,h3,Bool.and_self,Bool.not_true]
  have hw:i64.wrap ((k:Int)+1)=((k+1:Nat):Int):=(w64 (by omega) (by omega)).trans (by omega)
  refine⟨k+1,h,by show d.ps.n-(k+1)<d.ps.n-k;omega,fun e J h=>by unfold QHk at h ⊢;rw[go q];exact h,rfl,rfl,_,QVt d k (k+1),?_⟩
  repeat' first|exact trivial|with_reducible rfl|exact qlr _|exact qRr|exact hw|refine And.intro ?_ ?_
 ·have h:d.ps.n≤k:=by have:=of_decide_eq_false h;omega
  have hf:QL (Kh d.ps) (d.ps.n-k) k=none:=by rw[show d.ps.n-k=0 by omega];rfl
  exact⟨_,.inr ⟨rfl,by rw[hf];rfl,rfl⟩,rfl,rfl,_,QTb,trivial⟩
def QQy:List (Prop×Ex×JSt):=[((QL (Kh d.ps) d.ps.n 0).isNone=false,.ret,qe),((QL (Kh d.ps) d.ps.n 0).isNone=true,.exit 0,QBw)]
abbrev Hf(P:Program)(d:Puz):Hnd:={ hnd (mkE P Xi) 1 with loop:=fun _=>KE 8 [] (ze d (0:Nat)) (QQy d) }
theorem QTv(hl:d.ps.n≤1000)(G:Ctx)(hrd:G.rd=none)(hG:G.n=8):Q5 (mkE Try.prog Xi) G (Hf Try.prog d) (Qq Try.f40):=by
 refine JT (body:=QZ Try.f40 0) (QR vI) hrd (by kernel_rfl) ?_
 refine JX (n0:=8) (QR vI) (by omega) (fun s hs=>Qv (QR vI) 6 G _ hrd) (fun s hs=>(by decide:8≤96)) ?_ (QPu d hl) (s0:=0) (Nat.zero_le _) ?_
 ·rintro s e J (⟨_,_,rfl⟩|⟨_,_,rfl⟩)<;>exact(by decide:8≤96)
 ·rintro e J (⟨rfl,h,rfl⟩|⟨rfl,h,rfl⟩)
  ·exact⟨_,List.mem_cons_self,h,rfl,rfl⟩
  ·exact⟨_,List.mem_cons_of_mem _ List.mem_cons_self,h,rfl,rfl⟩
def WB:WF (Puz×Unit):=fun|(d,_)=>(decide (d.ps.n≤1000),.bool false d.ok,[])
def QEp:FC:=wFC WB
theorem QNV :KY (mkE Try.prog Xi) (Hf Try.prog d) Try.f40 (QS.vals 0 ((d,()):Puz×Unit)) (QS.blks 0 ((d,()):Puz×Unit)) 8 = .need (true) (.br (!d.play.ok) (.leaf (.bool
  true false) ([])) (.need (true) (.br (!QX (d.ps.n:Int) (1:Int) (9:Int)) (.leaf (.bool true false) ([])) (.need (true) (.br (!QX d.wide (1:Int) (9:Int)) (.leaf
  (.bool true false) ([])) (.need (true) (.br (!QX d.high (1:Int) (9:Int)) (.leaf (.bool true false) ([])) (.br (i64.wrap (d.wide*d.high) != (d.ps.n:Int)) (.leaf
  (.bool true false) ([])) (.ask (0=0) (.ask (0=0) (.ask ((0:Int)=0) (.ask (d.play.length=d.play.length) (.ask (d.play.slack=d.play.slack) (.ask (d.play.loose =
  d.play.loose) (.ask (d.play.damp.lo=d.play.damp.lo) (.ask (d.play.damp.hi=d.play.damp.hi) (.ask (d.wide=d.wide) (.ask (d.high=d.high) (.ask (d.turn=d.turn) (.ask (0=0)
  (.ask (d.ps.n=d.ps.n) (.ask (cO=cO) (.ask (d.ps.n≤d.ps.n) (.ask (QE 28 d.ps.n (fun i=>QA.enc (d.ps.get i)) fun i=>QA.enc (d.ps.get i)) (.both (.asm
  ((QL (Kh d.ps) d.ps.n 0).isNone=false) (.all (fun(g0:Nat→Value) => .leaf (.bool false false) ([])))) (.asm ((QL (Kh d.ps) d.ps.n 0).isNone=true) (.all (fun(g1
  : Nat→Value) => .leaf (.bool true true) ([]))))))))))))))))))))))))))))):=by kernel_rfl
theorem QRM:Kx (mkE Try.prog Xi) (Qq Try.f40) 8 WB (fun x_=>(Hf Try.prog x_.1)):=by
 refine⟨?_⟩;rintro⟨d,⟨⟩⟩ hp G h1 h2;exact QTv d (qdt hp) G h1 h2
theorem QNZ:K3 (mkE Try.prog Xi) Try.f40 8 WB (fun x_=>(Hf Try.prog x_.1)):=by
 refine⟨?_⟩;rintro⟨d,⟨⟩⟩ hp;refine⟨⟨rfl,by simp[WB],rfl⟩,⟨?_⟩⟩
 rw[QNV d];simp only[WB]at hp;have no:okR d=false→(QB.leaf (AV.bool true false) []).den (XI 8 (WB (d,())).2.1 (WB (d,())).2.2):=fun h=>Ke (show false=d.ok by rw[←GV,h]) rfl
 refine QF rfl (QK (fun h1=>no ?_) (fun h1=>QF rfl (QK (fun h2=>no ?_) (fun h2=>QF rfl (QK (fun h3=>no ?_) (fun h3=>QF rfl (QK (fun h4=>no ?_) (fun h4=>QK (fun h5=>no ?_) (fun h5 => ?_)))))))))
 ·simp only[Bool.not_eq_true']at h1;simp only[okR,h1,Bool.false_and]
 ·simp only[Bool.not_eq_true']at h2;simp only[okR,h2,Bool.false_and,Bool.and_false]
 ·simp only[Bool.not_eq_true']at h3;simp only[okR,h3,Bool.false_and,Bool.and_false]
 ·simp only[Bool.not_eq_true']at h4;simp only[okR,h4,Bool.false_and,Bool.and_false]
 ·have h5:(i64.wrap (d.wide*d.high)==(d.ps.n:Int))=false:=by simpa using h5
  simp only[okR,h5,Bool.false_and,Bool.and_false]
 ·have h5:(i64.wrap (d.wide*d.high)==(d.ps.n:Int))=true:=by simpa using h5
  simp only[Bool.not_eq_false']at h1 h2 h3 h4
  repeat' first|refine Qa (show _=_ by with_reducible rfl) ?_|refine Qa (show _≤_ from qlr _) ?_|refine Qa (show QE _ _ _ _ from qRr) ?_
  refine XQ (KQ fun h=>KN fun g => ?_) (KQ fun h=>KN fun g => ?_)
  ·exact Ke (show false=d.ok by rw[←GV];simp only[okR,h,Bool.and_false]) rfl
  ·exact Ke (show true=d.ok by rw[←GV];simp only[okR,h1,h2,h3,h4,h5,h,Bool.and_self]) rfl
theorem QPc:QQ Try.prog 40 QEp:=
 K9 (QR vI) Try.func40 (by kernel_rfl) (by kernel_rfl) (by decide) QRM QNZ
def HR:Tab:=Qb Xi 40 QEp
theorem QHT:QV HR:=vI.add QPc
end Go.Proofs.Ytbpffdkemeoajaa
namespace Go.SX
open Go Go.RowKit Go.Proofs.Ytbpffdkemeoajaa
def W8:Code→Option Nat
 | .region id _ _=>some id
 | .seq a b=>(match W8 a with
  | some x=>some x
  | none=>W8 b)
 | .block _ a=>W8 a
 | .scope a=>W8 a
 | .loop a=>W8 a
 | _=>none
def QG8(l:List (Nat×(St→(Ex→St→QB)→QB)))(c:Code):St→(Ex→St→QB)→QB:=match W8 c with
 | some r=>(match l.find? (fun p=>Nat.beq p.1 r)with
  | some p=>p.2
  | none => fun _ _ => .fail "a loop that is not told")
 | none => fun _ _ => .fail "a loop without a region"
theorem QFt{E:Env}(hE:E.Sound){d:Nat}{G:Ctx}(hG:G.rd=none){c:Code}{L:Code→St→(Ex→St→QB)→QB}(h:∀ s∈Kg c,JJ E G s (L s)):Q5 E G { hnd E d with loop:=L } c:=
 ⟨h,(Qv hE d G c hG).call,(Qv hE d G c hG).yield⟩
end Go.SX
namespace Go.Proofs.Ytbpffdkemeoajaa
open Go.SX
variable {f:Nat→Bool}{n:Nat}(x:QD)(k:Nat)
def QDZ:List (Nat×Blk):=[(8,.cells 0 50 (JR 0 x))]++JP 0 x
def vU:JSt:=⟨97,[(1,.ptr 8 0 0),(3,.int false .i64 k)],QDZ x,96⟩
def zb:JSt:=⟨97,[(1,.ptr 8 0 0),(4,.int false .i64 k)],QDZ x,96⟩
def QMY:Ex→List Nat
 | .normal=>[1,3]
 | .exit _=>[1]
 | .ret=>[2]
def QKG:Ex→List Nat
 | .normal=>[1,4]
 | .exit _=>[1]
 | .ret=>[2]
def qm:JSt:=⟨97,[(2,.bool false false)],[],96⟩
def qh:JSt:=⟨97,[(1,.ptr 8 0 0)],QDZ x,96⟩
def QEb:Int×Int×Int×Unit→Bool×AV:=fun|(n,(a,(b,_)))=>(true,.bool false (QX n a b))
def QHX:FC:=Q3 (Q1 QEb)
theorem QQ4(n:Int)(a:Int)(b:Int):Qt (mkE Try.prog HR) (hnd (mkE Try.prog HR) 0) false Try.f63 (Qm.enc ((n,a,b,()):Int×Int×Int×Unit)) [] 0 =
  QB.br (decide (a≤n)) (QB.leaf (AV.bool false (decide (n≤b))) ([])) (QB.leaf (AV.bool true false) ([])):=by kernel_rfl
theorem QUp:QQ Try.prog 63 QHX:=by
 refine Q7 QHT 0 Try.func63 (by kernel_rfl) (by kernel_rfl) ?_
 rintro⟨n,a,b,⟨⟩⟩ hp;rw[QQ4 n a b];simp only[QEb,QB.den,AV.same,AV.sameL,and_true,true_and]at hp ⊢
 (repeat' (first|(refine And.intro ?_ ?_)|(intro _)))<;>simp_all [QX]<;>omega
def J1:Tab:=Qb HR 63 QHX
theorem Zw:QV J1:=QHT.add QUp
noncomputable abbrev QE2:List AV:=
  [.nilp,.ptr 97 0 0,.ptr 8 0 0,vi (i64.wrap ((k:Int)+1))]
abbrev QFr:List CK:=
  [.int .i64,.int .i64,.int .i64,.int .i64,.int .i64,.int .i64,.int .i64,.int .i64,.int .i64,.int .i64,.int .i64,.int .i64,.int .i64,.int .i64,.int .i64,.int .i64,.int
  .i64,.int .i64,.int .i64,.int .i64,.int .i64,.int .i64,.int .i64,.int .i64,.int .i64,.int .i64,.int .i64,.int .i64]
noncomputable abbrev ZC:List (Nat×Blk):=
  [(8,.cells 0 50 [vi x.d.play.length,vi x.d.play.slack,vi x.d.play.loose,vi x.d.play.damp.lo,.int false .i64
  x.d.play.damp.hi,vi x.d.wide,vi x.d.high,.bool false x.d.turn,.slz 0 0 x.d.ps.n cO,.slz 1 0 x.scans.n cO,.slz 2 0 x.hang.n (Cap.of
  0),vi x.lost,vi x.foreign]),(0,.frz QFr x.d.ps.n fun i=>QA.enc (x.d.ps.get i)),(1,.frz QFr x.scans.n fun i=>QA.enc (x.scans.get i)),(2,
  .frz [.int .i64,.int .i64,.int .i64,.int .i64] x.hang.n fun i=>QA.enc (x.hang.get i))]
theorem QTN(g:Nat→Value):exec (mkE Try.prog J1) (hnd (mkE Try.prog J1) 6) (QZ Try.f35 0) (JSt.inst (vU x k) g) (KW [] QMY) = .br (decide ((k:Int)<(x.scans.n:Int))) (.need (decide
  ((0:Int)≤(k:Int)∧(k:Int)<(x.scans.n:Int))&&decide (x.scans.n≤x.scans.n)) (.need (decide (k<x.scans.n)) (.need (true) (.br (!(x.scans.get k).ok) (.leaf (.tup
  [.nili,.ptr 97 0 0,.bool true false]) ([])) (.leaf (.tup (QE2 k)) ((ZC x))))))) (.leaf (.tup [.ptr 0 0 0,.ptr 97 0 0,.ptr 8 0 0]) ((ZC x))):=by kernel_rfl
theorem QVB(g:Nat→Value):exec (mkS Try.prog J1) (hnd (mkS Try.prog J1) 6) (QZ Try.f35 1) (JSt.inst (zb x k) g) (KW [] QKG) = .br (decide ((k:Int)<(x.hang.n:Int))) (.need (decide
  ((0:Int)≤(k:Int)∧(k:Int)<(x.hang.n:Int))&&decide (x.hang.n≤x.hang.n)) (.need (decide (k<x.hang.n)) (.need (true) (.need (!!!QX (x.hang.get k).a (0:Int)
  (i64.wrap ((x.scans.n:Int)-1)) || !!QX (x.hang.get k).a (0:Int) (i64.wrap ((x.scans.n:Int)-1))) (.need (!!!QX (x.hang.get k).a (0:Int)
  (i64.wrap ((x.scans.n:Int)-1)) || !!QX (x.hang.get k).a (0:Int) (i64.wrap ((x.scans.n:Int)-1))) (.need (!!!QX (x.hang.get k).a (0:Int)
  (i64.wrap ((x.scans.n:Int)-1)) || !!QX (x.hang.get k).a (0:Int) (i64.wrap ((x.scans.n:Int)-1))) (.need (!!!QX (x.hang.get k).a (0:Int)
  (i64.wrap ((x.scans.n:Int)-1)) || !!QX (x.hang.get k).a (0:Int) (i64.wrap ((x.scans.n:Int)-1))) (.need (!!!QX (x.hang.get k).a (0:Int)
  (i64.wrap ((x.scans.n:Int)-1))||true&&(!!QX (x.hang.get k).a (0:Int) (i64.wrap ((x.scans.n:Int)-1)) && !!QX (x.hang.get k).a (0:Int)
  (i64.wrap ((x.scans.n:Int)-1)))) (.need (!!!QX (x.hang.get k).a (0:Int) (i64.wrap ((x.scans.n:Int)-1)) || !!QX (x.hang.get k).a (0:Int)
  (i64.wrap ((x.scans.n:Int)-1))) (.need (!QX (x.hang.get k).a (0:Int) (i64.wrap ((x.scans.n:Int)-1)) || !!QX (x.hang.get k).a (0:Int)
  (i64.wrap ((x.scans.n:Int)-1))) (.bnd (!QX (x.hang.get k).a (0:Int) (i64.wrap ((x.scans.n:Int)-1)) || !QX (x.hang.get k).b (0:Int)
  (i64.wrap ((x.scans.n:Int)-1))) (fun(x0:Bool) => .need (!!x0 || !x0) (.need (!!x0 || !x0) (.need (!!x0 || !x0 && !x0) (.need (x0 || !x0) (.bnd (x0||(x.hang.get k).a
  == (x.hang.get k).b) (fun(x1:Bool) => .need (!!x1 || !x1) (.need (!!x1||true && !x1) (.need (!!x1 || !x1) (.need (x1 || !x1) (.bnd (x1 || !QX (x.hang.get k).i (0:Int) (3
  : Int)) (fun(x2:Bool) => .need (!!x2 || !x2) (.need (!!x2||true && !x2) (.need (!!x2 || !x2) (.need (x2 || !x2) (.bnd (x2 || !QX (x.hang.get k).j (0:Int) (3:Int)) (fun
  (x3:Bool) => .br (x3) (.leaf (.tup [.nili,.ptr 97 0 0,.bool true false]) ([])) (.leaf (.tup (QE2 k)) ((ZC x)))))))))))))))))))))))))))))) (.leaf (.tup [.ptr 2 0 0,.ptr 97 0
  0,.ptr 8 0 0]) ((ZC x))):=by kernel_rfl
theorem QN3 :QO 8 [AV.bool true false] ([]) qm=(
  some [false=false]):=by kernel_rfl
abbrev QIE(k':Nat)(x:QD):List Prop:=
  [0=0,0=0,i64.wrap ((k:Int)+1)=(k':Int),x.d.play.length=x.d.play.length,x.d.play.slack=x.d.play.slack,x.d.play.loose=x.d.play.loose,x.d.play.damp.lo =
  x.d.play.damp.lo,x.d.play.damp.hi=x.d.play.damp.hi,x.d.wide=x.d.wide,x.d.high=x.d.high,x.d.turn=x.d.turn,0=0,x.d.ps.n=x.d.ps.n,cO=cO,0=0,
  x.scans.n=x.scans.n,cO=cO,0=0,x.hang.n=x.hang.n,cO=cO,x.lost=x.lost,x.foreign=x.foreign,x.d.ps.n≤x.d.ps.n,QE 28 x.d.ps.n (fun i
  => QA.enc (x.d.ps.get i)) fun i=>QA.enc (x.d.ps.get i),x.scans.n≤x.scans.n,QE 28 x.scans.n (fun i=>QA.enc (x.scans.get i)) fun i=>QA.enc (x.scans.get i),
  x.hang.n≤x.hang.n,QE 4 x.hang.n (fun i=>QA.enc (x.hang.get i)) fun i=>QA.enc (x.hang.get i)]
theorem QUN(k k':Nat):QO 8 [.ptr 8 0 0,vi (i64.wrap ((k:Int)+1))] ((ZC x)) (vU x k')=(some (QIE k k' x)):=by kernel_rfl
abbrev QLB:List Prop:=
  [0=0,0=0,x.d.play.length=x.d.play.length,x.d.play.slack=x.d.play.slack,x.d.play.loose=x.d.play.loose,x.d.play.damp.lo=x.d.play.damp.lo,x.d.play.damp.hi =
  x.d.play.damp.hi,x.d.wide=x.d.wide,x.d.high=x.d.high,x.d.turn=x.d.turn,0=0,x.d.ps.n=x.d.ps.n,cO=cO,0=0,x.scans.n=x.scans.n,cO=cO,
  0=0,x.hang.n=x.hang.n,cO=cO,x.lost=x.lost,x.foreign=x.foreign,x.d.ps.n≤x.d.ps.n,QE 28 x.d.ps.n (fun i=>QA.enc (x.d.ps.get i)) fun i=>QA.enc
  (x.d.ps.get i),x.scans.n≤x.scans.n,QE 28 x.scans.n (fun i=>QA.enc (x.scans.get i)) fun i=>QA.enc (x.scans.get i),x.hang.n≤x.hang.n,QE 4 x.hang.n (fun i=>
  QA.enc (x.hang.get i)) fun i=>QA.enc (x.hang.get i)]
theorem QM9 :QO 8 [.ptr 8 0 0] ((ZC x)) (qh x)=(some (QLB x)):=by kernel_rfl
theorem QVq :QO 8 [AV.bool true false] ([]) qm=(
  some [false=false]):=by kernel_rfl
theorem QU8(k k':Nat):QO 8 [.ptr 8 0 0,vi (i64.wrap ((k:Int)+1))] ((ZC x)) (zb x k')=(some (QIE k k' x)):=by kernel_rfl
theorem QUf :QO 8 [.ptr 8 0 0] ((ZC x)) (qh x)=(some (QLB x)):=by kernel_rfl
def XO:Bool := !(x.scans.get k).ok
def QHE(e:Ex)(J:JSt):Prop:=(e = .ret∧(QL (XO x) (x.scans.n-k) k).isNone=false∧J=qm)∨(e = .exit 0∧(QL (XO x) (x.scans.n-k) k).isNone=true∧J=qh x)
def QGy(e:Ex)(J:JSt):Prop:=(e = .ret∧(QL (Ki x) (x.hang.n-k) k).isNone=false∧J=qm)∨(e = .exit 2∧(QL (Ki x) (x.hang.n-k) k).isNone=true∧J=qh x)
theorem QGf{k:Nat}(h:k<n)(q:f k=true):(QL f (n-k) k).isNone=false:=by
 obtain⟨m,hm⟩:∃ m,n-k=m+1:=⟨n-k-1,by omega⟩
 rw[hm,QL,q];rfl
theorem QKS{k:Nat}(h:k<n)(q:f k=false):QL f (n-k) k=QL f (n-(k+1)) (k+1):=by
 obtain⟨m,hm⟩:∃ m,n-k=m+1:=⟨n-k-1,by omega⟩
 rw[hm,show n-(k+1)=m by omega,QL,q]
theorem QK9{k:Nat}(h:n≤k):(QL f (n-k) k).isNone=true:=by
 rw[show n-k=0 by omega];rfl
theorem QPI(hl:x.scans.n≤1000):JD (vU x) (fun k=>k≤x.scans.n) (fun k=>x.scans.n-k) (QHE x) 8 QMY [] (mkE Try.prog J1) (fun _=>hnd (mkE Try.prog J1) 6) (QZ Try.f35 0):=by
 refine⟨fun k g hk=>KF (QTN x k g) ?_⟩;refine QK (fun h => ?_) (fun h => ?_)
 ·have h:k<x.scans.n:=by have:=qdt h;omega
  refine QF (by simp;omega) (QF (by simp;omega) (QF rfl (QK (fun q => ?_) (fun q => ?_))))
  ·exact⟨_,.inl ⟨rfl,QGf h q,rfl⟩,rfl,rfl,_,QN3,⟨rfl,trivial⟩⟩
  ·refine⟨k+1,h,by show x.scans.n-(k+1)<x.scans.n-k;omega,fun e J r=>by unfold QHE at r ⊢;rw[QKS h q];exact r,rfl,rfl,_,QUN x k (k+1),?_⟩
   repeat' first|with_reducible refine Qc ?_ ?_|exact trivial|with_reducible rfl|exact qlr _|exact qRr|exact Kr h hl|refine And.intro ?_ ?_
 ·have h:x.scans.n≤k:=by have:=of_decide_eq_false h;omega
  refine⟨_,.inr ⟨rfl,QK9 h,rfl⟩,rfl,rfl,_,QM9 x,?_⟩
  repeat' first|with_reducible refine Qc ?_ ?_|exact trivial|with_reducible rfl|exact qlr _|exact qRr|refine And.intro ?_ ?_
theorem QT9(hl:x.hang.n≤1000):JD (zb x) (fun k=>k≤x.hang.n) (fun k=>x.hang.n-k) (QGy x) 8 QKG [] (mkS Try.prog J1) (fun _=>hnd (mkS Try.prog J1) 6) (QZ Try.f35 1):=by
 refine⟨fun k g hk=>KF (QVB x k g) ?_⟩;refine QK (fun h => ?_) (fun h => ?_)
 ·have h:k<x.hang.n:=by have:=qdt h;omega
  refine QF (by simp;omega) (QF (by simp;omega) ?_)
  have hb:Ki x k=(!QX (x.hang.get k).a 0 (i64.wrap ((x.scans.n:Int)-1))||(!QX (x.hang.get k).b 0 (i64.wrap ((x.scans.n:Int)-1))||(((x.hang.get k).a==(x.hang.get k).b)||(!QX (x.hang.get k).i 0 3 || !QX (x.hang.get k).j 0 3)))):=rfl
  generalize QX (x.hang.get k).a 0 (i64.wrap ((x.scans.n:Int)-1))=w1 at hb ⊢;generalize QX (x.hang.get k).b 0 (i64.wrap ((x.scans.n:Int)-1))=w2 at hb ⊢;generalize ((x.hang.get k).a==(x.hang.get k).b)=w3 at hb ⊢;generalize QX (x.hang.get k).i 0 3=w4 at hb ⊢;generalize QX (x.hang.get k).j 0 3=w5 at hb ⊢
  repeat' first|refine QF rfl ?_|refine QF (by grind) ?_|refine V7 fun z hz => ?_
  refine QK (fun q => ?_) (fun q => ?_)
  ·exact⟨_,.inl ⟨rfl,QGf h (by grind),rfl⟩,rfl,rfl,_,QVq,⟨rfl,trivial⟩⟩
  ·refine⟨k+1,h,by show x.hang.n-(k+1)<x.hang.n-k;omega,fun e J r=>by unfold QGy at r ⊢;rw[QKS h (by grind)];exact r,rfl,rfl,_,QU8 x k (k+1),?_⟩
   repeat' first|with_reducible refine Qc ?_ ?_|exact trivial|with_reducible rfl|exact qlr _|exact qRr|exact Kr h hl|refine And.intro ?_ ?_
 ·have h:x.hang.n≤k:=by have:=of_decide_eq_false h;omega
  refine⟨_,.inr ⟨rfl,QK9 h,rfl⟩,rfl,rfl,_,QUf x,?_⟩
  repeat' first|with_reducible refine Qc ?_ ?_|exact trivial|with_reducible rfl|exact qlr _|exact qRr|refine And.intro ?_ ?_
def QFJ:List (Prop×Ex×JSt):=[((QL (XO x) x.scans.n 0).isNone=false,.ret,qm),((QL (XO x) x.scans.n 0).isNone=true,.exit 0,qh x)]
def QIm:List (Prop×Ex×JSt):=[((QL (Ki x) x.hang.n 0).isNone=false,.ret,qm),((QL (Ki x) x.hang.n 0).isNone=true,.exit 2,qh x)]
abbrev QDC:Code→St→(Ex→St→QB)→QB:=QG8 [(4,KE 8 [] (vU x (0:Nat)) (QFJ x)),(9,KE 8 [] (zb x (0:Nat)) (QIm x))]
abbrev Hd(P:Program)(x:QD):Hnd:={ hnd (mkS P J1) 1 with loop:=QDC x }
theorem QV8(hs:x.scans.n≤1000)(hh:x.hang.n≤1000)(G:Ctx)(hrd:G.rd=none)(hG:G.n=8):Q5 (mkS Try.prog J1) G (Hd Try.prog x) (Qq Try.f35):=by
 refine QFt (X3 Zw) hrd fun c hc => ?_;have he:Kg (Qq Try.f35)=[.loop (QZ Try.f35 0),.loop (QZ Try.f35 1)]:=by kernel_rfl
 rw[he]at hc;simp only[List.mem_cons,List.not_mem_nil,or_false]at hc;rcases hc with rfl|rfl
 ·have e1:QDC x (.loop (QZ Try.f35 0))=KE 8 [] (vU x (0:Nat)) (QFJ x):=by kernel_rfl
  rw[e1];refine WM (E:=mkE Try.prog J1) rfl (JX (n0:=8) (QR Zw) (by omega) (fun s hs=>Qv (QR Zw) 6 G _ hrd) (fun s hs=>(by decide:8≤96)) ?_ (QPI x hs) (s0:=0) (Nat.zero_le _) ?_)
  ·rintro s e J (⟨_,_,rfl⟩|⟨_,_,rfl⟩)<;>exact(by decide:8≤96)
  ·rintro e J (⟨rfl,h,rfl⟩|⟨rfl,h,rfl⟩)
   ·exact⟨_,List.mem_cons_self,h,rfl,rfl⟩
   ·exact⟨_,List.mem_cons_of_mem _ List.mem_cons_self,h,rfl,rfl⟩
 ·have e1:QDC x (.loop (QZ Try.f35 1))=KE 8 [] (zb x (0:Nat)) (QIm x):=by kernel_rfl
  rw[e1];refine JX (n0:=8) (X3 Zw) (by omega) (fun s hs=>Qv (X3 Zw) 6 G _ hrd) (fun s hs=>(by decide:8≤96)) ?_ (QT9 x hh) (s0:=0) (Nat.zero_le _) ?_
  ·rintro s e J (⟨_,_,rfl⟩|⟨_,_,rfl⟩)<;>exact(by decide:8≤96)
  ·rintro e J (⟨rfl,h,rfl⟩|⟨rfl,h,rfl⟩)
   ·exact⟨_,List.mem_cons_self,h,rfl,rfl⟩
   ·exact⟨_,List.mem_cons_of_mem _ List.mem_cons_self,h,rfl,rfl⟩
end Go.Proofs.Ytbpffdkemeoajaa
