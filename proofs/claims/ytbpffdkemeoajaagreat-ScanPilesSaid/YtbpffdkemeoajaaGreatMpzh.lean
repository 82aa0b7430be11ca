/- - -/
import Derived.Test.YtbpffdkemeoajaaGreatMpzg
open Go.Proofs.Tryz
open Go.IntKind (i64)
set_option maxRecDepth 100000
namespace Go.Proofs.YtbpffdkemeoajaaGreat
open Go.SX
def QRc:Int×Int×Int×Unit->Bool×AV:=λ|(n,(a,(b,_)))=>(true,.bool false (Qe n a b))
def QSP:FC:=KM (KN QRc)
theorem Qbg(n:Int)(a:Int)(b:Int):KJ (mkE prog QES) (hnd (mkE prog QES) 0) false f54 (Q3.enc ((n,a,b,()):Int×Int×Int×Unit)) [] 0=QE.br (decide (a<=n)) (QE.leaf (AV.bool false (decide (n<=b))) ([])) (QE.leaf (AV.bool true false) ([])):=by kernel_rfl
theorem QSy:QO prog 54 QSP:=by
 refine KZ QOl 0 func54 (by kernel_rfl) (by kernel_rfl) ?_
 rintro⟨n,a,b,⟨⟩⟩ hp;rw[Qbg n a b];simp only[QRc,QE.den,AV.same,AV.sameL,and_true,true_and]at hp ⊢
 (repeat' (first|(refine aI ?_ ?_)|(intro _)))<;>simp_all [Qe]<;>omega
def QBl:Tab:=Qh QES 54 QSP
theorem QQl:QZ QBl:=QOl.add QSy
def QRR:Sp×Sp×Unit->Bool×AV:=λ|(a,(b,_))=>(true,.bool false (com a b))
def QSO:FC:=KM (KN QRR)
theorem QWL(a:Sp)(b:Sp):KJ (mkE prog QBl) (hnd (mkE prog QBl) 0) false f129 (Q3.enc ((a,b,()):Sp×Sp×Unit)) [] 0=QE.br (decide (a.lo<=b.hi)) (QE.leaf (AV.bool false (decide (b.lo<=a.hi))) ([])) (QE.leaf (AV.bool true false) ([])):=by kernel_rfl
theorem QZU:QO prog 129 QSO:=by
 refine KZ QQl 0 func129 (by kernel_rfl) (by kernel_rfl) ?_
 rintro⟨a,b,⟨⟩⟩ hp;rw[QWL a b];simp only[QRR,QE.den,AV.same,AV.sameL,and_true,true_and]at hp ⊢;simp only[com];refine⟨λh=>?_,λh=>?_⟩
 .rw[h];simp
 .rw[h];simp
def QDD:Tab:=Qh QBl 129 QSO
theorem QRE:QZ QDD:=QQl.add QZU
def QNV:Edge×Edge×Unit->Bool×AV:=λ|(a,(b,_))=>(true,.bool false (isS a b))
def QLd:FC:=KM (KN QNV)
theorem Qct(a:Edge)(b:Edge):KJ (mkE prog QDD) (hnd (mkE prog QDD) 0) false f98 (Q3.enc ((a,b,()):Edge×Edge×Unit)) [] 0=QE.br (a.kind==b.kind) (QE.br (a.kind==(0:Int)) (QE.leaf (AV.bool true true) ([])) (QE.need (true) (QE.br (com a.at_ b.at_) (QE.need (true) (QE.br (com a.wide b.wide) (QE.need (true) (QE.leaf (AV.bool false (com a.deep b.deep)) ([]))) (QE.leaf (AV.bool true false) ([])))) (QE.leaf (AV.bool true false) ([]))))) (QE.leaf (AV.bool true false) ([])):=by kernel_rfl
theorem Qbb:QO prog 98 QLd:=by
 refine KZ QRE 0 func98 (by kernel_rfl) (by kernel_rfl) ?_
 rintro⟨a,b,⟨⟩⟩ hp;rw[Qct a b];simp only[QNV,QE.den,AV.same,AV.sameL,and_true,true_and]at hp ⊢;simp only[isS,isF];generalize com a.at_ b.at_=c1
 generalize com a.wide b.wide=c2;generalize com a.deep b.deep=c3
 by_cases h:a.kind=b.kind
 .by_cases h0:b.kind=0
  .simp[h,h0]
  .cases c1<;>cases c2<;>cases c3<;>simp[h,h0]
 .by_cases h0:a.kind=0
  .have:¬ b.kind=0:=λe=>h (by rw[h0,e])
   have h':¬ 0=b.kind:=λe=>this e.symm;simp[h0,this,h']
  .simp[h,h0]
def QDY:Tab:=Qh QDD 98 QLd
theorem QMQ:QZ QDY:=QRE.add Qbb
def QJh:QQ×Unit->Bool×AV:=λ|(s,_)=>(true,.bool false s.ok)
def QSe:FC:=KM (KN QJh)
theorem QV0(s:QQ):KJ (mkE prog QDY) (hnd (mkE prog QDY) 6) false f47 (Q3.enc ((s,()):QQ×Unit)) [] 0=QE.need (true) (QE.br (!s.up.ok) (QE.leaf (AV.bool true false) ([])) (QE.need (true) (QE.br (!s.right.ok) (QE.leaf (AV.bool true false) ([])) (QE.need (true) (QE.br (!s.down.ok) (QE.leaf (AV.bool true false) ([])) (QE.need (true) (QE.br (!s.left.ok) (QE.leaf (AV.bool true false) ([])) (QE.leaf (AV.bool true true) ([]))))))))):=by kernel_rfl
theorem QfF:QO prog 47 QSe:=by
 refine KZ QMQ 6 func47 (by kernel_rfl) (by kernel_rfl) ?_
 rintro⟨s,⟨⟩⟩ hp;rw[QV0 s];simp only[QJh,QE.den,AV.same,AV.sameL,and_true,true_and]at hp ⊢;simp only[QQ.ok];cases s.up.ok<;>cases s.right.ok<;>cases s.down.ok<;>cases s.left.ok<;>simp
def Wl:Tab:=Qh QDY 47 QSe
theorem QFc:QZ Wl:=QMQ.add QfF
def Hd:WF (Puz×Edge×Edge×Unit):=λ|(d,(a,(b,_)))=>(decide (d.ps.n<=1000),.int false .i64 (KE d.pK a b).1,[])
def QJp:FC:=wFC Hd
variable (d:Puz)(k:Nat)
theorem Qdy(a:Edge)(b:Edge):KI (mkE prog Wl) (hnd (mkE prog Wl) 0) f75 (QW.vals 0 ((d,a,b,()):Puz×Edge×Edge×Unit)) (QW.blks 0 ((d,a,b,()):Puz×Edge×Edge×Unit)) 8=QE.need (true) (QE.leaf (vi (KE d.pK a b).1) ([])):=by kernel_rfl
theorem QTq:JG (mkE prog Wl) (Qi f75) 8 Hd (λx_=>(hnd (mkE prog Wl) 0)):=by
 refine⟨?_⟩;rintro⟨d,⟨a,⟨b,⟨⟩⟩⟩⟩ hp G h1 h2;exact Qw (QL QFc) 0 G _ h1
theorem QYq:JF (mkE prog Wl) f75 8 Hd (λx_=>(hnd (mkE prog Wl) 0)):=by
 refine⟨?_⟩;rintro⟨d,⟨a,⟨b,⟨⟩⟩⟩⟩ hp;refine⟨⟨rfl,by simp[Hd],rfl⟩,⟨?_⟩⟩
 rw[Qdy d a b];simp only[Hd]at hp;refine QF rfl (KT ?_ rfl);exact⟨rfl,rfl⟩
theorem QTd:QO prog 75 QJp:=
 JI (QL QFc) func75 (by kernel_rfl) (by kernel_rfl) (by decide) QTq QYq
def W6:Tab:=Qh Wl 75 QJp
theorem QHw:QZ W6:=QFc.add QTd
def js:WF (Puz×Int×Int×Unit):=λ|(d,(c,(s,_)))=>(decide ((1<=d.wide/\d.wide<=100)/\(1<=d.high/\d.high<=100)/\(0<=c/\c<=100)),.int false .i64 (Qj d.wide d.high c s),[])
def QJO:FC:=wFC js
theorem Qbk(c:Int)(s:Int):KI (mkE prog W6) (hnd (mkE prog W6) 0) f99 (QW.vals 0 ((d,c,s,()):Puz×Int×Int×Unit)) (QW.blks 0 ((d,c,s,()):Puz×Int×Int × Unit)) 8 = .need (!decide (d.wide=0)) (.need (!decide (d.wide=0)) (.br (s==0) (.br (decide (i64.wrap (c.tdiv d.wide)>0)) (.leaf (vi (i64.wrap (c-d.wide))) ([])) (.br (s==1) (.br (decide (c.tmod d.wide<i64.wrap (d.wide-1))) (.leaf (vi (i64.wrap (c+1))) ([])) (.br (s==2) (.br (decide (i64.wrap (c.tdiv d.wide)<i64.wrap (d.high-1))) (.leaf (vi (i64.wrap (c+d.wide))) ([])) (.br (s==3) (.br (decide (c.tmod d.wide>0)) (.leaf (vi (i64.wrap (c-1))) ([])) (.leaf (vj (-1)) ([]))) (.leaf (vj (-1)) ([])))) (.br (s==3) (.br (decide (c.tmod d.wide>0)) (.leaf (vi (i64.wrap (c-1))) ([])) (.leaf (vj (-1)) ([]))) (.leaf (vj (-1)) ([]))))) (.br (s==2) (.br (decide (i64.wrap (c.tdiv d.wide)<i64.wrap (d.high-1))) (.leaf (vi (i64.wrap (c+d.wide))) ([])) (.br (s==3) (.br (decide (c.tmod d.wide>0)) (.leaf (vi (i64.wrap (c-1))) ([])) (.leaf (vj (-1)) ([]))) (.leaf (vj (-1)) ([])))) (.br (s==3) (.br (decide (c.tmod d.wide>0)) (.leaf (vi (i64.wrap (c-1))) ([])) (.leaf (vj (-1)) ([]))) (.leaf (vj (-1)) ([])))))) (.br (s==1) (.br (decide (c.tmod d.wide<i64.wrap (d.wide-1))) (.leaf (vi (i64.wrap (c+1))) ([])) (.br (s==2) (.br (decide (i64.wrap (c.tdiv d.wide)<i64.wrap (d.high-1))) (.leaf (vi (i64.wrap (c+d.wide))) ([])) (.br (s==3) (.br (decide (c.tmod d.wide>0)) (.leaf (vi (i64.wrap (c-1))) ([])) (.leaf (vj (-1)) ([]))) (.leaf (vj (-1)) ([])))) (.br (s==3) (.br (decide (c.tmod d.wide>0)) (.leaf (vi (i64.wrap (c-1))) ([])) (.leaf (vj (-1)) ([]))) (.leaf (vj (-1)) ([]))))) (.br (s==2) (.br (decide (i64.wrap (c.tdiv d.wide)<i64.wrap (d.high-1))) (.leaf (vi (i64.wrap (c+d.wide))) ([])) (.br (s==3) (.br (decide (c.tmod d.wide>0)) (.leaf (vi (i64.wrap (c-1))) ([])) (.leaf (vj (-1)) ([]))) (.leaf (vj (-1)) ([])))) (.br (s==3) (.br (decide (c.tmod d.wide>0)) (.leaf (vi (i64.wrap (c-1))) ([])) (.leaf (vj (-1)) ([]))) (.leaf (vj (-1)) ([]))))))):=by kernel_rfl
theorem QTm:JG (mkE prog W6) (Qi f99) 8 js (λx_=>(hnd (mkE prog W6) 0)):=by
 refine⟨?_⟩;rintro⟨d,⟨c,⟨s,⟨⟩⟩⟩⟩ hp G h1 h2;exact Qw (QL QHw) 0 G _ h1
theorem QWz:JF (mkE prog W6) f99 8 js (λx_=>(hnd (mkE prog W6) 0)):=by
 refine⟨?_⟩;rintro⟨d,⟨c,⟨s,⟨⟩⟩⟩⟩ hp;refine⟨⟨rfl,by simp[js],rfl⟩,⟨?_⟩⟩
 rw[Qbk d c s];simp only[js]at hp;obtain⟨⟨w1,w2⟩,⟨h1,h2⟩,c1,c2⟩:=qdt hp;have q0:0<=c.tdiv d.wide:=Int.tdiv_nonneg c1 (by omega)
 have q1:c.tdiv d.wide<=c:=by rw[Int.tdiv_eq_ediv_of_nonneg c1];exact Int.ediv_le_self _ c1
 have m0:0<=c.tmod d.wide:=Int.tmod_nonneg _ c1;have m1:c.tmod d.wide<d.wide:=Int.tmod_lt_of_pos _ (by omega)
 have e1:i64.wrap (c.tdiv d.wide)=c.tdiv d.wide:=w64 (by omega) (by omega)
 have e2:i64.wrap (c-d.wide)=c-d.wide:=w64 (by omega) (by omega)
 have e3:i64.wrap (d.wide-1)=d.wide-1:=w64 (by omega) (by omega)
 have e4:i64.wrap (c+1)=c+1:=w64 (by omega) (by omega)
 have e5:i64.wrap (d.high-1)=d.high-1:=w64 (by omega) (by omega)
 have e6:i64.wrap (c+d.wide)=c+d.wide:=w64 (by omega) (by omega)
 have e7:i64.wrap (c-1)=c-1:=w64 (by omega) (by omega)
 have dz:(!decide (d.wide=0))=true:=by simp;omega
 rw[e1,e2,e3,e4,e5,e6,e7];refine QF dz (QF dz ?_);have fin:∀ v:AV,v.same (.int false .i64 (Qj d.wide d.high c s))->(QE.leaf v []).den (VQ 8 (js (d,c,s,())).2.1 (js (d,c,s,())).2.2):=λv h=>KT h rfl
 repeat' refine QH ?_ ?_<;>intro _
 all_goals refine fin _ ?_
 all_goals simp only[AV.same,Qj,true_and]
 all_goals grind
theorem QgY:QO prog 99 QJO:=
 JI (QL QHw) func99 (by kernel_rfl) (by kernel_rfl) (by decide) QTm QWz
def Y1:Tab:=Qh W6 99 QJO
theorem QA4:QZ Y1:=QHw.add QgY
def JL(l:Rw QQ)(i:Nat):Bool := !(l.get i).ok
def okR:Bool:=d.pK.ok&&(Qe (d.ps.n:Int) 1 9&&(Qe d.wide 1 9&&(Qe d.high 1 9&&((i64.wrap (d.wide*d.high)==(d.ps.n:Int))&&(QN (JL d.ps) d.ps.n 0).isNone))))
theorem QMO(p:Qz)(l:Rw QQ)(h:1<=l.n):Vy p l=(p.ok&&(QN (JL l) l.n 0).isNone):=by
 unfold Vy;cases hp:p.ok with
 | true=>
  have:Jd ⟨p⟩ l=JL l:=by funext i;simp only[Jd,JL,hp,Bool.true_and]
  rw[this,Bool.true_and]
 | false=>
  obtain⟨m,hm⟩:∃ m,l.n=m+1:=⟨l.n-1,by omega⟩
  rw[hm,QN];simp only[Jd,hp,Bool.false_and,Bool.not_false];rfl
theorem QDr:okR d=d.ok:=by
 rw[Bool.eq_iff_iff];simp only[okR,Puz.ok,Puz.okN,qbA,Qe,qdE,beq_iff_eq];constructor
 .rintro⟨hp,hn,hw,hh,hm,ha⟩;have m1:d.wide*d.high<=9*9:=Int.mul_le_mul hw.2 hh.2 (by omega) (by omega)
  have m0:0<=d.wide*d.high:=Int.mul_nonneg (by omega) (by omega)
  have e:=hm;rw[w64 (by omega) (by omega)]at e
  have a1:=Int.mul_le_mul_of_nonneg_left (show 1<=d.high from hh.1) (show 0<=d.wide by omega)
  have a2:=Int.mul_le_mul_of_nonneg_right (show 1<=d.wide from hw.1) (show 0<=d.high by omega)
  refine⟨⟨hn,by omega,by omega,hm⟩,?_⟩
  rw[QMO _ _ (by omega),hp,ha];rfl
 .rintro⟨⟨hn,hw,hh,hm⟩,hs⟩;rw[QMO _ _ (by omega),qbA]at hs
  exact⟨hs.1,hn,by omega,by omega,hm,hs.2⟩
def QCb:JSt:=⟨60,[(1,.ptr 8 0 0),(3,.int false .i64 k)],[(8,.cells 0 28 (QFR d))]++KD.blk 0 d.ps,96⟩
def QSk:Ex->List Nat
 | .normal=>[1,3]
 | .exit _=>[]
 | .ret=>[2]
noncomputable abbrev QLG:List (Nat×Blk):=
  [(8,.cells 0 28 [vi d.pK.length,vi d.pK.aK,vi d.pK.oK,vi d.pK.dK.lo,vi d.pK.dK.hi,.int
  false .i64 d.wide,vi d.high,.bool false d.turn,.slz 0 0 d.ps.n cO]),(0,.frz [.int .i64,.int .i64,.int .i64,.int .i64,.int .i64,.int .i64,.int .i64,
  .int .i64,.int .i64,.int .i64,.int .i64,.int .i64,.int .i64,.int .i64,.int .i64,.int .i64,.int .i64,.int .i64,.int .i64,.int .i64,.int .i64,.int .i64,.int .i64,.int
  .i64,.int .i64,.int .i64,.int .i64,.int .i64] d.ps.n λi=>QA.enc (d.ps.get i))]
theorem Qdt(g:Nat->Value):exec (mkE prog Y1) (hnd (mkE prog Y1) 6) (QT f22 0) (JSt.inst (QCb d k) g) (KG [] QSk) = .br (decide ((k:Int)<(d.ps.n:Int))) (.need (decide ((0:Int)<=(k:Int)/\(k:Int)<(d.ps.n:Int))&&decide (d.ps.n<=d.ps.n)) (.need (decide (k<d.ps.n)) (.need (true) (.br (!(d.ps.get k).up.ok) (.leaf (.tup [.nili,.ptr 60 0 0,.bool true false]) ([])) (.need (decide ((0:Int)<=(k:Int)/\(k:Int)<(d.ps.n:Int))&&decide (d.ps.n<=d.ps.n)) (.need (decide (k<d.ps.n)) (.need (true) (.br (!(d.ps.get k).right.ok) (.leaf (.tup [.nili,.ptr 60 0 0,.bool true false]) ([])) (.need (decide ((0:Int)<=(k:Int)/\(k:Int)<(d.ps.n:Int))&&decide (d.ps.n<=d.ps.n)) (.need (decide (k<d.ps.n)) (.need (true) (.br (!(d.ps.get k).down.ok) (.leaf (.tup [.nili,.ptr 60 0 0,.bool true false]) ([])) (.need (decide ((0:Int)<=(k:Int)/\(k:Int)<(d.ps.n:Int))&&decide (d.ps.n<=d.ps.n)) (.need (decide (k<d.ps.n)) (.need (true) (.br (!(d.ps.get k).left.ok) (.leaf (.tup [.nili,.ptr 60 0 0,.bool true false]) ([])) (.leaf (.tup [.nilp,.ptr 60 0 0,.ptr 8 0 0,vi (i64.wrap ((k:Int)+1))]) ((QLG d))))))))))))))))))) (.leaf (.tup [.ptr 0 0 0,.ptr 60 0 0]) ([])):=by kernel_rfl
def zW:JSt:=⟨60,[(2,.bool false false)],[],96⟩
def QE1:JSt:=⟨60,[],[],96⟩
theorem Qaj :QI 8 [AV.bool true false] ([]) zW=( some [false=false]):=by kernel_rfl
theorem QcN :QI 8 [AV.bool true false] ([]) zW=( some [false=false]):=by kernel_rfl
theorem Qf1 :QI 8 [AV.bool true false] ([]) zW=( some [false=false]):=by kernel_rfl
theorem QTy :QI 8 [AV.bool true false] ([]) zW=( some [false=false]):=by kernel_rfl
theorem QW0(k k':Nat):QI 8 [.ptr 8 0 0,vi (i64.wrap ((k:Int)+1))] ((QLG d)) (QCb d k')=(some [0=0,0=0,i64.wrap ((k:Int)+1)=(k':Int),d.pK.length=d.pK.length,d.pK.aK=d.pK.aK,d.pK.oK=d.pK.oK,d.pK.dK.lo=d.pK.dK.lo,d.pK.dK.hi=d.pK.dK.hi,d.wide=d.wide,d.high=d.high,d.turn=d.turn,0=0,d.ps.n=d.ps.n,cO=cO,d.ps.n<=d.ps.n,QC 28 d.ps.n (λi=>QA.enc (d.ps.get i)) λi=>QA.enc (d.ps.get i)]):=by kernel_rfl
theorem Qae :QI 8 [] ([]) QE1=( some []):=by kernel_rfl
def QMU(e:Ex)(J:JSt):Prop:=(e = .ret/\(QN (JL d.ps) (d.ps.n-k) k).isNone=false/\J=zW)∨(e = .exit 0/\(QN (JL d.ps) (d.ps.n-k) k).isNone=true/\J=QE1)
theorem QbE(hl:d.ps.n<=1000):Kk (QCb d) (λk=>k<=d.ps.n) (λk=>d.ps.n-k) (QMU d) 8 QSk [] (mkE prog Y1) (λ_=>hnd (mkE prog Y1) 6) (QT f22 0):=by
 refine⟨λk g hk=>YA (Qdt d k g) ?_⟩;refine QH ?_ ?_<;>intro h
 .have h:k<d.ps.n:=by have:=qdt h;omega
  obtain⟨m,hm⟩:∃ m,d.ps.n-k=m+1:=⟨d.ps.n-k-1,by omega⟩
  have hm':d.ps.n-(k+1)=m:=by omega
  have hA:(decide ((0:Int)<=(k:Int)/\(k:Int)<(d.ps.n:Int))&&decide (d.ps.n<=d.ps.n))=true:=by simp;omega
  have hB:decide (k<d.ps.n)=true:=by simp;omega
  have bad:JL d.ps k=true->QN (JL d.ps) (d.ps.n-k) k=some k:=λq=>by rw[hm,QN,q]
  have go:JL d.ps k=false->QN (JL d.ps) (d.ps.n-k) k=QN (JL d.ps) (d.ps.n-(k+1)) (k+1):=λq=>by rw[hm,hm',QN,q]
  have no:JL d.ps k=true->(QN (JL d.ps) (d.ps.n-k) k).isNone=false:=λq=>by rw[bad q];rfl
  refine QF hA (QF hB (QF rfl (QH (λh0=>?_) (λh0=>?_))))
  .have q:JL d.ps k=true:=by simp only[Bool.not_eq_true']at h0;simp only[JL,QQ.ok,h0,Bool.false_and,Bool.not_false]
   exact⟨_,.inl ⟨rfl,no q,rfl⟩,rfl,rfl,_,Qaj,⟨rfl,trivial⟩⟩
  refine QF hA (QF hB (QF rfl (QH (λh1=>?_) (λh1=>?_))))
  .have q:JL d.ps k=true:=by simp only[Bool.not_eq_true']at h1;simp only[JL,QQ.ok,h1,Bool.false_and,Bool.and_false,Bool.not_false]
   exact⟨_,.inl ⟨rfl,no q,rfl⟩,rfl,rfl,_,QcN,⟨rfl,trivial⟩⟩
  refine QF hA (QF hB (QF rfl (QH (λh2=>?_) (λh2=>?_))))
  .have q:JL d.ps k=true:=by simp only[Bool.not_eq_true']at h2;simp only[JL,QQ.ok,h2,Bool.false_and,Bool.and_false,Bool.not_false]
   exact⟨_,.inl ⟨rfl,no q,rfl⟩,rfl,rfl,_,Qf1,⟨rfl,trivial⟩⟩
  refine QF hA (QF hB (QF rfl (QH (λh3=>?_) (λh3=>?_))))
  .have q:JL d.ps k=true:=by simp only[Bool.not_eq_true']at h3;simp only[JL,QQ.ok,h3,Bool.and_false,Bool.not_false]
   exact⟨_,.inl ⟨rfl,no q,rfl⟩,rfl,rfl,_,QTy,⟨rfl,trivial⟩⟩
  have q:JL d.ps k=false:=by simp only[Bool.not_eq_false']at h0 h1 h2 h3;simp only[JL,QQ.ok,h0,h1,h2,h3,Bool.and_self,Bool.not_true]
  have hw:i64.wrap ((k:Int)+1)=((k+1:Nat):Int):=(w64 (by omega) (by omega)).trans (by omega)
  refine⟨k+1,h,by show d.ps.n-(k+1)<d.ps.n-k;omega,λe J h=>by unfold QMU at h ⊢;rw[go q];exact h,rfl,rfl,_,QW0 d k (k+1),?_⟩
  repeat' first|exact tv|exact hw|refine aI ?_ ?_
 .have h:d.ps.n<=k:=by have:=qdf h;omega
  have hf:QN (JL d.ps) (d.ps.n-k) k=none:=by rw[show d.ps.n-k=0 by omega];rfl
  exact⟨_,.inr ⟨rfl,by rw[hf];rfl,rfl⟩,rfl,rfl,_,Qae,trivial⟩
def QVo:List (Prop×Ex×JSt):=[((QN (JL d.ps) d.ps.n 0).isNone=false,.ret,zW),((QN (JL d.ps) d.ps.n 0).isNone=true,.exit 0,QE1)]
abbrev QDG(P:Program)(d:Puz):Hnd:={ hnd (mkE P Y1) 1 with loop:=λ_=>Q4 8 [] (QCb d (0:Nat)) (QVo d) }
theorem QeV(hl:d.ps.n<=1000)(G:Ctx)(hrd:G.rd=none)(hG:G.n=8):Q8 (mkE prog Y1) G (QDG prog d) (Qi f22):=by
 refine Kg (body:=QT f22 0) (QL QA4) hrd (by kernel_rfl) ?_
 refine Kr (n0:=8) (QL QA4) (by omega) (λs hs=>Qw (QL QA4) 6 G _ hrd) (λs hs=>(by decide:8<=96)) ?_ (QbE d hl) (s0:=0) (Nat.zero_le _) ?_
 .rintro s e J (⟨_,_,rfl⟩|⟨_,_,rfl⟩)<;>exact(by decide:8<=96)
 .rintro e J (⟨rfl,h,rfl⟩|⟨rfl,h,rfl⟩)
  .exact⟨_,qmc,h,rfl,rfl⟩
  .exact⟨_,List.mem_cons_of_mem _ qmc,h,rfl,rfl⟩
def jf:WF (Puz×Unit):=λ|(d,_)=>(decide (d.ps.n<=1000),.bool false d.ok,[])
def QK7:FC:=wFC jf
theorem QeR :KI (mkE prog Y1) (QDG prog d) f22 (QW.vals 0 ((d,()):Puz×Unit)) (QW.blks 0 ((d,()):Puz×Unit)) 8 = .need (true) (.br (!d.pK.ok) (.leaf (.bool true false) ([])) (.need (true) (.br (!Qe (d.ps.n:Int) (1:Int) (9:Int)) (.leaf (.bool true false) ([])) (.need (true) (.br (!Qe d.wide (1:Int) (9:Int)) (.leaf (.bool true false) ([])) (.need (true) (.br (!Qe d.high (1:Int) (9:Int)) (.leaf (.bool true false) ([])) (.br (i64.wrap (d.wide*d.high) != (d.ps.n:Int)) (.leaf (.bool true false) ([])) (.ak [0=0,0=0,(0:Int)=0,d.pK.length=d.pK.length,d.pK.aK=d.pK.aK,d.pK.oK=d.pK.oK,d.pK.dK.lo=d.pK.dK.lo,d.pK.dK.hi=d.pK.dK.hi,d.wide=d.wide,d.high=d.high,d.turn=d.turn,0=0,d.ps.n=d.ps.n,cO=cO,d.ps.n<=d.ps.n,QC 28 d.ps.n (λi=>QA.enc (d.ps.get i)) λi=>QA.enc (d.ps.get i)] (.both (.asm ((QN (JL d.ps) d.ps.n 0).isNone=false) (.all (λ(g0:Nat->Value)=>.leaf (.bool false false) ([])))) (.asm ((QN (JL d.ps) d.ps.n 0).isNone=true) (.all (λ(g1:Nat->Value)=>.leaf (.bool true true) ([])))))))))))))):=by kernel_rfl
theorem QbN:JG (mkE prog Y1) (Qi f22) 8 jf (λx_=>(QDG prog x_.1)):=by
 refine⟨?_⟩;rintro⟨d,⟨⟩⟩ hp G h1 h2;exact QeV d (qdt hp) G h1 h2
theorem QWg:JF (mkE prog Y1) f22 8 jf (λx_=>(QDG prog x_.1)):=by
 refine⟨?_⟩;rintro⟨d,⟨⟩⟩ hp;refine⟨⟨rfl,by simp[jf],rfl⟩,⟨?_⟩⟩
 rw[QeR d];simp only[jf]at hp;have no:okR d=false->(QE.leaf (AV.bool true false) []).den (VQ 8 (jf (d,())).2.1 (jf (d,())).2.2):=λh=>KT (show false=d.ok by rw[<-QDr,h]) rfl
 refine QF rfl (QH (λh1=>no ?_) (λh1=>QF rfl (QH (λh2=>no ?_) (λh2=>QF rfl (QH (λh3=>no ?_) (λh3=>QF rfl (QH (λh4=>no ?_) (λh4=>QH (λh5=>no ?_) (λh5=>?_)))))))))
 .simp only[Bool.not_eq_true']at h1;simp only[okR,h1,Bool.false_and]
 .simp only[Bool.not_eq_true']at h2;simp only[okR,h2,Bool.false_and,Bool.and_false]
 .simp only[Bool.not_eq_true']at h3;simp only[okR,h3,Bool.false_and,Bool.and_false]
 .simp only[Bool.not_eq_true']at h4;simp only[okR,h4,Bool.false_and,Bool.and_false]
 .have h5:(i64.wrap (d.wide*d.high)==(d.ps.n:Int))=false:=by simpa using h5
  simp only[okR,h5,Bool.false_and,Bool.and_false]
 .have h5:(i64.wrap (d.wide*d.high)==(d.ps.n:Int))=true:=by simpa using h5
  simp only[Bool.not_eq_false']at h1 h2 h3 h4
  repeat' first|refine QX (show _=_ by with_reducible rfl) ?_|refine QX (show _<=_ from qlr _) ?_|refine QX (show QC _ _ _ _ from qRr) ?_
  refine Vx (KB λh=>Q7 λg=>?_) (KB λh=>Q7 λg=>?_)
  .exact KT (show false=d.ok by rw[<-QDr];simp only[okR,h,Bool.and_false]) rfl
  .exact KT (show true=d.ok by rw[<-QDr];simp only[okR,h1,h2,h3,h4,h5,h,Bool.and_self]) rfl
theorem QVE:QO prog 22 QK7:=
 JI (QL QA4) func22 (by kernel_rfl) (by kernel_rfl) (by decide) QbN QWg
def JE:Tab:=Qh Y1 22 QK7
theorem qN:QZ JE:=QA4.add QVE
end Go.Proofs.YtbpffdkemeoajaaGreat
namespace Go.SX
open Go Go.RowKit Go.Proofs.YtbpffdkemeoajaaGreat
def GF:Code->Option Nat
 | .region id _ _=>some id
 | .seq a b=>(match GF a with
  | some x=>some x
  | none=>GF b)
 | .block _ a=>GF a
 | .scope a=>GF a
 | .loop a=>GF a
 | _=>none
def QFd(l:List (Nat×(St->(Ex->St->QE)->QE)))(c:Code):St->(Ex->St->QE)->QE:=match GF c with
 | some r=>(match l.find? (λp=>Nat.beq p.1 r)with
  | some p=>p.2
  | none => λ_ _=>.fail "a loop that is not told")
 | none => λ_ _=>.fail "a loop without a region"
theorem QIL{E:Env}(hE:E.Sound){d:Nat}{G:Ctx}(hG:G.rd=none){c:Code}{L:Code->St->(Ex->St->QE)->QE}(h:∀ s∈JB c,Vf E G s (L s)):Q8 E G { hnd E d with loop:=L } c:=
 ⟨h,(Qw hE d G c hG).call,(Qw hE d G c hG).yield⟩
end Go.SX
namespace Go.Proofs.YtbpffdkemeoajaaGreat
open Go.SX
variable {f:Nat->Bool}{n:Nat}(x:QD)(k:Nat)
def QFL:List (Nat×Blk):=[(8,.cells 0 31 (K2 0 x))]++JC 0 x
def H7:JSt:=⟨97,[(1,.ptr 8 0 0),(3,.int false .i64 k)],QFL x,96⟩
def Gb:JSt:=⟨97,[(1,.ptr 8 0 0),(4,.int false .i64 k)],QFL x,96⟩
def QJy:Ex->List Nat
 | .normal=>[1,3]
 | .exit _=>[1]
 | .ret=>[2]
def QPM:Ex->List Nat
 | .normal=>[1,4]
 | .exit _=>[1]
 | .ret=>[2]
def zN:JSt:=⟨97,[(2,.bool false false)],[],96⟩
def vw:JSt:=⟨97,[(1,.ptr 8 0 0)],QFL x,96⟩
def QRA:Int×Int×Int×Unit->Bool×AV:=λ|(n,(a,(b,_)))=>(true,.bool false (Qe n a b))
def QMm:FC:=KM (KN QRA)
theorem Qck(n:Int)(a:Int)(b:Int):KJ (mkE prog JE) (hnd (mkE prog JE) 0) false f46 (Q3.enc ((n,a,b,()):Int×Int×Int×Unit)) [] 0=QE.br (decide (a<=n)) (QE.leaf (AV.bool false (decide (n<=b))) ([])) (QE.leaf (AV.bool true false) ([])):=by kernel_rfl
theorem Qd3:QO prog 46 QMm:=by
 refine KZ qN 0 func46 (by kernel_rfl) (by kernel_rfl) ?_
 rintro⟨n,a,b,⟨⟩⟩ hp;rw[Qck n a b];simp only[QRA,QE.den,AV.same,AV.sameL,and_true,true_and]at hp ⊢
 (repeat' (first|(refine aI ?_ ?_)|(intro _)))<;>simp_all [Qe]<;>omega
def V9:Tab:=Qh JE 46 QMm
theorem jV:QZ V9:=qN.add Qd3
noncomputable abbrev QMG:List AV:=
  [.nilp,.ptr 97 0 0,.ptr 8 0 0,vi (i64.wrap ((k:Int)+1))]
abbrev QNA:List CK:=
  [.int .i64,.int .i64,.int .i64,.int .i64,.int .i64,.int .i64,.int .i64,.int .i64,.int .i64,.int .i64,.int .i64,.int .i64,.int .i64,.int .i64,.int .i64,.int .i64,.int
  .i64,.int .i64,.int .i64,.int .i64,.int .i64,.int .i64,.int .i64,.int .i64,.int .i64,.int .i64,.int .i64,.int .i64]
noncomputable abbrev Ww:List (Nat×Blk):=
  [(8,.cells 0 31 [vi x.d.pK.length,vi x.d.pK.aK,vi x.d.pK.oK,vi x.d.pK.dK.lo,.int false .i64
  x.d.pK.dK.hi,vi x.d.wide,vi x.d.high,.bool false x.d.turn,.slz 0 0 x.d.ps.n cO,.slz 1 0 x.sK.n cO,.slz 2 0 x.hang.n (Cap.of
  0),vi x.lost,vi x.fK]),(0,.frz QNA x.d.ps.n λi=>QA.enc (x.d.ps.get i)),(1,.frz QNA x.sK.n λi=>QA.enc (x.sK.get i)),(2,
  .frz [.int .i64,.int .i64,.int .i64,.int .i64] x.hang.n λi=>QA.enc (x.hang.get i))]
theorem Qbc(g:Nat->Value):exec (mkE prog V9) (hnd (mkE prog V9) 6) (QT f18 0) (JSt.inst (H7 x k) g) (KG [] QJy) = .br (decide ((k:Int)<(x.sK.n:Int))) (.need (decide ((0:Int)<=(k:Int)/\(k:Int)<(x.sK.n:Int))&&decide (x.sK.n<=x.sK.n)) (.need (decide (k<x.sK.n)) (.need (true) (.br (!(x.sK.get k).ok) (.leaf (.tup [.nili,.ptr 97 0 0,.bool true false]) ([])) (.leaf (.tup (QMG k)) ((Ww x))))))) (.leaf (.tup [.ptr 0 0 0,.ptr 97 0 0,.ptr 8 0 0]) ((Ww x))):=by kernel_rfl
theorem Qdn(g:Nat->Value):exec (mkS prog V9) (hnd (mkS prog V9) 6) (QT f18 1) (JSt.inst (Gb x k) g) (KG [] QPM) = .br (decide ((k:Int)<(x.hang.n:Int))) (.need (decide ((0:Int)<=(k:Int)/\(k:Int)<(x.hang.n:Int))&&decide (x.hang.n<=x.hang.n)) (.need (decide (k<x.hang.n)) (.need (true) (.need (!!!Qe (x.hang.get k).a (0:Int) (i64.wrap ((x.sK.n:Int)-1))||!!Qe (x.hang.get k).a (0:Int) (i64.wrap ((x.sK.n:Int)-1))) (.need (!!!Qe (x.hang.get k).a (0:Int) (i64.wrap ((x.sK.n:Int)-1))||!!Qe (x.hang.get k).a (0:Int) (i64.wrap ((x.sK.n:Int)-1))) (.need (!!!Qe (x.hang.get k).a (0:Int) (i64.wrap ((x.sK.n:Int)-1))||!!Qe (x.hang.get k).a (0:Int) (i64.wrap ((x.sK.n:Int)-1))) (.need (!!!Qe (x.hang.get k).a (0:Int) (i64.wrap ((x.sK.n:Int)-1))||!!Qe (x.hang.get k).a (0:Int) (i64.wrap ((x.sK.n:Int)-1))) (.need (!!!Qe (x.hang.get k).a (0:Int) (i64.wrap ((x.sK.n:Int)-1))||true&&(!!Qe (x.hang.get k).a (0:Int) (i64.wrap ((x.sK.n:Int)-1))&&!!Qe (x.hang.get k).a (0:Int) (i64.wrap ((x.sK.n:Int)-1)))) (.need (!!!Qe (x.hang.get k).a (0:Int) (i64.wrap ((x.sK.n:Int)-1))||!!Qe (x.hang.get k).a (0:Int) (i64.wrap ((x.sK.n:Int)-1))) (.need (!Qe (x.hang.get k).a (0:Int) (i64.wrap ((x.sK.n:Int)-1))||!!Qe (x.hang.get k).a (0:Int) (i64.wrap ((x.sK.n:Int)-1))) (.bnd (!Qe (x.hang.get k).a (0:Int) (i64.wrap ((x.sK.n:Int)-1))||!Qe (x.hang.get k).b (0:Int) (i64.wrap ((x.sK.n:Int)-1))) (λ(x0:Bool)=>.need (!!x0||!x0) (.need (!!x0||!x0) (.need (!!x0||!x0&&!x0) (.need (x0||!x0) (.bnd (x0||(x.hang.get k).a==(x.hang.get k).b) (λ(x1:Bool)=>.need (!!x1||!x1) (.need (!!x1||true&&!x1) (.need (!!x1||!x1) (.need (x1||!x1) (.bnd (x1||!Qe (x.hang.get k).i (0:Int) (3:Int)) (λ(x2:Bool)=>.need (!!x2||!x2) (.need (!!x2||true&&!x2) (.need (!!x2||!x2) (.need (x2||!x2) (.bnd (x2||!Qe (x.hang.get k).j (0:Int) (3:Int)) (λ(x3:Bool)=>.br (x3) (.leaf (.tup [.nili,.ptr 97 0 0,.bool true false]) ([])) (.leaf (.tup (QMG k)) ((Ww x)))))))))))))))))))))))))))))) (.leaf (.tup [.ptr 2 0 0,.ptr 97 0 0,.ptr 8 0 0]) ((Ww x))):=by kernel_rfl
theorem Qa2 :QI 8 [AV.bool true false] ([]) zN=( some [false=false]):=by kernel_rfl
abbrev QKM(k':Nat)(x:QD):List Prop:=
  [0=0,0=0,i64.wrap ((k:Int)+1)=(k':Int),x.d.pK.length=x.d.pK.length,x.d.pK.aK=x.d.pK.aK,x.d.pK.oK=x.d.pK.oK,x.d.pK.dK.lo =
  x.d.pK.dK.lo,x.d.pK.dK.hi=x.d.pK.dK.hi,x.d.wide=x.d.wide,x.d.high=x.d.high,x.d.turn=x.d.turn,0=0,x.d.ps.n=x.d.ps.n,cO=cO,0=0,
  x.sK.n=x.sK.n,cO=cO,0=0,x.hang.n=x.hang.n,cO=cO,x.lost=x.lost,x.fK=x.fK,x.d.ps.n<=x.d.ps.n,QC 28 x.d.ps.n (λi
  => QA.enc (x.d.ps.get i)) λi=>QA.enc (x.d.ps.get i),x.sK.n<=x.sK.n,QC 28 x.sK.n (λi=>QA.enc (x.sK.get i)) λi=>QA.enc (x.sK.get i),
  x.hang.n<=x.hang.n,QC 4 x.hang.n (λi=>QA.enc (x.hang.get i)) λi=>QA.enc (x.hang.get i)]
theorem Qb3(k k':Nat):QI 8 [.ptr 8 0 0,vi (i64.wrap ((k:Int)+1))] ((Ww x)) (H7 x k')=(some (QKM k k' x)):=by kernel_rfl
abbrev QNb:List Prop:=
  [0=0,0=0,x.d.pK.length=x.d.pK.length,x.d.pK.aK=x.d.pK.aK,x.d.pK.oK=x.d.pK.oK,x.d.pK.dK.lo=x.d.pK.dK.lo,x.d.pK.dK.hi =
  x.d.pK.dK.hi,x.d.wide=x.d.wide,x.d.high=x.d.high,x.d.turn=x.d.turn,0=0,x.d.ps.n=x.d.ps.n,cO=cO,0=0,x.sK.n=x.sK.n,cO=cO,
  0=0,x.hang.n=x.hang.n,cO=cO,x.lost=x.lost,x.fK=x.fK,x.d.ps.n<=x.d.ps.n,QC 28 x.d.ps.n (λi=>QA.enc (x.d.ps.get i)) λi=>QA.enc
  (x.d.ps.get i),x.sK.n<=x.sK.n,QC 28 x.sK.n (λi=>QA.enc (x.sK.get i)) λi=>QA.enc (x.sK.get i),x.hang.n<=x.hang.n,QC 4 x.hang.n (λi=>
  QA.enc (x.hang.get i)) λi=>QA.enc (x.hang.get i)]
theorem QV7 :QI 8 [.ptr 8 0 0] ((Ww x)) (vw x)=(some (QNb x)):=by kernel_rfl
theorem QTL :QI 8 [AV.bool true false] ([]) zN=( some [false=false]):=by kernel_rfl
theorem QW1(k k':Nat):QI 8 [.ptr 8 0 0,vi (i64.wrap ((k:Int)+1))] ((Ww x)) (Gb x k')=(some (QKM k k' x)):=by kernel_rfl
theorem QbC :QI 8 [.ptr 8 0 0] ((Ww x)) (vw x)=(some (QNb x)):=by kernel_rfl
def Z2:Bool := !(x.sK.get k).ok
def QJG(e:Ex)(J:JSt):Prop:=(e = .ret/\(QN (Z2 x) (x.sK.n-k) k).isNone=false/\J=zN)∨(e = .exit 0/\(QN (Z2 x) (x.sK.n-k) k).isNone=true/\J=vw x)
def QP8(e:Ex)(J:JSt):Prop:=(e = .ret/\(QN (Jf x) (x.hang.n-k) k).isNone=false/\J=zN)∨(e = .exit 2/\(QN (Jf x) (x.hang.n-k) k).isNone=true/\J=vw x)
theorem vV{k:Nat}(h:k<n)(q:f k=true):(QN f (n-k) k).isNone=false:=by
 obtain⟨m,hm⟩:∃ m,n-k=m+1:=⟨n-k-1,by omega⟩
 rw[hm,QN,q];rfl
theorem za{k:Nat}(h:k<n)(q:f k=false):QN f (n-k) k=QN f (n-(k+1)) (k+1):=by
 obtain⟨m,hm⟩:∃ m,n-k=m+1:=⟨n-k-1,by omega⟩
 rw[hm,show n-(k+1)=m by omega,QN,q]
theorem Gn{k:Nat}(h:n<=k):(QN f (n-k) k).isNone=true:=by
 rw[show n-k=0 by omega];rfl
theorem Qgg(hl:x.sK.n<=1000):Kk (H7 x) (λk=>k<=x.sK.n) (λk=>x.sK.n-k) (QJG x) 8 QJy [] (mkE prog V9) (λ_=>hnd (mkE prog V9) 6) (QT f18 0):=by
 refine⟨λk g hk=>Qp (Qbc x k g) ?_⟩;refine QH ?_ ?_<;>intro h
 .have h:k<x.sK.n:=by have:=qdt h;omega
  refine QF (by simp;omega) (QF (by simp;omega) (QF rfl (QH (λq=>?_) (λq=>?_))))
  .exact⟨_,.inl ⟨rfl,vV h q,rfl⟩,rfl,rfl,_,Qa2,⟨rfl,trivial⟩⟩
  .refine⟨k+1,h,by show x.sK.n-(k+1)<x.sK.n-k;omega,λe J r=>by unfold QJG at r ⊢;rw[za h q];exact r,rfl,rfl,_,Qb3 x k (k+1),?_⟩
   repeat' first|with_reducible refine QK ?_ ?_|exact tv|exact KW h hl|refine aI ?_ ?_
 .have h:x.sK.n<=k:=by have:=qdf h;omega
  refine⟨_,.inr ⟨rfl,Gn h,rfl⟩,rfl,rfl,_,QV7 x,?_⟩
  repeat' first|with_reducible refine QK ?_ ?_|exact tv|refine aI ?_ ?_
theorem QgI(hl:x.hang.n<=1000):Kk (Gb x) (λk=>k<=x.hang.n) (λk=>x.hang.n-k) (QP8 x) 8 QPM [] (mkS prog V9) (λ_=>hnd (mkS prog V9) 6) (QT f18 1):=by
 refine⟨λk g hk=>Qp (Qdn x k g) ?_⟩;refine QH ?_ ?_<;>intro h
 .have h:k<x.hang.n:=by have:=qdt h;omega
  refine QF (by simp;omega) (QF (by simp;omega) ?_)
  have hb:Jf x k=(!Qe (x.hang.get k).a 0 (i64.wrap ((x.sK.n:Int)-1))||(!Qe (x.hang.get k).b 0 (i64.wrap ((x.sK.n:Int)-1))||(((x.hang.get k).a==(x.hang.get k).b)||(!Qe (x.hang.get k).i 0 3 || !Qe (x.hang.get k).j 0 3)))):=rfl
  generalize Qe (x.hang.get k).a 0 (i64.wrap ((x.sK.n:Int)-1))=w1 at hb ⊢;generalize Qe (x.hang.get k).b 0 (i64.wrap ((x.sK.n:Int)-1))=w2 at hb ⊢;generalize ((x.hang.get k).a==(x.hang.get k).b)=w3 at hb ⊢;generalize Qe (x.hang.get k).i 0 3=w4 at hb ⊢;generalize Qe (x.hang.get k).j 0 3=w5 at hb ⊢
  repeat' first|refine QF rfl ?_|refine QF (by grind) ?_|refine K6 λz hz=>?_
  refine QH ?_ ?_<;>intro q
  .exact⟨_,.inl ⟨rfl,vV h (by grind),rfl⟩,rfl,rfl,_,QTL,⟨rfl,trivial⟩⟩
  .refine⟨k+1,h,by show x.hang.n-(k+1)<x.hang.n-k;omega,λe J r=>by unfold QP8 at r ⊢;rw[za h (by grind)];exact r,rfl,rfl,_,QW1 x k (k+1),?_⟩
   repeat' first|with_reducible refine QK ?_ ?_|exact tv|exact KW h hl|refine aI ?_ ?_
 .have h:x.hang.n<=k:=by have:=qdf h;omega
  refine⟨_,.inr ⟨rfl,Gn h,rfl⟩,rfl,rfl,_,QbC x,?_⟩
  repeat' first|with_reducible refine QK ?_ ?_|exact tv|refine aI ?_ ?_
def QK2:List (Prop×Ex×JSt):=[((QN (Z2 x) x.sK.n 0).isNone=false,.ret,zN),((QN (Z2 x) x.sK.n 0).isNone=true,.exit 0,vw x)]
def QLf:List (Prop×Ex×JSt):=[((QN (Jf x) x.hang.n 0).isNone=false,.ret,zN),((QN (Jf x) x.hang.n 0).isNone=true,.exit 2,vw x)]
abbrev QFn:Code->St->(Ex->St->QE)->QE:=QFd [(4,Q4 8 [] (H7 x (0:Nat)) (QK2 x)),(9,Q4 8 [] (Gb x (0:Nat)) (QLf x))]
abbrev QEU(P:Program)(x:QD):Hnd:={ hnd (mkS P V9) 1 with loop:=QFn x }
theorem QUv(hs:x.sK.n<=1000)(hh:x.hang.n<=1000)(G:Ctx)(hrd:G.rd=none)(hG:G.n=8):Q8 (mkS prog V9) G (QEU prog x) (Qi f18):=by
 refine QIL (Vq jV) hrd λc hc=>?_;have he:JB (Qi f18)=[.loop (QT f18 0),.loop (QT f18 1)]:=by kernel_rfl
 rw[he]at hc;simp only[List.mem_cons,List.not_mem_nil,or_false]at hc;rcases hc with rfl|rfl
 .have e1:QFn x (.loop (QT f18 0))=Q4 8 [] (H7 x (0:Nat)) (QK2 x):=by kernel_rfl
  rw[e1];refine YG (E:=mkE prog V9) rfl (Kr (n0:=8) (QL jV) (by omega) (λs hs=>Qw (QL jV) 6 G _ hrd) (λs hs=>(by decide:8<=96)) ?_ (Qgg x hs) (s0:=0) (Nat.zero_le _) ?_)
  .rintro s e J (⟨_,_,rfl⟩|⟨_,_,rfl⟩)<;>exact(by decide:8<=96)
  .rintro e J (⟨rfl,h,rfl⟩|⟨rfl,h,rfl⟩)
   .exact⟨_,qmc,h,rfl,rfl⟩
   .exact⟨_,List.mem_cons_of_mem _ qmc,h,rfl,rfl⟩
 .have e1:QFn x (.loop (QT f18 1))=Q4 8 [] (Gb x (0:Nat)) (QLf x):=by kernel_rfl
  rw[e1];refine Kr (n0:=8) (Vq jV) (by omega) (λs hs=>Qw (Vq jV) 6 G _ hrd) (λs hs=>(by decide:8<=96)) ?_ (QgI x hh) (s0:=0) (Nat.zero_le _) ?_
  .rintro s e J (⟨_,_,rfl⟩|⟨_,_,rfl⟩)<;>exact(by decide:8<=96)
  .rintro e J (⟨rfl,h,rfl⟩|⟨rfl,h,rfl⟩)
   .exact⟨_,qmc,h,rfl,rfl⟩
   .exact⟨_,List.mem_cons_of_mem _ qmc,h,rfl,rfl⟩
