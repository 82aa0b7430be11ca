/- - -/
import Derived.Test.YtekbmehgcofnkaaGreatMy
import Derived.Test.YtekbmehgcofnkaaGreatMu
import Derived.Test.YtekbmehgcofnkaaGreatMp
open Go.Proofs.Tryz
open Go.IntKind (i64)
set_option maxRecDepth 100000
namespace Go.Proofs.YtekbmehgcofnkaaGreat
open Go.SX
def QRt:Int×Int×Int×Unit->Bool×AV:=λ|(n,(a,(b,_)))=>(true,.bool false (Qz n a b))
def QRD:FC:=Kj (Kl QRt)
theorem QdH(n:Int)(a:Int)(b:Int):KR (mkE prog KQ) (hnd (mkE prog KQ) 0) false f109 (KG.enc ((n,a,b,()):Int×Int×Int×Unit)) [] 0=QC.br (decide (a<=n)) (QC.leaf (AV.bool false (decide (n<=b))) ([])) (QC.leaf (AV.bool true false) ([])):=by kernel_rfl
theorem QYR:QR prog 109 QRD:=by
 refine K0 JV 0 func109 (by kernel_rfl) (by kernel_rfl) ?_
 rintro⟨n,a,b,⟨⟩⟩ hp;rw[QdH n a b];simp only[QRt,QC.den,AV.same,AV.sameL,and_true,true_and]at hp ⊢
 (repeat' (first|(refine aI ?_ ?_)|(intro _)))<;>simp_all [Qz]<;>omega
def QEc:Tab:=Qa KQ 109 QRD
theorem QMP:Qc QEc:=JV.add QYR
def QS5:Sp×Int×Int×Unit->Bool×AV:=λ|(s,(a,(b,_)))=>(true,.bool false (s.isIn a b))
def QQb:FC:=Kj (Kl QS5)
theorem QWk(s:Sp)(a:Int)(b:Int):KR (mkE prog QEc) (hnd (mkE prog QEc) 0) false f110 (KG.enc ((s,a,b,()):Sp×Int×Int×Unit)) [] 0=QC.br (decide (a<=s.lo)) (QC.br (decide (s.lo<=s.hi)) (QC.leaf (AV.bool false (decide (s.hi<=b))) ([])) (QC.leaf (AV.bool true false) ([]))) (QC.leaf (AV.bool true false) ([])):=by kernel_rfl
theorem QbA:QR prog 110 QQb:=by
 refine K0 QMP 0 func110 (by kernel_rfl) (by kernel_rfl) ?_
 rintro⟨s,a,b,⟨⟩⟩ hp;rw[QWk s a b];simp only[QS5,QC.den,AV.same,AV.sameL,and_true,true_and]at hp ⊢
 (repeat' (first|(refine aI ?_ ?_)|(intro _)))<;>simp_all [Sp.isIn]<;>omega
def QFp:Tab:=Qa QEc 110 QQb
theorem QUf:Qc QFp:=QMP.add QbA
def QMs:Edge×Unit->Bool×AV:=λ|(a,_)=>(true,.bool false a.ok)
def QRT:FC:=Kj (Kl QMs)
theorem QeC(a:Edge):KR (mkE prog QFp) (hnd (mkE prog QFp) 0) false f70 (KG.enc ((a,()):Edge×Unit)) [] 0=QC.br (a.kind==(0:Int)) (QC.leaf (AV.bool true true) ([])) (QC.need (true) (QC.br (Qz a.kind (1:Int) (2:Int)) (QC.need (true) (QC.br (a.at_.isIn (0:Int) (10000:Int)) (QC.need (true) (QC.br (a.wide.isIn (1:Int) (3000:Int)) (QC.need (true) (QC.leaf (AV.bool false (a.deep.isIn (1:Int) (3000:Int))) ([]))) (QC.leaf (AV.bool true false) ([])))) (QC.leaf (AV.bool true false) ([])))) (QC.leaf (AV.bool true false) ([])))):=by kernel_rfl
theorem QgL:QR prog 70 QRT:=by
 refine K0 QUf 0 func70 (by kernel_rfl) (by kernel_rfl) ?_
 rintro⟨a,⟨⟩⟩ hp;rw[QeC a];simp only[QMs,QC.den,AV.same,AV.sameL,and_true,true_and]at hp ⊢
 have hw:Qz a.kind 1 2=((a.kind==1)||(a.kind==2)):=by
  unfold Qz;rw[Bool.eq_iff_iff];simp only[qdE,qbO,beq_iff_eq];omega
 simp only[hw];unfold Edge.ok;cases (a.kind==0)<;>cases ((a.kind==1)||(a.kind==2))<;>cases a.at_.isIn 0 10000<;>cases a.wide.isIn 1 3000<;>simp
def QFZ:Tab:=Qa QFp 70 QRT
theorem QQG:Qc QFZ:=QUf.add QgL
def QSp:Qy×Unit->Bool×AV:=λ|(p,_)=>(true,.bool false p.ok)
def QVC:FC:=Kj (Kl QSp)
theorem QYX(p:Qy):KR (mkE prog QFZ) (hnd (mkE prog QFZ) 0) false f69 (KG.enc ((p,()):Qy×Unit)) [] 0=QC.need (true) (QC.br (Qz p.length (1:Int) (10000:Int)) (QC.need (true) (QC.br (Qz p.aK (0:Int) (500:Int)) (QC.need (true) (QC.br (Qz p.oK (0:Int) (500:Int)) (QC.need (true) (QC.leaf (AV.bool false (p.dK.isIn (0:Int) (100:Int))) ([]))) (QC.leaf (AV.bool true false) ([])))) (QC.leaf (AV.bool true false) ([])))) (QC.leaf (AV.bool true false) ([]))):=by kernel_rfl
theorem QXn:QR prog 69 QVC:=by
 refine K0 QQG 0 func69 (by kernel_rfl) (by kernel_rfl) ?_
 rintro⟨p,⟨⟩⟩ hp;rw[QYX p];simp only[QSp,QC.den,AV.same,AV.sameL,and_true,true_and]at hp ⊢
 (repeat' (first|(refine aI ?_ ?_)|(intro _)))<;>simp_all [Qy.ok]
def QFP:Tab:=Qa QFZ 69 QVC
theorem QTv:Qc QFP:=QQG.add QXn
def QNd:Int×Int×Int×Unit->Bool×AV:=λ|(n,(a,(b,_)))=>(true,.bool false (Qz n a b))
def QL9:FC:=Kj (Kl QNd)
theorem QXW(n:Int)(a:Int)(b:Int):KR (mkE prog QFP) (hnd (mkE prog QFP) 0) false f54 (KG.enc ((n,a,b,()):Int×Int×Int×Unit)) [] 0=QC.br (decide (a<=n)) (QC.leaf (AV.bool false (decide (n<=b))) ([])) (QC.leaf (AV.bool true false) ([])):=by kernel_rfl
theorem Qe4:QR prog 54 QL9:=by
 refine K0 QTv 0 func54 (by kernel_rfl) (by kernel_rfl) ?_
 rintro⟨n,a,b,⟨⟩⟩ hp;rw[QXW n a b];simp only[QNd,QC.den,AV.same,AV.sameL,and_true,true_and]at hp ⊢
 (repeat' (first|(refine aI ?_ ?_)|(intro _)))<;>simp_all [Qz]<;>omega
def Yn:Tab:=Qa QFP 54 QL9
theorem QAP:Qc Yn:=QTv.add Qe4
def bdQ(l:Rw QY)(i:Nat):Bool := !(l.get i).ok
variable (d:Puz)
def okR:Bool:=d.pK.ok&&(Qz (d.ps.n:Int) 1 9&&(Qz d.wide 1 9&&(Qz d.high 1 9&&((i64.wrap (d.wide*d.high)==(d.ps.n:Int))&&(QP (bdQ d.ps) d.ps.n 0).isNone))))
theorem QOy(h:1<=d.ps.n):(QP (Vd d) d.ps.n 0).isNone=(d.pK.ok&&(QP (bdQ d.ps) d.ps.n 0).isNone):=by
 cases hp:d.pK.ok with
 | true=>
  have:Vd d=bdQ d.ps:=by funext i;simp only[Vd,bdQ,hp,Bool.true_and]
  rw[this,Bool.true_and]
 | false=>
  obtain⟨m,hm⟩:∃ m,d.ps.n=m+1:=⟨d.ps.n-1,by omega⟩
  rw[hm,QP];simp only[Vd,hp,Bool.false_and,Bool.not_false];rfl
theorem QIH:okR d=d.ok:=by
 rw[Bool.eq_iff_iff];simp only[okR,Puz.ok,Puz.okN,qbA,Qz,qdE,beq_iff_eq];constructor
 .rintro⟨hp,hn,hw,hh,hm,ha⟩;have m1:d.wide*d.high<=9*9:=Int.mul_le_mul hw.2 hh.2 (by omega) (by omega)
  have m0:0<=d.wide*d.high:=Int.mul_nonneg (by omega) (by omega)
  have e:=hm;rw[w64 (by omega) (by omega)]at e
  have a1:=Int.mul_le_mul_of_nonneg_left (show 1<=d.high from hh.1) (show 0<=d.wide by omega)
  have a2:=Int.mul_le_mul_of_nonneg_right (show 1<=d.wide from hw.1) (show 0<=d.high by omega)
  refine⟨⟨hn,by omega,by omega,hm⟩,?_⟩
  rw[QOy _ (by omega),hp,ha];rfl
 .rintro⟨⟨hn,hw,hh,hm⟩,hs⟩;rw[QOy _ (by omega),qbA]at hs
  exact⟨hs.1,hn,by omega,by omega,hm,hs.2⟩
def QCi(k:Nat):JSt:=⟨60,[(1,.ptr 8 0 0),(3,.int false .i64 k)],[(8,.cells 0 28 (KS d))]++Qi.blk 0 d.ps,96⟩
def QLD:Ex->List Nat
 | .normal=>[1,3]
 | .exit _=>[]
 | .ret=>[2]
noncomputable abbrev QTM:List (Nat×Blk):=
  [(8,.cells 0 28 (waf d)),(0,.frz (wae) d.ps.n λi=>QA.enc (d.ps.get i))]
theorem QhF(k:Nat)(g:Nat->Value):exec (mkE prog Yn) (hnd (mkE prog Yn) 6) (QH f25 0) (JSt.inst (QCi d k) g) (Q9 [] QLD) = .br (decide ((k:Int)<(d.ps.n:Int))) (.need (decide ((0:Int)<=(k:Int)/\(k:Int)<(d.ps.n:Int))&&decide (d.ps.n<=d.ps.n)) (.need (decide (k<d.ps.n)) (.need (true) (.br (!(d.ps.get k).up.ok) (.leaf (.tup [.nili,.ptr 60 0 0,.bool true false]) ([])) (.need (decide ((0:Int)<=(k:Int)/\(k:Int)<(d.ps.n:Int))&&decide (d.ps.n<=d.ps.n)) (.need (decide (k<d.ps.n)) (.need (true) (.br (!(d.ps.get k).right.ok) (.leaf (.tup [.nili,.ptr 60 0 0,.bool true false]) ([])) (.need (decide ((0:Int)<=(k:Int)/\(k:Int)<(d.ps.n:Int))&&decide (d.ps.n<=d.ps.n)) (.need (decide (k<d.ps.n)) (.need (true) (.br (!(d.ps.get k).down.ok) (.leaf (.tup [.nili,.ptr 60 0 0,.bool true false]) ([])) (.need (decide ((0:Int)<=(k:Int)/\(k:Int)<(d.ps.n:Int))&&decide (d.ps.n<=d.ps.n)) (.need (decide (k<d.ps.n)) (.need (true) (.br (!(d.ps.get k).left.ok) (.leaf (.tup [.nili,.ptr 60 0 0,.bool true false]) ([])) (.leaf (.tup [.nilp,.ptr 60 0 0,.ptr 8 0 0,vi (i64.wrap ((k:Int)+1))]) ((QTM d))))))))))))))))))) (.leaf (.tup [.ptr 0 0 0,.ptr 60 0 0]) ([])):=by kernel_rfl
def GJ:JSt:=⟨60,[(2,.bool false false)],[],96⟩
def QKO:JSt:=⟨60,[],[],96⟩
theorem QW0 :QF 8 [AV.bool true false] ([]) GJ=( some [false=false]):=by kernel_rfl
theorem QVS :QF 8 [AV.bool true false] ([]) GJ=( some [false=false]):=by kernel_rfl
theorem Qep :QF 8 [AV.bool true false] ([]) GJ=( some [false=false]):=by kernel_rfl
theorem Qaz :QF 8 [AV.bool true false] ([]) GJ=( some [false=false]):=by kernel_rfl
theorem Qeg(k k':Nat):QF 8 [.ptr 8 0 0,vi (i64.wrap ((k:Int)+1))] ((QTM d)) (QCi d k')=(some ([0=0,0=0,i64.wrap ((k:Int)+1)=(k':Int)]++waa d++([cO=cO]++wad d))):=by kernel_rfl
theorem QYK :QF 8 [] ([]) QKO=( some []):=by kernel_rfl
def QL0(k:Nat)(e:Ex)(J:JSt):Prop:=(e = .ret/\(QP (bdQ d.ps) (d.ps.n-k) k).isNone=false/\J=GJ)∨(e = .exit 0/\(QP (bdQ d.ps) (d.ps.n-k) k).isNone=true/\J=QKO)
theorem Qis(hl:d.ps.n<=1000):JP (QCi d) (λk=>k<=d.ps.n) (λk=>d.ps.n-k) (QL0 d) 8 QLD [] (mkE prog Yn) (λ_=>hnd (mkE prog Yn) 6) (QH f25 0):=by
 refine⟨λk g hk=>QWS (QhF d k g) ?_⟩;refine QE ?_ ?_<;>intro h
 .have h:k<d.ps.n:=by have:=qdt h;omega
  obtain⟨m,hm⟩:∃ m,d.ps.n-k=m+1:=⟨d.ps.n-k-1,by omega⟩
  have hm':d.ps.n-(k+1)=m:=by omega
  have hA:(decide ((0:Int)<=(k:Int)/\(k:Int)<(d.ps.n:Int))&&decide (d.ps.n<=d.ps.n))=true:=by simp;omega
  have hB:decide (k<d.ps.n)=true:=by simp;omega
  have bad:bdQ d.ps k=true->QP (bdQ d.ps) (d.ps.n-k) k=some k:=λq=>by rw[hm,QP,q]
  have go:bdQ d.ps k=false->QP (bdQ d.ps) (d.ps.n-k) k=QP (bdQ d.ps) (d.ps.n-(k+1)) (k+1):=λq=>by rw[hm,hm',QP,q]
  have no:bdQ d.ps k=true->(QP (bdQ d.ps) (d.ps.n-k) k).isNone=false:=λq=>by rw[bad q];rfl
  refine QG hA (QG hB (QG rfl (QE (λh0=>?_) (λh0=>?_))))
  .have q:bdQ d.ps k=true:=by simp only[Bool.not_eq_true']at h0;simp only[bdQ,QY.ok,h0,Bool.false_and,Bool.not_false]
   exact⟨_,.inl ⟨rfl,no q,rfl⟩,rfl,rfl,_,QW0,⟨rfl,trivial⟩⟩
  refine QG hA (QG hB (QG rfl (QE (λh1=>?_) (λh1=>?_))))
  .have q:bdQ d.ps k=true:=by simp only[Bool.not_eq_true']at h1;simp only[bdQ,QY.ok,h1,Bool.false_and,Bool.and_false,Bool.not_false]
   exact⟨_,.inl ⟨rfl,no q,rfl⟩,rfl,rfl,_,QVS,⟨rfl,trivial⟩⟩
  refine QG hA (QG hB (QG rfl (QE (λh2=>?_) (λh2=>?_))))
  .have q:bdQ d.ps k=true:=by simp only[Bool.not_eq_true']at h2;simp only[bdQ,QY.ok,h2,Bool.false_and,Bool.and_false,Bool.not_false]
   exact⟨_,.inl ⟨rfl,no q,rfl⟩,rfl,rfl,_,Qep,⟨rfl,trivial⟩⟩
  refine QG hA (QG hB (QG rfl (QE (λh3=>?_) (λh3=>?_))))
  .have q:bdQ d.ps k=true:=by simp only[Bool.not_eq_true']at h3;simp only[bdQ,QY.ok,h3,Bool.and_false,Bool.not_false]
   exact⟨_,.inl ⟨rfl,no q,rfl⟩,rfl,rfl,_,Qaz,⟨rfl,trivial⟩⟩
  have q:bdQ d.ps k=false:=by simp only[Bool.not_eq_false']at h0 h1 h2 h3;simp only[bdQ,QY.ok,h0,h1,h2,h3,Bool.and_self,Bool.not_true]
  have hw:i64.wrap ((k:Int)+1)=((k+1:Nat):Int):=(w64 (by omega) (by omega)).trans (by omega)
  refine⟨k+1,h,by show d.ps.n-(k+1)<d.ps.n-k;omega,λe J h=>by unfold QL0 at h ⊢;rw[go q];exact h,rfl,rfl,_,Qeg d k (k+1),?_⟩
  repeat' first|exact tv|exact qRr|exact hw|refine aI ?_ ?_
 .have h:d.ps.n<=k:=by have:=qdf h;omega
  have hf:QP (bdQ d.ps) (d.ps.n-k) k=none:=by rw[show d.ps.n-k=0 by omega];rfl
  exact⟨_,.inr ⟨rfl,by rw[hf];rfl,rfl⟩,rfl,rfl,_,QYK,trivial⟩
def QfO:List (Prop×Ex×JSt):=[((QP (bdQ d.ps) d.ps.n 0).isNone=false,.ret,GJ),((QP (bdQ d.ps) d.ps.n 0).isNone=true,.exit 0,QKO)]
abbrev QDK(P:Program)(d:Puz):Hnd:={ hnd (mkE P Yn) 1 with loop:=λ_=>KC 8 [] (QCi d (0:Nat)) (QfO d) }
theorem QdX(hl:d.ps.n<=1000)(G:Ctx)(hrd:G.rd=none)(hG:G.n=8):Qw (mkE prog Yn) G (QDK prog d) (Qk f25):=by
 refine KN (body:=QH f25 0) (QO QAP) hrd (by kernel_rfl) ?_
 refine Jq (n0:=8) (QO QAP) (by omega) (λs hs=>Qv (QO QAP) 6 G _ hrd) (λs hs=>(by decide:8<=96)) ?_ (Qis d hl) (s0:=0) (Nat.zero_le _) ?_
 .rintro s e J (⟨_,_,rfl⟩|⟨_,_,rfl⟩)<;>exact(by decide:8<=96)
 .rintro e J (⟨rfl,h,rfl⟩|⟨rfl,h,rfl⟩)
  .exact⟨_,qmc,h,rfl,rfl⟩
  .exact⟨_,List.mem_cons_of_mem _ qmc,h,rfl,rfl⟩
def jT:WF (Puz×Unit):=λ|(d,_)=>(decide (d.ps.n<=1000),.bool false d.ok,[])
def QSm:FC:=wFC jT
theorem Qgd :Kd (mkE prog Yn) (QDK prog d) f25 (Qb.vals 0 ((d,()):Puz×Unit)) (Qb.blks 0 ((d,()):Puz×Unit)) 8 = .need (true) (.br (!d.pK.ok) (.leaf (.bool true false) ([])) (.need (true) (.br (!Qz (d.ps.n:Int) (1:Int) (9:Int)) (.leaf (.bool true false) ([])) (.need (true) (.br (!Qz d.wide (1:Int) (9:Int)) (.leaf (.bool true false) ([])) (.need (true) (.br (!Qz d.high (1:Int) (9:Int)) (.leaf (.bool true false) ([])) (.br (i64.wrap (d.wide*d.high) != (d.ps.n:Int)) (.leaf (.bool true false) ([])) (.ak ([0=0,0=0,(0:Int)=0]++waa d++([cO=cO]++wad d)) (.both (.asm ((QP (bdQ d.ps) d.ps.n 0).isNone=false) (.all (λ(g0:Nat->Value)=>.leaf (.bool false false) ([])))) (.asm ((QP (bdQ d.ps) d.ps.n 0).isNone=true) (.all (λ(g1:Nat->Value)=>.leaf (.bool true true) ([])))))))))))))):=by kernel_rfl
theorem QWU:JA (mkE prog Yn) (Qk f25) 8 jT (λx_=>(QDK prog x_.1)):=by
 refine⟨?_⟩;rintro⟨d,⟨⟩⟩ hp G h1 h2;exact QdX d (qdt hp) G h1 h2
theorem QeA:JB (mkE prog Yn) f25 8 jT (λx_=>(QDK prog x_.1)):=by
 refine⟨?_⟩;rintro⟨d,⟨⟩⟩ hp;refine⟨⟨rfl,by simp[jT],rfl⟩,⟨?_⟩⟩
 rw[Qgd d];simp only[jT]at hp;have no:okR d=false->(QC.leaf (AV.bool true false) []).den (q9 8 (jT (d,())).2.1 (jT (d,())).2.2):=λh=>KE (show false=d.ok by rw[<-QIH,h]) rfl
 refine QG rfl (QE (λh1=>no ?_) (λh1=>QG rfl (QE (λh2=>no ?_) (λh2=>QG rfl (QE (λh3=>no ?_) (λh3=>QG rfl (QE (λh4=>no ?_) (λh4=>QE (λh5=>no ?_) (λh5=>?_)))))))))
 .simp only[Bool.not_eq_true']at h1;simp only[okR,h1,Bool.false_and]
 .simp only[Bool.not_eq_true']at h2;simp only[okR,h2,Bool.false_and,Bool.and_false]
 .simp only[Bool.not_eq_true']at h3;simp only[okR,h3,Bool.false_and,Bool.and_false]
 .simp only[Bool.not_eq_true']at h4;simp only[okR,h4,Bool.false_and,Bool.and_false]
 .have h5:(i64.wrap (d.wide*d.high)==(d.ps.n:Int))=false:=by simpa using h5
  simp only[okR,h5,Bool.false_and,Bool.and_false]
 .have h5:(i64.wrap (d.wide*d.high)==(d.ps.n:Int))=true:=by simpa using h5
  simp only[Bool.not_eq_false']at h1 h2 h3 h4
  repeat' first|refine Qu (show _=_ by with_reducible rfl) ?_|refine Qu (show _<=_ from qlr _) ?_|refine Qu (show QB _ _ _ _ from qRr) ?_
  refine Kh (Qg λh=>Qj λg=>?_) (Qg λh=>Qj λg=>?_)
  .exact KE (show false=d.ok by rw[<-QIH];simp only[okR,h,Bool.and_false]) rfl
  .exact KE (show true=d.ok by rw[<-QIH];simp only[okR,h1,h2,h3,h4,h5,h,Bool.and_self]) rfl
theorem Qa6:QR prog 25 QSm:=
 JL (QO QAP) func25 (by kernel_rfl) (by kernel_rfl) (by decide) QWU QeA
def Jp:Tab:=Qa Yn 25 QSm
theorem ZN:Qc Jp:=QAP.add Qa6
def Zo(c:Int):Bool:=decide ((d.ps.n:Int)>14)||(d.ok&&decide ((d.ps.n:Int)>c))
def vm:WF (Puz×Int×Unit):=λ|(d,(c,_))=>(true,.bool false (Zo d c),[])
def QPX:FC:=wFC vm
theorem QVt(c:Int):Kd (mkE prog Jp) (hnd (mkE prog Jp) 1) f15 (Qb.vals 0 ((d,c,()):Puz×Int×Unit)) (Qb.blks 0 ((d,c,()):Puz×Int×Unit)) 8=QC.br (decide ((↑d.ps.n:Int)>(14:Int))) (QC.leaf (AV.bool true true) ([])) (QC.need (decide (d.ps.n<=d.ps.n)&&true&&decide (d.ps.n<=(1000:Nat))) (QC.br (d.ok) (QC.leaf (AV.bool false (decide ((↑d.ps.n:Int)>c))) ([])) (QC.leaf (AV.bool true false) ([])))):=by kernel_rfl
theorem Qhg:JA (mkE prog Jp) (Qk f15) 8 vm (λx_=>(hnd (mkE prog Jp) 1)):=by
 refine⟨?_⟩;rintro⟨d,⟨c,⟨⟩⟩⟩ hp G h1 h2;exact Qv (QO ZN) 1 G _ h1
theorem QeX:JB (mkE prog Jp) f15 8 vm (λx_=>(hnd (mkE prog Jp) 1)):=by
 refine⟨?_⟩;rintro⟨d,⟨c,⟨⟩⟩⟩ hp;refine⟨⟨rfl,by simp[vm],rfl⟩,⟨?_⟩⟩
 rw[QVt d c];simp only[vm]at hp;have end_:∀{z:Bool} {b:Bool},Zo d c=b->(QC.leaf (AV.bool z b) []).den (q9 8 (vm (d,c,())).2.1 (vm (d,c,())).2.2):=λh=>KE h.symm rfl;refine QE ?_ ?_<;>intro b0
 .exact end_ (by rw[Zo,b0];rfl)
 refine QG ?_ ?_;rotate_left;refine QE ?_ ?_<;>intro b1
 .have b1:d.ok=true:=b1;exact end_ (by rw[Zo,b0,b1];rfl)
 .have b1:d.ok=false:=b1;exact end_ (by rw[Zo,b0,b1];rfl)
 all_goals have:=qdf b0;simp;omega
theorem QbJ:QR prog 15 QPX:=
 JL (QO ZN) func15 (by kernel_rfl) (by kernel_rfl) (by decide) Qhg QeX
def QJX:Tab:=Qa Jp 15 QPX
theorem QOR:Qc QJX:=ZN.add QbJ
def QRh:Int×Int×Unit->Bool×AV:=λ|(lo,(hi,_))=>(true,Enc.enc (⟨lo,hi⟩:Sp))
def QU7:FC:=Kj (Kl QRh)
theorem Qgq(lo:Int)(hi:Int):KR (mkE prog KQ) (hnd (mkE prog KQ) 2) false f97 (KG.enc ((lo,hi,()):Int×Int×Unit)) [] 0=QC.leaf (AV.agg [vi lo,vi hi]) ([]):=by kernel_rfl
theorem QZY:QR prog 97 QU7:=by
 refine K0 JV 2 func97 (by kernel_rfl) (by kernel_rfl) ?_
 rintro⟨lo,hi,⟨⟩⟩ hp;rw[Qgq lo hi];simp only[QRh,QC.den,AV.same,AV.sameL,and_true,true_and]at hp ⊢;simp only[Enc.enc,AV.same,AV.sameL,and_self]
def QEA:Tab:=Qa KQ 97 QU7
theorem QMn:Qc QEA:=JV.add QZY
def QOz:Int×Int×Unit->Bool×AV:=λ|(lo,(hi,_))=>(true,Enc.enc (⟨1,⟨1000,1000⟩,⟨lo,hi⟩,⟨400,400⟩⟩:Edge))
def QU5:FC:=Kj (Kl QOz)
theorem Qci(lo:Int)(hi:Int):KR (mkE prog QEA) (hnd (mkE prog QEA) 2) false f95 (KG.enc ((lo,hi,()):Int×Int×Unit)) [] 0=QC.need (true) (QC.leaf (AV.agg [vj (1:Int),vj (1000:Int),vj (1000:Int),vi lo, vi hi,vj (400:Int),vj (400:Int)]) ([])):=by kernel_rfl
theorem Qhh:QR prog 95 QU5:=by
 refine K0 QMn 2 func95 (by kernel_rfl) (by kernel_rfl) ?_
 rintro⟨lo,hi,⟨⟩⟩ hp;rw[Qci lo hi];simp only[QOz,QC.den,AV.same,AV.sameL,and_true,true_and]at hp ⊢;simp only[Enc.enc,AV.same,AV.sameL,and_self]
def QCj:Tab:=Qa QEA 95 QU5
theorem QMf:Qc QCj:=QMn.add Qhh
def QQv:Unit->Bool×AV:=λ_=>(true,Enc.enc (⟨2,⟨1000,1000⟩,⟨515,515⟩,⟨410,410⟩⟩:Edge))
def QN1:FC:=Kj (Kl QQv)
theorem QZi :KR (mkE prog QCj) (hnd (mkE prog QCj) 2) false f96 (KG.enc (():Unit)) [] 0=QC.leaf (AV.agg [vj (2:Int),vj (1000:Int),vj (1000:Int),vj (515:Int),vj (515:Int),vj (410:Int),vj (410:Int)]) ([]):=by kernel_rfl
theorem QgY:QR prog 96 QN1:=by
 refine K0 QMf 2 func96 (by kernel_rfl) (by kernel_rfl) ?_
 rintro⟨⟩ hp;rw[QZi];simp only[QQv,QC.den,AV.same,AV.sameL,and_true,true_and]at hp ⊢;simp only[Enc.enc,AV.same,AV.sameL,and_self]
def QDz:Tab:=Qa QCj 96 QN1
theorem QNT:Qc QDz:=QMf.add QgY
def QMc:Edge×Edge×Edge×Edge×Unit->Bool×AV:=λ|(r,(b,(l,(a,_))))=>(true,Enc.enc (⟨a,r,b,l⟩:QY))
def QLg:FC:=Kj (Kl QMc)
theorem Qir(r:Edge)(b:Edge)(l:Edge)(a:Edge):KR (mkE prog QDz) (hnd (mkE prog QDz) 2) false f98 (KG.enc ((r,b,l,a,()):Edge×Edge×Edge×Edge×Unit)) [] 0=QC.leaf (AV.agg [vi a.kind,vi a.at_.lo,vi a.at_.hi,vi a.wide.lo,vi a.wide.hi,vi a.deep.lo,vi a.deep.hi,vi r.kind,vi r.at_.lo,vi r.at_.hi,vi r.wide.lo,vi r.wide.hi,vi r.deep.lo,vi r.deep.hi,vi b.kind,vi b.at_.lo,vi b.at_.hi,vi b.wide.lo,vi b.wide.hi,vi b.deep.lo,vi b.deep.hi,vi l.kind,vi l.at_.lo,vi l.at_.hi,vi l.wide.lo,vi l.wide.hi,vi l.deep.lo,vi l.deep.hi]) ([]):=by kernel_rfl
theorem QaG:QR prog 98 QLg:=by
 refine K0 QNT 2 func98 (by kernel_rfl) (by kernel_rfl) ?_
 rintro⟨r,b,l,a,⟨⟩⟩ hp;rw[Qir r b l a];simp only[QMc,QC.den,AV.same,AV.sameL,and_true,true_and]at hp ⊢;simp only[Enc.enc,AV.same,AV.sameL,and_self]
def qE:Tab:=Qa QDz 98 QLg
theorem QHe:Qc qE:=QNT.add QaG
def eA:Edge:=⟨1,⟨1000,1000⟩,⟨500,500⟩,⟨400,400⟩⟩
def eP:Edge:=⟨1,⟨1000,1000⟩,⟨480,490⟩,⟨400,400⟩⟩
def eH:Edge:=⟨2,⟨1000,1000⟩,⟨515,515⟩,⟨410,410⟩⟩
def QiT:List QY:=[⟨Ju,eA,Ju,Ju⟩,⟨Ju,eA,Ju,eH⟩,⟨Ju,eP,Ju,eH⟩,⟨Ju,Ju,Ju,eH⟩]
def QjK:List QY:=[⟨Ju,eA,eA,Ju⟩,⟨Ju,Ju,eA,eH⟩,⟨eH,eP,Ju,Ju⟩,⟨eH,Ju,Ju,eH⟩]
def QM8:AV := .agg [.int false .i64 2000,.int false .i64 20,.int false .i64 30,.int false .i64 0,.int false .i64 10,.int false .i64 4,.int false .i64 1,.bool false false,.slice true 0 0 4 (.lit 4)]
def QO1:Nat×Blk:=(0,.rowl 70 28 (QiT.map λp=>(Enc.enc p).cells))
def QP0:AV := .agg [.int false .i64 2000,.int false .i64 20,.int false .i64 30,.int false .i64 0,.int false .i64 10,.int false .i64 2,.int false .i64 2,.bool false true,.slice true 0 0 4 (.lit 4)]
def QUd:Nat×Blk:=(0,.rowl 70 28 (QjK.map λp=>(Enc.enc p).cells))
noncomputable abbrev QOo:List AV:=
  [vj 2000,vj 20,vj 30,vj 0,vj 10,vj 4,vj 1,.bool true false,.slice true 288 0 4 (Cap.lit
  4)]
noncomputable abbrev wbk:List AV:=[vj 2,vj 1000,vj 1000,vj 515,vj 515,vj 410,vj 410]
noncomputable abbrev QUu:List (Nat×Blk):=
  [(288,.rowl 70 28 [[vj 0,vj 0,vj 0,vj 0,vj 0,vj 0,vj 0,vj 1,.int true .i64
  1000,vj 1000,vj 500,vj 500,vj 400,vj 400,vj 0,vj 0,vj 0,vj 0,
  vj 0,vj 0,vj 0,vj 0,vj 0,vj 0,vj 0,vj 0,vj 0,vj 0],
  (vj 0::vj 0::vj 0::vj 0::vj 0::vj 0::vj 0::vj 1::vj 1000::.int true .i64
  1000::vj 500::vj 500::vj 400::vj 400::vj 0::vj 0::vj 0::vj 0::vj 0::.int
  true .i64 0::vj 0::wbk),(.int
  true .i64 0::vj 0::vj 0::vj 0::vj 0::vj 0::vj 0::vj 1::vj 1000::vj 1000::vj 480::vj 490::vj 400::vj 400::vj 0::vj 0::vj 0::vj 0::vj 0::.int true
  .i64 0::vj 0::wbk),(.int true
  .i64 0::vj 0::vj 0::vj 0::vj 0::vj 0::vj 0::vj 0::vj 0::vj 0::.int true
  .i64 0::vj 0::vj 0::vj 0::vj 0::vj 0::vj 0::vj 0::vj 0::vj 0::.int true
  .i64 0::wbk)])]
abbrev ja:List Prop:=
  [(0:Int)=0,(0:Int)=0,(0:Int)=0,(0:Int)=0]
abbrev QGe:List Prop:=
  [(0:Int)=0,(0:Int)=0,(0:Int)=0,(1:Int)=1]
abbrev QAn:List Prop:=
  [(1000:Int)=1000,(1000:Int)=1000,(500:Int)=500,(500:Int)=500,(400:Int)=400,(400:Int)=400]
abbrev qW:List Prop:=
  [(0:Int)=0,(0:Int)=0,(0:Int)=0,(0:Int)=0,(0:Int)=0,(0:Int)=0,(0:Int)=0,(0:Int)=0,(0:Int)=0,(0:Int)=0]
abbrev vL:List Prop:=
  [(1000:Int)=1000,(1000:Int)=1000,(515:Int)=515,(515:Int)=515,(410:Int)=410,(410:Int)=410]
abbrev QTD:List Prop:=
  [(1000:Int)=1000,(1000:Int)=1000,(480:Int)=480,(490:Int)=490,(400:Int)=400,(400:Int)=400]
theorem Qb9 :QF 8 [(.agg QOo)] (QUu) (KW 8 QM8 [QO1])=(some ([(2000:Int)=2000,(20:Int)=20,(30:Int)=30,(0:Int)=0,(10:Int)=10,(4:Int)=4,(1:Int)=1, false=false,0=0,4=4,Cap.lit 4=Cap.lit 4]++ja++QGe++QAn++qW++qW++[(0:Int)=0,(1:Int)=1]++QAn++ja++[(0:Int)=0,(0:Int)=0,(0:Int)=0,(2:Int)=2]++vL++ja++QGe++QTD++ja++[(0:Int)=0,(0:Int)=0,(0:Int)=0,(2:Int)=2]++vL++qW++qW++[(0:Int)=0,(2:Int)=2]++vL)):=by kernel_rfl
def QCM:WF (Unit):=λ|_=>(true,QM8,[QO1])
def QPN:FC:=wFC QCM
theorem QaZ :Kd (mkE prog qE) (hnd (mkE prog qE) 2) f46 (Qb.vals 0 ((()):Unit)) (Qb.blks 0 ((()):Unit)) 8 = .leaf (.agg QOo) (QUu):=by kernel_rfl
theorem QWb:JA (mkE prog qE) (Qk f46) 8 QCM (λx_=>(hnd (mkE prog qE) 2)):=by
 refine⟨?_⟩;rintro⟨⟩ hp G h1 h2;exact Qv (QO QHe) 2 G _ h1
theorem QXx:JB (mkE prog qE) f46 8 QCM (λx_=>(hnd (mkE prog qE) 2)):=by
 refine⟨?_⟩;rintro⟨⟩ hp;refine⟨⟨rfl,by decide,rfl⟩,⟨?_⟩⟩
 rw[QaZ];simp only[QCM]at hp;exact⟨rfl,rfl,_,Qb9,by repeat' first|exact trivial|rfl|refine aI ?_ ?_⟩
theorem Qhx:QR prog 46 QPN:=
 JL (QO QHe) func46 (by kernel_rfl) (by kernel_rfl) (by decide) QWb QXx
def qp:Tab:=Qa qE 46 QPN
theorem QGI:Qc qp:=QHe.add Qhx
noncomputable abbrev QTd:List AV:=
  [vi 2000,vi 20,vi 30,vi 0,vi 10,vj 2,vj 2,.bool true true,.slice true 288 0 4
  (Cap.lit 4)]
noncomputable abbrev wbn:List AV:=[vj 0,vj 0,vj 0,vj 0,vj 0,.int
  true .i64 0]
noncomputable abbrev QTL:List (Nat×Blk):=
  [(288,.rowl 70 28 [(vj 0::vj 0::vj 0::vj 0::vj 0::vj 0::vj 0::vj 1::.int true .i64
  1000::vj 1000::vj 500::vj 500::vj 400::vj 400::vj 1::vj 1000::vj 1000::.int true .i64
  500::vj 500::vj 400::vj 400::vj 0::wbn),(vj 0::vj 0::vj 0::vj 0::List.append (wbn) ([vj 0,vj 0,vj 0,vj 0,vj 1,vj 1000,vj 1000,vj 500,.int true .i64
  500,vj 400,vj 400,vj 2,vj 1000,vj 1000,vj 515,vj 515,vj 410,.int true .i64
  410])),(List.append (wbk) ([vj 1,.int true .i64
  1000,vj 1000,vj 480,vj 490,vj 400,vj 400,vj 0,vj 0,vj 0,vj 0,vj 0,vj 0,vj 0,vj 0,vj 0,vj 0,vj 0,vj 0,vj 0,vj 0])),
  (List.append (wbk) (vj 0::vj 0::.int
  true .i64 0::vj 0::vj 0::vj 0::vj 0::vj 0::vj 0::vj 0::vj 0::vj 0::.int
  true .i64 0::vj 0::wbk))])]
theorem Qe6 :QF 8 [(.agg QTd)] (QTL) (KW 8 QP0 [QUd])=(some ([(2000:Int)=2000,(20:Int)=20,(30:Int)=30,(0:Int)=0,(10:Int)=10,(2:Int)=2,(2:Int)=2,true=true,0=0,4=4,Cap.lit 4=Cap.lit 4]++ja++QGe++QAn++[(1:Int)=1]++QAn++qW++qW++[(0:Int)=0,(1:Int)=1]++QAn++[(2:Int)=2]++vL ++ [(2:Int)=2]++vL++[(1:Int)=1]++QTD++qW++ja++[(2:Int)=2]++vL++qW++ja++[(2:Int)=2]++vL)):=by kernel_rfl
def QDc:WF (Unit):=λ|_=>(true,QP0,[QUd])
def QUv:FC:=wFC QDc
theorem QZv :Kd (mkE prog qp) (hnd (mkE prog qp) 2) f47 (Qb.vals 0 ((()):Unit)) (Qb.blks 0 ((()):Unit)) 8 = .need (true) (.leaf (.agg QTd) (QTL)):=by kernel_rfl
theorem Qhr:JA (mkE prog qp) (Qk f47) 8 QDc (λx_=>(hnd (mkE prog qp) 2)):=by
 refine⟨?_⟩;rintro⟨⟩ hp G h1 h2;exact Qv (QO QGI) 2 G _ h1
theorem QfP:JB (mkE prog qp) f47 8 QDc (λx_=>(hnd (mkE prog qp) 2)):=by
 refine⟨?_⟩;rintro⟨⟩ hp;refine⟨⟨rfl,by decide,rfl⟩,⟨?_⟩⟩
 rw[QZv];simp only[QDc]at hp;exact QG rfl ⟨rfl,rfl,_,Qe6,by repeat' first|exact trivial|rfl|refine aI ?_ ?_⟩
theorem QhM:QR prog 47 QUv:=
 JL (QO QGI) func47 (by kernel_rfl) (by kernel_rfl) (by decide) Qhr QfP
def QMJ:Tab:=Qa qp 47 QUv
theorem QjP:Qc QMJ:=QGI.add QhM
end Go.Proofs.YtekbmehgcofnkaaGreat
namespace Go.SX
open Go Go.RowKit Go.Proofs.YtekbmehgcofnkaaGreat
def QPf(rw_:Bool)(E:Env)(H:Hnd)(fn:Func):FC:=λargs nid _=>QBH rw_ E H fn args nid (Xg (AV.idsFromL 0 args) [])
variable {f:FuncId}
theorem Qfz{E:Env}(hE:E.Sound){H:Hnd}{rw_:Bool}{fn:Func}{c:Code}(hf:E.P.funcs[f]? = some fn)(hb:fn.body=some c)(hgo:Jx E.P f=true)(hl:∀ G,G.rd=none->Qw E G H c):QR E.P f (QPf rw_ E H fn):=by
 have h:=QIl (rw_:=rw_) hE hf hb hgo hl;exact⟨h.1,λargs nid all r w lk blks eff hH ha hv he hp=>h.2 args nid (Xg (AV.idsFromL 0 args) []) r w lk blks eff hH ha hv he hp⟩
def QJ2(fc:FC):FC:=λargs nid _=>((fc args nid (Xg (AV.idsFromL 0 args) [])).1,λblks=>match (fc args nid (Xg (AV.idsFromL 0 args) [])).2 blks with
 | some e=>some ⟨true,e.pre,e.val.setK true,e.upd⟩
 | none=>none)
theorem Qjh{P:Program}{fc:FC}(h:QR P f fc):QR P f (QJ2 fc):=by
 refine⟨h.1,λargs nid all r w lk blks eff hH ha hv he hp=>?_⟩;simp only[QJ2]at hv he;split at he<;>(try (cases he;done))
 rename_i e h0;simp only[qsI]at he;subst he;refine(h.2 args nid (Xg (AV.idsFromL 0 args) []) r w lk blks e hH ha hv h0 hp).mono ?_;rintro e' w' ⟨r',rfl,hpost⟩;exact⟨r',by simp only;rw[vC],hpost⟩
end Go.SX
namespace Go.Proofs.YtekbmehgcofnkaaGreat
open Go.SX
abbrev mkG(P:Program)(C:Tab):Env:=⟨P,C,jJ P,false,λ_=>false,false,true,false⟩
theorem QJb{C:Tab}(hC:Qc C):(mkG prog C).Sound:={ c:=hC,m:=QAV prog,mixed:=QAR }
def QNa:List (Nat×Nat)->Nat->Nat
 | [],_=>0
 | (g,k)::l,f=>match Nat.beq g f with
  | true=>k
  | false=>QNa l f
def ZP(P:Program)(B:Tab)(l:List (Nat×Nat)):Nat->Tab
 | 0=>λ_=>none
 | d+1=>λf=>match B f with
  | some fc=>some (QJ2 fc)
  | none=>match QNa l f with
   | 0=>none
   | k=>match P.funcs[f]? with
    | none=>none
    | some fn=>match fn.body.isSome&&Jx P f with
     | false=>none
     | true=>match k with
      | 1=>some (QPf false (mkG P (ZP P B l d)) (hnd (mkG P (ZP P B l d)) 60) fn)
      | 2=>some (QBH false (mkG P (ZP P B l d)) (hnd (mkG P (ZP P B l d)) 60) fn)
      | _=>some (QBH true (mkG P (ZP P B l d)) (hnd (mkG P (ZP P B l d)) 60) fn)
theorem QUr{B:Tab}(hB:Qc B)(l:List (Nat×Nat)):∀ d,Qc (ZP prog B l d)
 | 0=>λf fc h=>by cases h
 | d+1=>λf fc h=>by
  have ih:=QJb (QUr hB l d);simp only[ZP]at h;split at h
  .rename_i fc0 h0;simp only[qsI]at h;subst h;exact Qjh (hB _ _ h0)
  split at h
  .cases h
  .split at h
   .cases h
   .rename_i fn hf;split at h
    .cases h
    .rename_i hb;simp only[qbA,Option.isSome_iff_exists]at hb;obtain⟨⟨c,hc⟩,hgo⟩:=hb;split at h<;>simp only[qsI]at h<;>subst h
     .exact Qfz ih hf hc hgo λG hG=>Qv ih 60 G _ hG
     .exact QIl ih hf hc hgo λG hG=>Qv ih 60 G _ hG
     .exact QIl ih hf hc hgo λG hG=>Qv ih 60 G _ hG
def QaD:Unit->Bool×AV:=λ_=>(true,.bool false true)
def QC4:FC:=Kj (Kl QaD)
variable {f:FuncId}
theorem Qij{C:Tab}(hC:Qc C)(d:Nat){fn:Func}(hf:prog.funcs[f]? = some fn)(hb:fn.body=some (Qk fn))(hgo:Jx prog f=true)(h:KR (mkG prog C) (hnd (mkG prog C) d) false fn [] [] 0 = .leaf (.bool true true) []):QR prog f QC4:=by
 refine QJK (QJb hC) hf hb hgo (λG _ hG=>Qv (QJb hC) d G _ hG) ?_;rintro⟨⟩ _;rw[show(KG.enc ((()):Unit):List AV)=[]from rfl,h];rfl
