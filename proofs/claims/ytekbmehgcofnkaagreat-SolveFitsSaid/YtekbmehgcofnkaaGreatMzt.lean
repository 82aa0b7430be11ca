/- - -/
import Derived.Test.YtekbmehgcofnkaaGreatMz
import Derived.Test.YtekbmehgcofnkaaGreatMv
open Go.Proofs.Tryz
open Go.IntKind (i64)
set_option maxRecDepth 100000
namespace Go.Proofs.YtekbmehgcofnkaaGreat
open Go.SX
def QNg:Int×Int×Int×Unit->Bool×AV:=λ|(n,(a,(b,_)))=>(true,.bool false (Qv n a b))
def QOz:FC:=Kk (Kn QNg)
theorem QfC(n:Int)(a:Int)(b:Int):KX (mkE prog KF) (hnd (mkE prog KF) 0) false f109 (Q8.enc ((n,a,b,()):Int×Int×Int×Unit)) [] 0=QC.br (decide (a<=n)) (QC.leaf (AV.bool false (decide (n<=b))) ([])) (QC.leaf (AV.bool true false) ([])):=by kernel_rfl
theorem QVh:QR prog 109 QOz:=by
 refine K0 JG 0 func109 (by kernel_rfl) (by kernel_rfl) ?_
 rintro⟨n,a,b,⟨⟩⟩ hp;rw[QfC n a b];simp only[QNg,QC.den,AV.same,AV.sameL,and_true,true_and]at hp ⊢
 (repeat' (first|(refine aI ?_ ?_)|(intro _)))<;>simp_all [Qv]<;>omega
def QCZ:Tab:=Qc KF 109 QOz
theorem QOI:Qe QCZ:=JG.add QVh
def QLd:Sp×Int×Int×Unit->Bool×AV:=λ|(s,(a,(b,_)))=>(true,.bool false (s.isIn a b))
def QSg:FC:=Kk (Kn QLd)
theorem QYn(s:Sp)(a:Int)(b:Int):KX (mkE prog QCZ) (hnd (mkE prog QCZ) 0) false f110 (Q8.enc ((s,a,b,()):Sp×Int×Int×Unit)) [] 0=QC.br (decide (a<=s.lo)) (QC.br (decide (s.lo<=s.hi)) (QC.leaf (AV.bool false (decide (s.hi<=b))) ([])) (QC.leaf (AV.bool true false) ([]))) (QC.leaf (AV.bool true false) ([])):=by kernel_rfl
theorem Qdn:QR prog 110 QSg:=by
 refine K0 QOI 0 func110 (by kernel_rfl) (by kernel_rfl) ?_
 rintro⟨s,a,b,⟨⟩⟩ hp;rw[QYn s a b];simp only[QLd,QC.den,AV.same,AV.sameL,and_true,true_and]at hp ⊢
 (repeat' (first|(refine aI ?_ ?_)|(intro _)))<;>simp_all [Sp.isIn]<;>omega
def QDu:Tab:=Qc QCZ 110 QSg
theorem QMI:Qe QDu:=QOI.add Qdn
def QJz:Edge×Unit->Bool×AV:=λ|(a,_)=>(true,.bool false a.ok)
def QP7:FC:=Kk (Kn QJz)
theorem QWN(a:Edge):KX (mkE prog QDu) (hnd (mkE prog QDu) 0) false f70 (Q8.enc ((a,()):Edge×Unit)) [] 0=QC.br (a.kind==(0:Int)) (QC.leaf (AV.bool true true) ([])) (QC.need (true) (QC.br (Qv a.kind (1:Int) (2:Int)) (QC.need (true) (QC.br (a.at_.isIn (0:Int) (10000:Int)) (QC.need (true) (QC.br (a.wide.isIn (1:Int) (3000:Int)) (QC.need (true) (QC.leaf (AV.bool false (a.deep.isIn (1:Int) (3000:Int))) ([]))) (QC.leaf (AV.bool true false) ([])))) (QC.leaf (AV.bool true false) ([])))) (QC.leaf (AV.bool true false) ([])))):=by kernel_rfl
theorem QY6:QR prog 70 QP7:=by
 refine K0 QMI 0 func70 (by kernel_rfl) (by kernel_rfl) ?_
 rintro⟨a,⟨⟩⟩ hp;rw[QWN a];simp only[QJz,QC.den,AV.same,AV.sameL,and_true,true_and]at hp ⊢
 have hw:Qv a.kind 1 2=((a.kind==1)||(a.kind==2)):=by
  unfold Qv;rw[Bool.eq_iff_iff];simp only[qdE,qbO,beq_iff_eq];omega
 simp only[hw];unfold Edge.ok;cases (a.kind==0)<;>cases ((a.kind==1)||(a.kind==2))<;>cases a.at_.isIn 0 10000<;>cases a.wide.isIn 1 3000<;>simp
def QCm:Tab:=Qc QDu 70 QP7
theorem QKJ:Qe QCm:=QMI.add QY6
def QO0:Qx×Unit->Bool×AV:=λ|(p,_)=>(true,.bool false p.ok)
def QOO:FC:=Kk (Kn QO0)
theorem Qcq(p:Qx):KX (mkE prog QCm) (hnd (mkE prog QCm) 0) false f69 (Q8.enc ((p,()):Qx×Unit)) [] 0=QC.need (true) (QC.br (Qv p.length (1:Int) (10000:Int)) (QC.need (true) (QC.br (Qv p.aK (0:Int) (500:Int)) (QC.need (true) (QC.br (Qv p.oK (0:Int) (500:Int)) (QC.need (true) (QC.leaf (AV.bool false (p.dK.isIn (0:Int) (100:Int))) ([]))) (QC.leaf (AV.bool true false) ([])))) (QC.leaf (AV.bool true false) ([])))) (QC.leaf (AV.bool true false) ([]))):=by kernel_rfl
theorem QWZ:QR prog 69 QOO:=by
 refine K0 QKJ 0 func69 (by kernel_rfl) (by kernel_rfl) ?_
 rintro⟨p,⟨⟩⟩ hp;rw[Qcq p];simp only[QO0,QC.den,AV.same,AV.sameL,and_true,true_and]at hp ⊢
 (repeat' (first|(refine aI ?_ ?_)|(intro _)))<;>simp_all [Qx.ok]
def QEO:Tab:=Qc QCm 69 QOO
theorem QJF:Qe QEO:=QKJ.add QWZ
def QMt:Int×Int×Int×Unit->Bool×AV:=λ|(n,(a,(b,_)))=>(true,.bool false (Qv n a b))
def QRX:FC:=Kk (Kn QMt)
theorem QWi(n:Int)(a:Int)(b:Int):KX (mkE prog QEO) (hnd (mkE prog QEO) 0) false f54 (Q8.enc ((n,a,b,()):Int×Int×Int×Unit)) [] 0=QC.br (decide (a<=n)) (QC.leaf (AV.bool false (decide (n<=b))) ([])) (QC.leaf (AV.bool true false) ([])):=by kernel_rfl
theorem QSt:QR prog 54 QRX:=by
 refine K0 QJF 0 func54 (by kernel_rfl) (by kernel_rfl) ?_
 rintro⟨n,a,b,⟨⟩⟩ hp;rw[QWi n a b];simp only[QMt,QC.den,AV.same,AV.sameL,and_true,true_and]at hp ⊢
 (repeat' (first|(refine aI ?_ ?_)|(intro _)))<;>simp_all [Qv]<;>omega
def Yp:Tab:=Qc QEO 54 QRX
theorem QBJ:Qe Yp:=QJF.add QSt
def bdQ(l:Rw QW)(i:Nat):Bool := !(l.get i).ok
variable (d:Puz)
def okR:Bool:=d.pK.ok&&(Qv (d.ps.n:Int) 1 9&&(Qv d.wide 1 9&&(Qv d.high 1 9&&((i64.wrap (d.wide*d.high)==(d.ps.n:Int))&&(QX (bdQ d.ps) d.ps.n 0).isNone))))
theorem QPx(h:1<=d.ps.n):(QX (VV d) d.ps.n 0).isNone=(d.pK.ok&&(QX (bdQ d.ps) d.ps.n 0).isNone):=by
 cases hp:d.pK.ok with
 | true=>
  have:VV d=bdQ d.ps:=by funext i;simp only[VV,bdQ,hp,Bool.true_and]
  rw[this,Bool.true_and]
 | false=>
  obtain⟨m,hm⟩:∃ m,d.ps.n=m+1:=⟨d.ps.n-1,by omega⟩
  rw[hm,QX];simp only[VV,hp,Bool.false_and,Bool.not_false];rfl
theorem QH9:okR d=d.ok:=by
 rw[Bool.eq_iff_iff];simp only[okR,Puz.ok,Puz.okN,qbA,Qv,qdE,beq_iff_eq];constructor
 .rintro⟨hp,hn,hw,hh,hm,ha⟩;have m1:d.wide*d.high<=9*9:=Int.mul_le_mul hw.2 hh.2 (by omega) (by omega)
  have m0:0<=d.wide*d.high:=Int.mul_nonneg (by omega) (by omega)
  have e:=hm;rw[w64 (by omega) (by omega)]at e
  have a1:=Int.mul_le_mul_of_nonneg_left (show 1<=d.high from hh.1) (show 0<=d.wide by omega)
  have a2:=Int.mul_le_mul_of_nonneg_right (show 1<=d.wide from hw.1) (show 0<=d.high by omega)
  refine⟨⟨hn,by omega,by omega,hm⟩,?_⟩
  rw[QPx _ (by omega),hp,ha];rfl
 .rintro⟨⟨hn,hw,hh,hm⟩,hs⟩;rw[QPx _ (by omega),qbA]at hs
  exact⟨hs.1,hn,by omega,by omega,hm,hs.2⟩
def QDz(k:Nat):JSt:=⟨60,[(1,.ptr 8 0 0),(3,.int false .i64 k)],[(8,.cells 0 28 (KR d))]++Ql.blk 0 d.ps,96⟩
def QJ2:Ex->List Nat
 | .normal=>[1,3]
 | .exit _=>[]
 | .ret=>[2]
noncomputable abbrev QPZ:List (Nat×Blk):=
  [(8,.cells 0 28 (waf d)),(0,.frz (List.append (waa) ((List.append (waG) ((List.append (wbk) ([.int .i64])))))) d.ps.n λi=>QA.enc (d.ps.get i))]
theorem QU2(k:Nat)(g:Nat->Value):exec (mkE prog Yp) (hnd (mkE prog Yp) 6) (QJ f25 0) (JSt.inst (QDz d k) g) (Q9 [] QJ2) = .br (decide ((k:Int)<(d.ps.n:Int))) (.need (decide ((0:Int)<=(k:Int)/\(k:Int)<(d.ps.n:Int))&&decide (d.ps.n<=d.ps.n)) (.need (decide (k<d.ps.n)) (.need (true) (.br (!(d.ps.get k).up.ok) (.leaf (.tup [.nili,.ptr 60 0 0,.bool true false]) ([])) (.need (decide ((0:Int)<=(k:Int)/\(k:Int)<(d.ps.n:Int))&&decide (d.ps.n<=d.ps.n)) (.need (decide (k<d.ps.n)) (.need (true) (.br (!(d.ps.get k).right.ok) (.leaf (.tup [.nili,.ptr 60 0 0,.bool true false]) ([])) (.need (decide ((0:Int)<=(k:Int)/\(k:Int)<(d.ps.n:Int))&&decide (d.ps.n<=d.ps.n)) (.need (decide (k<d.ps.n)) (.need (true) (.br (!(d.ps.get k).down.ok) (.leaf (.tup [.nili,.ptr 60 0 0,.bool true false]) ([])) (.need (decide ((0:Int)<=(k:Int)/\(k:Int)<(d.ps.n:Int))&&decide (d.ps.n<=d.ps.n)) (.need (decide (k<d.ps.n)) (.need (true) (.br (!(d.ps.get k).left.ok) (.leaf (.tup [.nili,.ptr 60 0 0,.bool true false]) ([])) (.leaf (.tup [.nilp,.ptr 60 0 0,.ptr 8 0 0,vi (i64.wrap ((k:Int)+1))]) ((QPZ d))))))))))))))))))) (.leaf (.tup [.ptr 0 0 0,.ptr 60 0 0]) ([])):=by kernel_rfl
def vZ:JSt:=⟨60,[(2,.bool false false)],[],96⟩
def QGZ:JSt:=⟨60,[],[],96⟩
theorem QcL :QG 8 [AV.bool true false] ([]) vZ=( some [false=false]):=by kernel_rfl
theorem QSq :QG 8 [AV.bool true false] ([]) vZ=( some [false=false]):=by kernel_rfl
theorem QT8 :QG 8 [AV.bool true false] ([]) vZ=( some [false=false]):=by kernel_rfl
theorem QaX :QG 8 [AV.bool true false] ([]) vZ=( some [false=false]):=by kernel_rfl
theorem Qb8(k k':Nat):QG 8 [.ptr 8 0 0,vi (i64.wrap ((k:Int)+1))] ((QPZ d)) (QDz d k')=(some ([0=0,0=0,i64.wrap ((k:Int)+1)=(k':Int)]++wab d++([cO=cO]++wae d))):=by kernel_rfl
theorem QYL :QG 8 [] ([]) QGZ=( some []):=by kernel_rfl
def QLg(k:Nat)(e:Ex)(J:JSt):Prop:=(e = .ret/\(QX (bdQ d.ps) (d.ps.n-k) k).isNone=false/\J=vZ)∨(e = .exit 0/\(QX (bdQ d.ps) (d.ps.n-k) k).isNone=true/\J=QGZ)
theorem QWJ(hl:d.ps.n<=1000):Ji (QDz d) (λk=>k<=d.ps.n) (λk=>d.ps.n-k) (QLg d) 8 QJ2 [] (mkE prog Yp) (λ_=>hnd (mkE prog Yp) 6) (QJ f25 0):=by
 refine⟨λk g hk=>QTd (QU2 d k g) ?_⟩;refine QF ?_ ?_<;>intro h
 .have h:k<d.ps.n:=by have:=qdt h;omega
  obtain⟨m,hm⟩:∃ m,d.ps.n-k=m+1:=⟨d.ps.n-k-1,by omega⟩
  have hm':d.ps.n-(k+1)=m:=by omega
  have hA:(decide ((0:Int)<=(k:Int)/\(k:Int)<(d.ps.n:Int))&&decide (d.ps.n<=d.ps.n))=true:=by simp;omega
  have hB:decide (k<d.ps.n)=true:=by simp;omega
  have bad:bdQ d.ps k=true->QX (bdQ d.ps) (d.ps.n-k) k=some k:=λq=>by rw[hm,QX,q]
  have go:bdQ d.ps k=false->QX (bdQ d.ps) (d.ps.n-k) k=QX (bdQ d.ps) (d.ps.n-(k+1)) (k+1):=λq=>by rw[hm,hm',QX,q]
  have no:bdQ d.ps k=true->(QX (bdQ d.ps) (d.ps.n-k) k).isNone=false:=λq=>by rw[bad q];rfl
  refine QH hA (QH hB (QH rfl (QF (λh0=>?_) (λh0=>?_))))
  .have q:bdQ d.ps k=true:=by simp only[Bool.not_eq_true']at h0;simp only[bdQ,QW.ok,h0,Bool.false_and,Bool.not_false]
   exact⟨_,.inl ⟨rfl,no q,rfl⟩,rfl,rfl,_,QcL,⟨rfl,trivial⟩⟩
  refine QH hA (QH hB (QH rfl (QF (λh1=>?_) (λh1=>?_))))
  .have q:bdQ d.ps k=true:=by simp only[Bool.not_eq_true']at h1;simp only[bdQ,QW.ok,h1,Bool.false_and,Bool.and_false,Bool.not_false]
   exact⟨_,.inl ⟨rfl,no q,rfl⟩,rfl,rfl,_,QSq,⟨rfl,trivial⟩⟩
  refine QH hA (QH hB (QH rfl (QF (λh2=>?_) (λh2=>?_))))
  .have q:bdQ d.ps k=true:=by simp only[Bool.not_eq_true']at h2;simp only[bdQ,QW.ok,h2,Bool.false_and,Bool.and_false,Bool.not_false]
   exact⟨_,.inl ⟨rfl,no q,rfl⟩,rfl,rfl,_,QT8,⟨rfl,trivial⟩⟩
  refine QH hA (QH hB (QH rfl (QF (λh3=>?_) (λh3=>?_))))
  .have q:bdQ d.ps k=true:=by simp only[Bool.not_eq_true']at h3;simp only[bdQ,QW.ok,h3,Bool.and_false,Bool.not_false]
   exact⟨_,.inl ⟨rfl,no q,rfl⟩,rfl,rfl,_,QaX,⟨rfl,trivial⟩⟩
  have q:bdQ d.ps k=false:=by simp only[Bool.not_eq_false']at h0 h1 h2 h3;simp only[bdQ,QW.ok,h0,h1,h2,h3,Bool.and_self,Bool.not_true]
  have hw:i64.wrap ((k:Int)+1)=((k+1:Nat):Int):=(w64 (by omega) (by omega)).trans (by omega)
  refine⟨k+1,h,by show d.ps.n-(k+1)<d.ps.n-k;omega,λe J h=>by unfold QLg at h ⊢;rw[go q];exact h,rfl,rfl,_,Qb8 d k (k+1),?_⟩
  repeat' first|exact tv|exact qRr|exact hw|refine aI ?_ ?_
 .have h:d.ps.n<=k:=by have:=qdf h;omega
  have hf:QX (bdQ d.ps) (d.ps.n-k) k=none:=by rw[show d.ps.n-k=0 by omega];rfl
  exact⟨_,.inr ⟨rfl,by rw[hf];rfl,rfl⟩,rfl,rfl,_,QYL,trivial⟩
def QaP:List (Prop×Ex×JSt):=[((QX (bdQ d.ps) d.ps.n 0).isNone=false,.ret,vZ),((QX (bdQ d.ps) d.ps.n 0).isNone=true,.exit 0,QGZ)]
abbrev QDV(P:Program)(d:Puz):Hnd:={ hnd (mkE P Yp) 1 with loop:=λ_=>KE 8 [] (QDz d (0:Nat)) (QaP d) }
theorem QUF(hl:d.ps.n<=1000)(G:Ctx)(hrd:G.rd=none)(hG:G.n=8):Qu (mkE prog Yp) G (QDV prog d) (Qp f25):=by
 refine KM (body:=QJ f25 0) (QQ QBJ) hrd (by kernel_rfl) ?_
 refine Vn (n0:=8) (QQ QBJ) (by omega) (λs hs=>Q1 (QQ QBJ) 6 G _ hrd) (λs hs=>(by decide:8<=96)) ?_ (QWJ d hl) (s0:=0) (Nat.zero_le _) ?_
 .rintro s e J (⟨_,_,rfl⟩|⟨_,_,rfl⟩)<;>exact(by decide:8<=96)
 .rintro e J (⟨rfl,h,rfl⟩|⟨rfl,h,rfl⟩)
  .exact⟨_,qmc,h,rfl,rfl⟩
  .exact⟨_,List.mem_cons_of_mem _ qmc,h,rfl,rfl⟩
def j5:WF (Puz×Unit):=λ|(d,_)=>(decide (d.ps.n<=1000),.bool false d.ok,[])
def QME:FC:=wFC j5
theorem Qbm :Ku (mkE prog Yp) (QDV prog d) f25 (Qi.vals 0 ((d,()):Puz×Unit)) (Qi.blks 0 ((d,()):Puz×Unit)) 8 = .need (true) (.br (!d.pK.ok) (.leaf (.bool true false) ([])) (.need (true) (.br (!Qv (d.ps.n:Int) (1:Int) (9:Int)) (.leaf (.bool true false) ([])) (.need (true) (.br (!Qv d.wide (1:Int) (9:Int)) (.leaf (.bool true false) ([])) (.need (true) (.br (!Qv d.high (1:Int) (9:Int)) (.leaf (.bool true false) ([])) (.br (i64.wrap (d.wide*d.high) != (d.ps.n:Int)) (.leaf (.bool true false) ([])) (.ak ([0=0,0=0,(0:Int)=0]++wab d++([cO=cO]++wae d)) (.both (.asm ((QX (bdQ d.ps) d.ps.n 0).isNone=false) (.all (λ(g0:Nat->Value)=>.leaf (.bool false false) ([])))) (.asm ((QX (bdQ d.ps) d.ps.n 0).isNone=true) (.all (λ(g1:Nat->Value)=>.leaf (.bool true true) ([])))))))))))))):=by kernel_rfl
theorem QcI:Jw (mkE prog Yp) (Qp f25) 8 j5 (λx_=>(QDV prog x_.1)):=by
 refine⟨?_⟩;rintro⟨d,⟨⟩⟩ hp G h1 h2;exact QUF d (qdt hp) G h1 h2
theorem QZL:Jx (mkE prog Yp) f25 8 j5 (λx_=>(QDV prog x_.1)):=by
 refine⟨?_⟩;rintro⟨d,⟨⟩⟩ hp;refine⟨⟨rfl,by simp[j5],rfl⟩,⟨?_⟩⟩
 rw[Qbm d];simp only[j5]at hp;have no:okR d=false->(QC.leaf (AV.bool true false) []).den (GR 8 (j5 (d,())).2.1 (j5 (d,())).2.2):=λh=>Kw (show false=d.ok by rw[<-QH9,h]) rfl
 refine QH rfl (QF (λh1=>no ?_) (λh1=>QH rfl (QF (λh2=>no ?_) (λh2=>QH rfl (QF (λh3=>no ?_) (λh3=>QH rfl (QF (λh4=>no ?_) (λh4=>QF (λh5=>no ?_) (λh5=>?_)))))))))
 .simp only[Bool.not_eq_true']at h1;simp only[okR,h1,Bool.false_and]
 .simp only[Bool.not_eq_true']at h2;simp only[okR,h2,Bool.false_and,Bool.and_false]
 .simp only[Bool.not_eq_true']at h3;simp only[okR,h3,Bool.false_and,Bool.and_false]
 .simp only[Bool.not_eq_true']at h4;simp only[okR,h4,Bool.false_and,Bool.and_false]
 .have h5:(i64.wrap (d.wide*d.high)==(d.ps.n:Int))=false:=by simpa using h5
  simp only[okR,h5,Bool.false_and,Bool.and_false]
 .have h5:(i64.wrap (d.wide*d.high)==(d.ps.n:Int))=true:=by simpa using h5
  simp only[Bool.not_eq_false']at h1 h2 h3 h4
  repeat' first|refine Qt (show _=_ by with_reducible rfl) ?_|refine Qt (show _<=_ from qlr _) ?_|refine Qt (show QB _ _ _ _ from qRr) ?_
  refine Kl (Qj λh=>Qk λg=>?_) (Qj λh=>Qk λg=>?_)
  .exact Kw (show false=d.ok by rw[<-QH9];simp only[okR,h,Bool.and_false]) rfl
  .exact Kw (show true=d.ok by rw[<-QH9];simp only[okR,h1,h2,h3,h4,h5,h,Bool.and_self]) rfl
theorem QXp:QR prog 25 QME:=
 VL (QQ QBJ) func25 (by kernel_rfl) (by kernel_rfl) (by decide) QcI QZL
def Wh:Tab:=Qc Yp 25 QME
theorem QGi:Qe Wh:=QBJ.add QXp
def vE(c:Int):Bool:=decide ((d.ps.n:Int)>14)||(d.ok&&decide ((d.ps.n:Int)>c))
def qp:WF (Puz×Int×Unit):=λ|(d,(c,_))=>(true,.bool false (vE d c),[])
def QRe:FC:=wFC qp
theorem QUi(c:Int):Ku (mkE prog Wh) (hnd (mkE prog Wh) 1) f15 (Qi.vals 0 ((d,c,()):Puz×Int×Unit)) (Qi.blks 0 ((d,c,()):Puz×Int×Unit)) 8=QC.br (decide ((↑d.ps.n:Int)>(14:Int))) (QC.leaf (AV.bool true true) ([])) (QC.need (decide (d.ps.n<=d.ps.n)&&true&&decide (d.ps.n<=(1000:Nat))) (QC.br (d.ok) (QC.leaf (AV.bool false (decide ((↑d.ps.n:Int)>c))) ([])) (QC.leaf (AV.bool true false) ([])))):=by kernel_rfl
theorem Qce:Jw (mkE prog Wh) (Qp f15) 8 qp (λx_=>(hnd (mkE prog Wh) 1)):=by
 refine⟨?_⟩;rintro⟨d,⟨c,⟨⟩⟩⟩ hp G h1 h2;exact Q1 (QQ QGi) 1 G _ h1
theorem Qel:Jx (mkE prog Wh) f15 8 qp (λx_=>(hnd (mkE prog Wh) 1)):=by
 refine⟨?_⟩;rintro⟨d,⟨c,⟨⟩⟩⟩ hp;refine⟨⟨rfl,by simp[qp],rfl⟩,⟨?_⟩⟩
 rw[QUi d c];simp only[qp]at hp;have end_:∀{z:Bool} {b:Bool},vE d c=b->(QC.leaf (AV.bool z b) []).den (GR 8 (qp (d,c,())).2.1 (qp (d,c,())).2.2):=λh=>Kw h.symm rfl;refine QF ?_ ?_<;>intro b0
 .exact end_ (by rw[vE,b0];rfl)
 refine QH ?_ ?_;rotate_left;refine QF ?_ ?_<;>intro b1
 .have b1:d.ok=true:=b1;exact end_ (by rw[vE,b0,b1];rfl)
 .have b1:d.ok=false:=b1;exact end_ (by rw[vE,b0,b1];rfl)
 all_goals have:=qdf b0;simp;omega
theorem QYu:QR prog 15 QRe:=
 VL (QQ QGi) func15 (by kernel_rfl) (by kernel_rfl) (by decide) Qce Qel
def QJZ:Tab:=Qc Wh 15 QRe
theorem Qab:Qe QJZ:=QGi.add QYu
