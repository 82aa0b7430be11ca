/- - -/
import Derived.Test.YtekbmehgcofnkaaGreatVy
open Go.Proofs.Tryz
open Go.IntKind (i64)
set_option maxRecDepth 100000
namespace Go.Proofs.YtekbmehgcofnkaaGreat
open Go.SX
def QOV:Int×Int×Int×Unit->Bool×AV:=λ|(n,(a,(b,_)))=>(true,.bool false (Q1 n a b))
def QPT:FC:=Kj (Ko QOV)
theorem Qdp(n:Int)(a:Int)(b:Int):KY (mkE prog KW) (hnd (mkE prog KW) 0) false f109 (KL.enc ((n,a,b,()):Int×Int×Int×Unit)) [] 0=QC.br (decide (a<=n)) (QC.leaf (AV.bool false (decide (n<=b))) ([])) (QC.leaf (AV.bool true false) ([])):=by kernel_rfl
theorem QY8:QS prog 109 QPT:=by
 refine K2 Jf 0 func109 (by kernel_rfl) (by kernel_rfl) ?_
 rintro⟨n,a,b,⟨⟩⟩ hp;rw[Qdp n a b];simp only[QOV,QC.den,AV.same,AV.sameL,and_true,true_and]at hp ⊢
 (repeat' (first|(refine aI ?_ ?_)|(intro _)))<;>simp_all [Q1]<;>omega
def QGJ:Tab:=Qc KW 109 QPT
theorem QV9:Qf QGJ:=Jf.add QY8
def QLa:Sp×Int×Int×Unit->Bool×AV:=λ|(s,(a,(b,_)))=>(true,.bool false (s.isIn a b))
def QMm:FC:=Kj (Ko QLa)
theorem QiO(s:Sp)(a:Int)(b:Int):KY (mkE prog QGJ) (hnd (mkE prog QGJ) 0) false f110 (KL.enc ((s,a,b,()):Sp×Int×Int×Unit)) [] 0=QC.br (decide (a<=s.lo)) (QC.br (decide (s.lo<=s.hi)) (QC.leaf (AV.bool false (decide (s.hi<=b))) ([])) (QC.leaf (AV.bool true false) ([]))) (QC.leaf (AV.bool true false) ([])):=by kernel_rfl
theorem QZr:QS prog 110 QMm:=by
 refine K2 QV9 0 func110 (by kernel_rfl) (by kernel_rfl) ?_
 rintro⟨s,a,b,⟨⟩⟩ hp;rw[QiO s a b];simp only[QLa,QC.den,AV.same,AV.sameL,and_true,true_and]at hp ⊢
 (repeat' (first|(refine aI ?_ ?_)|(intro _)))<;>simp_all [Sp.isIn]<;>omega
def QC5:Tab:=Qc QGJ 110 QMm
theorem QMe:Qf QC5:=QV9.add QZr
def QVE:Edge×Unit->Bool×AV:=λ|(a,_)=>(true,.bool false a.ok)
def QNG:FC:=Kj (Ko QVE)
theorem Qdi(a:Edge):KY (mkE prog QC5) (hnd (mkE prog QC5) 0) false f70 (KL.enc ((a,()):Edge×Unit)) [] 0=QC.br (a.kind==(0:Int)) (QC.leaf (AV.bool true true) ([])) (QC.need (true) (QC.br (Q1 a.kind (1:Int) (2:Int)) (QC.need (true) (QC.br (a.at_.isIn (0:Int) (10000:Int)) (QC.need (true) (QC.br (a.wide.isIn (1:Int) (3000:Int)) (QC.need (true) (QC.leaf (AV.bool false (a.deep.isIn (1:Int) (3000:Int))) ([]))) (QC.leaf (AV.bool true false) ([])))) (QC.leaf (AV.bool true false) ([])))) (QC.leaf (AV.bool true false) ([])))):=by kernel_rfl
theorem QXA:QS prog 70 QNG:=by
 refine K2 QMe 0 func70 (by kernel_rfl) (by kernel_rfl) ?_
 rintro⟨a,⟨⟩⟩ hp;rw[Qdi a];simp only[QVE,QC.den,AV.same,AV.sameL,and_true,true_and]at hp ⊢
 have hw:Q1 a.kind 1 2=((a.kind==1)||(a.kind==2)):=by
  unfold Q1;rw[Bool.eq_iff_iff];simp only[qdE,qbO,beq_iff_eq];omega
 simp only[hw];unfold Edge.ok;cases (a.kind==0)<;>cases ((a.kind==1)||(a.kind==2))<;>cases a.at_.isIn 0 10000<;>cases a.wide.isIn 1 3000<;>simp
def QEX:Tab:=Qc QC5 70 QNG
theorem QWL:Qf QEX:=QMe.add QXA
def QUx:Qx×Unit->Bool×AV:=λ|(p,_)=>(true,.bool false p.ok)
def QOT:FC:=Kj (Ko QUx)
theorem QgY(p:Qx):KY (mkE prog QEX) (hnd (mkE prog QEX) 0) false f69 (KL.enc ((p,()):Qx×Unit)) [] 0=QC.need (true) (QC.br (Q1 p.length (1:Int) (10000:Int)) (QC.need (true) (QC.br (Q1 p.aK (0:Int) (500:Int)) (QC.need (true) (QC.br (Q1 p.oK (0:Int) (500:Int)) (QC.need (true) (QC.leaf (AV.bool false (p.dK.isIn (0:Int) (100:Int))) ([]))) (QC.leaf (AV.bool true false) ([])))) (QC.leaf (AV.bool true false) ([])))) (QC.leaf (AV.bool true false) ([]))):=by kernel_rfl
theorem QjY:QS prog 69 QOT:=by
 refine K2 QWL 0 func69 (by kernel_rfl) (by kernel_rfl) ?_
 rintro⟨p,⟨⟩⟩ hp;rw[QgY p];simp only[QUx,QC.den,AV.same,AV.sameL,and_true,true_and]at hp ⊢
 (repeat' (first|(refine aI ?_ ?_)|(intro _)))<;>simp_all [Qx.ok]
def QDv:Tab:=Qc QEX 69 QOT
theorem QNh:Qf QDv:=QWL.add QjY
def QSP:Int×Int×Int×Unit->Bool×AV:=λ|(n,(a,(b,_)))=>(true,.bool false (Q1 n a b))
def QPs:FC:=Kj (Ko QSP)
theorem QlB(n:Int)(a:Int)(b:Int):KY (mkE prog QDv) (hnd (mkE prog QDv) 0) false f54 (KL.enc ((n,a,b,()):Int×Int×Int×Unit)) [] 0=QC.br (decide (a<=n)) (QC.leaf (AV.bool false (decide (n<=b))) ([])) (QC.leaf (AV.bool true false) ([])):=by kernel_rfl
theorem Qei:QS prog 54 QPs:=by
 refine K2 QNh 0 func54 (by kernel_rfl) (by kernel_rfl) ?_
 rintro⟨n,a,b,⟨⟩⟩ hp;rw[QlB n a b];simp only[QSP,QC.den,AV.same,AV.sameL,and_true,true_and]at hp ⊢
 (repeat' (first|(refine aI ?_ ?_)|(intro _)))<;>simp_all [Q1]<;>omega
def ZC:Tab:=Qc QDv 54 QPs
theorem QC0:Qf ZC:=QNh.add Qei
def bdQ(l:Rw Qb)(i:Nat):Bool := !(l.get i).ok
variable (d:Puz)
def okR:Bool:=d.pK.ok&&(Q1 (d.ps.n:Int) 1 9&&(Q1 d.wide 1 9&&(Q1 d.high 1 9&&((i64.wrap (d.wide*d.high)==(d.ps.n:Int))&&(QR (bdQ d.ps) d.ps.n 0).isNone))))
theorem QL7(h:1<=d.ps.n):(QR (XB d) d.ps.n 0).isNone=(d.pK.ok&&(QR (bdQ d.ps) d.ps.n 0).isNone):=by
 cases hp:d.pK.ok with
 | true=>
  have:XB d=bdQ d.ps:=by funext i;simp only[XB,bdQ,hp,Bool.true_and]
  rw[this,Bool.true_and]
 | false=>
  obtain⟨m,hm⟩:∃ m,d.ps.n=m+1:=⟨d.ps.n-1,by omega⟩
  rw[hm,QR];simp only[XB,hp,Bool.false_and,Bool.not_false];rfl
theorem QHC:okR d=d.ok:=by
 rw[Bool.eq_iff_iff];simp only[okR,Puz.ok,Puz.okN,qbA,Q1,qdE,beq_iff_eq];constructor
 .rintro⟨hp,hn,hw,hh,hm,ha⟩;have m1:d.wide*d.high<=9*9:=Int.mul_le_mul hw.2 hh.2 (by omega) (by omega)
  have m0:0<=d.wide*d.high:=Int.mul_nonneg (by omega) (by omega)
  have e:=hm;rw[w64 (by omega) (by omega)]at e
  have a1:=Int.mul_le_mul_of_nonneg_left (show 1<=d.high from hh.1) (show 0<=d.wide by omega)
  have a2:=Int.mul_le_mul_of_nonneg_right (show 1<=d.wide from hw.1) (show 0<=d.high by omega)
  refine⟨⟨hn,by omega,by omega,hm⟩,?_⟩
  rw[QL7 _ (by omega),hp,ha];rfl
 .rintro⟨⟨hn,hw,hh,hm⟩,hs⟩;rw[QL7 _ (by omega),qbA]at hs
  exact⟨hs.1,hn,by omega,by omega,hm,hs.2⟩
def QF0(k:Nat):JSt:=⟨60,[(1,.ptr 8 0 0),(3,.int false .i64 k)],[(8,.cells 0 28 (KZ d))]++Qg.blk 0 d.ps,96⟩
def QS1:Ex->List Nat
 | .normal=>[1,3]
 | .exit _=>[]
 | .ret=>[2]
noncomputable abbrev QSU:List (Nat×Blk):=[(8,.cells 0 28 (waf d)),(0,.frz (wae) d.ps.n λi=>QA.enc (d.ps.get i))]
theorem Qjo(k:Nat)(g:Nat->Value):exec (mkE prog ZC) (hnd (mkE prog ZC) 6) (QI f25 0) (JSt.inst (QF0 d k) g) (Q5 [] QS1) = .br (decide ((k:Int)<(d.ps.n:Int))) (.need (decide ((0:Int)<=(k:Int)/\(k:Int)<(d.ps.n:Int))&&decide (d.ps.n<=d.ps.n)) (.need (decide (k<d.ps.n)) (.need (true) (.br (!(d.ps.get k).up.ok) (.leaf (.tup [.nili,.ptr 60 0 0,.bool true false]) ([])) (.need (decide ((0:Int)<=(k:Int)/\(k:Int)<(d.ps.n:Int))&&decide (d.ps.n<=d.ps.n)) (.need (decide (k<d.ps.n)) (.need (true) (.br (!(d.ps.get k).right.ok) (.leaf (.tup [.nili,.ptr 60 0 0,.bool true false]) ([])) (.need (decide ((0:Int)<=(k:Int)/\(k:Int)<(d.ps.n:Int))&&decide (d.ps.n<=d.ps.n)) (.need (decide (k<d.ps.n)) (.need (true) (.br (!(d.ps.get k).down.ok) (.leaf (.tup [.nili,.ptr 60 0 0,.bool true false]) ([])) (.need (decide ((0:Int)<=(k:Int)/\(k:Int)<(d.ps.n:Int))&&decide (d.ps.n<=d.ps.n)) (.need (decide (k<d.ps.n)) (.need (true) (.br (!(d.ps.get k).left.ok) (.leaf (.tup [.nili,.ptr 60 0 0,.bool true false]) ([])) (.leaf (.tup [.nilp,.ptr 60 0 0,.ptr 8 0 0,vi (i64.wrap ((k:Int)+1))]) ((QSU d))))))))))))))))))) (.leaf (.tup [.ptr 0 0 0,.ptr 60 0 0]) ([])):=by kernel_rfl
def Hp:JSt:=⟨60,[(2,.bool false false)],[],96⟩
def QG4:JSt:=⟨60,[],[],96⟩
theorem Qes :QF 8 [AV.bool true false] ([]) Hp=( some [false=false]):=by kernel_rfl
theorem Qi5 :QF 8 [AV.bool true false] ([]) Hp=( some [false=false]):=by kernel_rfl
theorem Qft :QF 8 [AV.bool true false] ([]) Hp=( some [false=false]):=by kernel_rfl
theorem Qcj :QF 8 [AV.bool true false] ([]) Hp=( some [false=false]):=by kernel_rfl
theorem QWz(k k':Nat):QF 8 [.ptr 8 0 0,vi (i64.wrap ((k:Int)+1))] ((QSU d)) (QF0 d k')=(some ([0=0,0=0,i64.wrap ((k:Int)+1)=(k':Int)]++waa d++([cO=cO]++wad d))):=by kernel_rfl
theorem QeH :QF 8 [] ([]) QG4=( some []):=by kernel_rfl
def QNy(k:Nat)(e:Ex)(J:JSt):Prop:=(e = .ret/\(QR (bdQ d.ps) (d.ps.n-k) k).isNone=false/\J=Hp)∨(e = .exit 0/\(QR (bdQ d.ps) (d.ps.n-k) k).isNone=true/\J=QG4)
theorem QdQ(hl:d.ps.n<=1000):VH (QF0 d) (λk=>k<=d.ps.n) (λk=>d.ps.n-k) (QNy d) 8 QS1 [] (mkE prog ZC) (λ_=>hnd (mkE prog ZC) 6) (QI f25 0):=by
 refine⟨λk g hk=>Qg7 (Qjo d k g) ?_⟩;refine QE ?_ ?_<;>intro h
 .have h:k<d.ps.n:=by have:=qdt h;omega
  obtain⟨m,hm⟩:∃ m,d.ps.n-k=m+1:=⟨d.ps.n-k-1,by omega⟩
  have hm':d.ps.n-(k+1)=m:=by omega
  have hA:(decide ((0:Int)<=(k:Int)/\(k:Int)<(d.ps.n:Int))&&decide (d.ps.n<=d.ps.n))=true:=by simp;omega
  have hB:decide (k<d.ps.n)=true:=by simp;omega
  have bad:bdQ d.ps k=true->QR (bdQ d.ps) (d.ps.n-k) k=some k:=λq=>by rw[hm,QR,q]
  have go:bdQ d.ps k=false->QR (bdQ d.ps) (d.ps.n-k) k=QR (bdQ d.ps) (d.ps.n-(k+1)) (k+1):=λq=>by rw[hm,hm',QR,q]
  have no:bdQ d.ps k=true->(QR (bdQ d.ps) (d.ps.n-k) k).isNone=false:=λq=>by rw[bad q];rfl
  refine QG hA (QG hB (QG rfl (QE (λh0=>?_) (λh0=>?_))))
  .have q:bdQ d.ps k=true:=by simp only[Bool.not_eq_true']at h0;simp only[bdQ,Qb.ok,h0,Bool.false_and,Bool.not_false]
   exact⟨_,.inl ⟨rfl,no q,rfl⟩,rfl,rfl,_,Qes,⟨rfl,trivial⟩⟩
  refine QG hA (QG hB (QG rfl (QE (λh1=>?_) (λh1=>?_))))
  .have q:bdQ d.ps k=true:=by simp only[Bool.not_eq_true']at h1;simp only[bdQ,Qb.ok,h1,Bool.false_and,Bool.and_false,Bool.not_false]
   exact⟨_,.inl ⟨rfl,no q,rfl⟩,rfl,rfl,_,Qi5,⟨rfl,trivial⟩⟩
  refine QG hA (QG hB (QG rfl (QE (λh2=>?_) (λh2=>?_))))
  .have q:bdQ d.ps k=true:=by simp only[Bool.not_eq_true']at h2;simp only[bdQ,Qb.ok,h2,Bool.false_and,Bool.and_false,Bool.not_false]
   exact⟨_,.inl ⟨rfl,no q,rfl⟩,rfl,rfl,_,Qft,⟨rfl,trivial⟩⟩
  refine QG hA (QG hB (QG rfl (QE (λh3=>?_) (λh3=>?_))))
  .have q:bdQ d.ps k=true:=by simp only[Bool.not_eq_true']at h3;simp only[bdQ,Qb.ok,h3,Bool.and_false,Bool.not_false]
   exact⟨_,.inl ⟨rfl,no q,rfl⟩,rfl,rfl,_,Qcj,⟨rfl,trivial⟩⟩
  have q:bdQ d.ps k=false:=by simp only[Bool.not_eq_false']at h0 h1 h2 h3;simp only[bdQ,Qb.ok,h0,h1,h2,h3,Bool.and_self,Bool.not_true]
  have hw:i64.wrap ((k:Int)+1)=((k+1:Nat):Int):=(w64 (by omega) (by omega)).trans (by omega)
  refine⟨k+1,h,by show d.ps.n-(k+1)<d.ps.n-k;omega,λe J h=>by unfold QNy at h ⊢;rw[go q];exact h,rfl,rfl,_,QWz d k (k+1),?_⟩
  repeat' first|exact tv|exact qRr|exact hw|refine aI ?_ ?_
 .have h:d.ps.n<=k:=by have:=qdf h;omega
  have hf:QR (bdQ d.ps) (d.ps.n-k) k=none:=by rw[show d.ps.n-k=0 by omega];rfl
  exact⟨_,.inr ⟨rfl,by rw[hf];rfl,rfl⟩,rfl,rfl,_,QeH,trivial⟩
def QXp:List (Prop×Ex×JSt):=[((QR (bdQ d.ps) d.ps.n 0).isNone=false,.ret,Hp),((QR (bdQ d.ps) d.ps.n 0).isNone=true,.exit 0,QG4)]
abbrev QFw(P:Program)(d:Puz):Hnd:={ hnd (mkE P ZC) 1 with loop:=λ_=>KF 8 [] (QF0 d (0:Nat)) (QXp d) }
theorem Qjv(hl:d.ps.n<=1000)(G:Ctx)(hrd:G.rd=none)(hG:G.n=8):Q0 (mkE prog ZC) G (QFw prog d) (Qn f25):=by
 refine KO (body:=QI f25 0) (QP QC0) hrd (by kernel_rfl) ?_
 refine XP (n0:=8) (QP QC0) (by omega) (λs hs=>Qz (QP QC0) 6 G _ hrd) (λs hs=>(by decide:8<=96)) ?_ (QdQ d hl) (s0:=0) (Nat.zero_le _) ?_
 .rintro s e J (⟨_,_,rfl⟩|⟨_,_,rfl⟩)<;>exact(by decide:8<=96)
 .rintro e J (⟨rfl,h,rfl⟩|⟨rfl,h,rfl⟩)
  .exact⟨_,qmc,h,rfl,rfl⟩
  .exact⟨_,List.mem_cons_of_mem _ qmc,h,rfl,rfl⟩
def za:WF (Puz×Unit):=λ|(d,_)=>(decide (d.ps.n<=1000),.bool false d.ok,[])
def QUk:FC:=wFC za
theorem QjE :Kg (mkE prog ZC) (QFw prog d) f25 (QZ.vals 0 ((d,()):Puz×Unit)) (QZ.blks 0 ((d,()):Puz×Unit)) 8 = .need (true) (.br (!d.pK.ok) (.leaf (.bool true false) ([])) (.need (true) (.br (!Q1 (d.ps.n:Int) (1:Int) (9:Int)) (.leaf (.bool true false) ([])) (.need (true) (.br (!Q1 d.wide (1:Int) (9:Int)) (.leaf (.bool true false) ([])) (.need (true) (.br (!Q1 d.high (1:Int) (9:Int)) (.leaf (.bool true false) ([])) (.br (i64.wrap (d.wide*d.high) != (d.ps.n:Int)) (.leaf (.bool true false) ([])) (.ak ([0=0,0=0,(0:Int)=0]++waa d++([cO=cO]++wad d)) (.both (.asm ((QR (bdQ d.ps) d.ps.n 0).isNone=false) (.all (λ(g0:Nat->Value)=>.leaf (.bool false false) ([])))) (.asm ((QR (bdQ d.ps) d.ps.n 0).isNone=true) (.all (λ(g1:Nat->Value)=>.leaf (.bool true true) ([])))))))))))))):=by kernel_rfl
theorem QlL:JL (mkE prog ZC) (Qn f25) 8 za (λx_=>(QFw prog x_.1)):=by
 refine⟨?_⟩;rintro⟨d,⟨⟩⟩ hp G h1 h2;exact Qjv d (qdt hp) G h1 h2
theorem Qer:JH (mkE prog ZC) f25 8 za (λx_=>(QFw prog x_.1)):=by
 refine⟨?_⟩;rintro⟨d,⟨⟩⟩ hp;refine⟨⟨rfl,by simp[za],rfl⟩,⟨?_⟩⟩
 rw[QjE d];simp only[za]at hp;have no:okR d=false->(QC.leaf (AV.bool true false) []).den (ZY 8 (za (d,())).2.1 (za (d,())).2.2):=λh=>KN (show false=d.ok by rw[<-QHC,h]) rfl
 refine QG rfl (QE (λh1=>no ?_) (λh1=>QG rfl (QE (λh2=>no ?_) (λh2=>QG rfl (QE (λh3=>no ?_) (λh3=>QG rfl (QE (λh4=>no ?_) (λh4=>QE (λh5=>no ?_) (λh5=>?_)))))))))
 .simp only[Bool.not_eq_true']at h1;simp only[okR,h1,Bool.false_and]
 .simp only[Bool.not_eq_true']at h2;simp only[okR,h2,Bool.false_and,Bool.and_false]
 .simp only[Bool.not_eq_true']at h3;simp only[okR,h3,Bool.false_and,Bool.and_false]
 .simp only[Bool.not_eq_true']at h4;simp only[okR,h4,Bool.false_and,Bool.and_false]
 .have h5:(i64.wrap (d.wide*d.high)==(d.ps.n:Int))=false:=by simpa using h5
  simp only[okR,h5,Bool.false_and,Bool.and_false]
 .have h5:(i64.wrap (d.wide*d.high)==(d.ps.n:Int))=true:=by simpa using h5
  simp only[Bool.not_eq_false']at h1 h2 h3 h4
  repeat' first|refine Qt (show _=_ by with_reducible rfl) ?_|refine Qt (show _<=_ from qlr _) ?_|refine Qt (show QB _ _ _ _ from qRr) ?_
  refine Kq (Qk λh=>Ql λg=>?_) (Qk λh=>Ql λg=>?_)
  .exact KN (show false=d.ok by rw[<-QHC];simp only[okR,h,Bool.and_false]) rfl
  .exact KN (show true=d.ok by rw[<-QHC];simp only[okR,h1,h2,h3,h4,h5,h,Bool.and_self]) rfl
theorem QbM:QS prog 25 QUk:=
 JY (QP QC0) func25 (by kernel_rfl) (by kernel_rfl) (by decide) QlL Qer
def K7:Tab:=Qc ZC 25 QUk
theorem XW:Qf K7:=QC0.add QbM
def KR(c:Int):Bool:=decide ((d.ps.n:Int)>14)||(d.ok&&decide ((d.ps.n:Int)>c))
def j6:WF (Puz×Int×Unit):=λ|(d,(c,_))=>(true,.bool false (KR d c),[])
def QJO:FC:=wFC j6
theorem Qiu(c:Int):Kg (mkE prog K7) (hnd (mkE prog K7) 1) f15 (QZ.vals 0 ((d,c,()):Puz×Int×Unit)) (QZ.blks 0 ((d,c,()):Puz×Int×Unit)) 8=QC.br (decide ((↑d.ps.n:Int)>(14:Int))) (QC.leaf (AV.bool true true) ([])) (QC.need (decide (d.ps.n<=d.ps.n)&&true&&decide (d.ps.n<=(1000:Nat))) (QC.br (d.ok) (QC.leaf (AV.bool false (decide ((↑d.ps.n:Int)>c))) ([])) (QC.leaf (AV.bool true false) ([])))):=by kernel_rfl
theorem QW8:JL (mkE prog K7) (Qn f15) 8 j6 (λx_=>(hnd (mkE prog K7) 1)):=by
 refine⟨?_⟩;rintro⟨d,⟨c,⟨⟩⟩⟩ hp G h1 h2;exact Qz (QP XW) 1 G _ h1
theorem Qd6:JH (mkE prog K7) f15 8 j6 (λx_=>(hnd (mkE prog K7) 1)):=by
 refine⟨?_⟩;rintro⟨d,⟨c,⟨⟩⟩⟩ hp;refine⟨⟨rfl,by simp[j6],rfl⟩,⟨?_⟩⟩
 rw[Qiu d c];simp only[j6]at hp;have end_:∀{z:Bool} {b:Bool},KR d c=b->(QC.leaf (AV.bool z b) []).den (ZY 8 (j6 (d,c,())).2.1 (j6 (d,c,())).2.2):=λh=>KN h.symm rfl;refine QE ?_ ?_<;>intro b0
 .exact end_ (by rw[KR,b0];rfl)
 refine QG ?_ ?_;rotate_left;refine QE ?_ ?_<;>intro b1
 .have b1:d.ok=true:=b1;exact end_ (by rw[KR,b0,b1];rfl)
 .have b1:d.ok=false:=b1;exact end_ (by rw[KR,b0,b1];rfl)
 all_goals have:=qdf b0;simp;omega
theorem QU1:QS prog 15 QJO:=
 JY (QP XW) func15 (by kernel_rfl) (by kernel_rfl) (by decide) QW8 Qd6
def QJD:Tab:=Qc K7 15 QJO
theorem QSI:Qf QJD:=XW.add QU1
