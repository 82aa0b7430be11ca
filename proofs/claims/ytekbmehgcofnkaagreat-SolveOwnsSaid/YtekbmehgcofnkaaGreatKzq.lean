/- - -/
import Derived.Test.YtekbmehgcofnkaaGreatKy
import Derived.Test.YtekbmehgcofnkaaGreatKp
import Derived.Test.YtekbmehgcofnkaaGreatKx
import Derived.Test.YtekbmehgcofnkaaGreatKu
set_option linter.all false
open Go.Proofs.Tryz
open Go.IntKind (i64)
set_option maxRecDepth 100000
namespace Go.Proofs.YtekbmehgcofnkaaGreat
open Go.SX
def QMi:Int×Int×Int×Unit->Bool×AV:=λ|(n,(a,(b,_)))=>(true,.bool false (Qy n a b))
def QNZ:FC:=Kk (Ko QMi)
theorem QXy(n:Int)(a:Int)(b:Int):KY (mkE prog KG) (hnd (mkE prog KG) 0) false f109 (KA.enc ((n,a,b,()):Int×Int×Int×Unit)) [] 0=QC.br (decide (a<=n)) (QC.leaf (AV.bool false (decide (n<=b))) ([])) (QC.leaf (AV.bool true false) ([])):=by kernel_rfl
theorem Qat:QR prog 109 QNZ:=by
 refine Kz JH 0 func109 (by kernel_rfl) (by kernel_rfl) ?_
 rintro⟨n,a,b,⟨⟩⟩ hp;rw[QXy n a b];simp only[QMi,QC.den,AV.same,AV.sameL,and_true,true_and]at hp ⊢
 (repeat' (first|(refine aI ?_ ?_)|(intro _)))<;>simp_all [Qy]<;>omega
def QCD:Tab:=Qa KG 109 QNZ
theorem QK8:Qc QCD:=JH.add Qat
def QI8:Sp×Int×Int×Unit->Bool×AV:=λ|(s,(a,(b,_)))=>(true,.bool false (s.isIn a b))
def QQJ:FC:=Kk (Ko QI8)
theorem QVO(s:Sp)(a:Int)(b:Int):KY (mkE prog QCD) (hnd (mkE prog QCD) 0) false f110 (KA.enc ((s,a,b,()):Sp×Int×Int×Unit)) [] 0=QC.br (decide (a<=s.lo)) (QC.br (decide (s.lo<=s.hi)) (QC.leaf (AV.bool false (decide (s.hi<=b))) ([])) (QC.leaf (AV.bool true false) ([]))) (QC.leaf (AV.bool true false) ([])):=by kernel_rfl
theorem QUD:QR prog 110 QQJ:=by
 refine Kz QK8 0 func110 (by kernel_rfl) (by kernel_rfl) ?_
 rintro⟨s,a,b,⟨⟩⟩ hp;rw[QVO s a b];simp only[QI8,QC.den,AV.same,AV.sameL,and_true,true_and]at hp ⊢
 (repeat' (first|(refine aI ?_ ?_)|(intro _)))<;>simp_all [Sp.isIn]<;>omega
def QDk:Tab:=Qa QCD 110 QQJ
theorem QMh:Qc QDk:=QK8.add QUD
def QRC:Edge×Unit->Bool×AV:=λ|(a,_)=>(true,.bool false a.ok)
def QNi:FC:=Kk (Ko QRC)
theorem Qcv(a:Edge):KY (mkE prog QDk) (hnd (mkE prog QDk) 0) false f70 (KA.enc ((a,()):Edge×Unit)) [] 0=QC.br (a.kind==(0:Int)) (QC.leaf (AV.bool true true) ([])) (QC.need (true) (QC.br (Qy a.kind (1:Int) (2:Int)) (QC.need (true) (QC.br (a.at_.isIn (0:Int) (10000:Int)) (QC.need (true) (QC.br (a.wide.isIn (1:Int) (3000:Int)) (QC.need (true) (QC.leaf (AV.bool false (a.deep.isIn (1:Int) (3000:Int))) ([]))) (QC.leaf (AV.bool true false) ([])))) (QC.leaf (AV.bool true false) ([])))) (QC.leaf (AV.bool true false) ([])))):=by kernel_rfl
theorem Qbc:QR prog 70 QNi:=by
 refine Kz QMh 0 func70 (by kernel_rfl) (by kernel_rfl) ?_
 rintro⟨a,⟨⟩⟩ hp;rw[Qcv a];simp only[QRC,QC.den,AV.same,AV.sameL,and_true,true_and]at hp ⊢
 have hw:Qy a.kind 1 2=((a.kind==1)||(a.kind==2)):=by
  unfold Qy;rw[Bool.eq_iff_iff];simp only[qdE,qbO,beq_iff_eq];omega
 simp only[hw];unfold Edge.ok;cases (a.kind==0)<;>cases ((a.kind==1)||(a.kind==2))<;>cases a.at_.isIn 0 10000<;>cases a.wide.isIn 1 3000<;>simp
def QDJ:Tab:=Qa QDk 70 QNi
theorem QQB:Qc QDJ:=QMh.add Qbc
def QJ1:Q1×Unit->Bool×AV:=λ|(p,_)=>(true,.bool false p.ok)
def QOV:FC:=Kk (Ko QJ1)
theorem Qam(p:Q1):KY (mkE prog QDJ) (hnd (mkE prog QDJ) 0) false f69 (KA.enc ((p,()):Q1×Unit)) [] 0=QC.need (true) (QC.br (Qy p.length (1:Int) (10000:Int)) (QC.need (true) (QC.br (Qy p.aK (0:Int) (500:Int)) (QC.need (true) (QC.br (Qy p.oK (0:Int) (500:Int)) (QC.need (true) (QC.leaf (AV.bool false (p.dK.isIn (0:Int) (100:Int))) ([]))) (QC.leaf (AV.bool true false) ([])))) (QC.leaf (AV.bool true false) ([])))) (QC.leaf (AV.bool true false) ([]))):=by kernel_rfl
theorem Qe0:QR prog 69 QOV:=by
 refine Kz QQB 0 func69 (by kernel_rfl) (by kernel_rfl) ?_
 rintro⟨p,⟨⟩⟩ hp;rw[Qam p];simp only[QJ1,QC.den,AV.same,AV.sameL,and_true,true_and]at hp ⊢
 (repeat' (first|(refine aI ?_ ?_)|(intro _)))<;>simp_all [Q1.ok]
def QD0:Tab:=Qa QDJ 69 QOV
theorem QRZ:Qc QD0:=QQB.add Qe0
def QJA:Int×Int×Int×Unit->Bool×AV:=λ|(n,(a,(b,_)))=>(true,.bool false (Qy n a b))
def QQR:FC:=Kk (Ko QJA)
theorem QdP(n:Int)(a:Int)(b:Int):KY (mkE prog QD0) (hnd (mkE prog QD0) 0) false f54 (KA.enc ((n,a,b,()):Int×Int×Int×Unit)) [] 0=QC.br (decide (a<=n)) (QC.leaf (AV.bool false (decide (n<=b))) ([])) (QC.leaf (AV.bool true false) ([])):=by kernel_rfl
theorem QZH:QR prog 54 QQR:=by
 refine Kz QRZ 0 func54 (by kernel_rfl) (by kernel_rfl) ?_
 rintro⟨n,a,b,⟨⟩⟩ hp;rw[QdP n a b];simp only[QJA,QC.den,AV.same,AV.sameL,and_true,true_and]at hp ⊢
 (repeat' (first|(refine aI ?_ ?_)|(intro _)))<;>simp_all [Qy]<;>omega
def Yr:Tab:=Qa QD0 54 QQR
theorem H8:Qc Yr:=QRZ.add QZH
def bdQ(l:Rw QV)(i:Nat):Bool := !(l.get i).ok
variable (d:Puz)
def okR:Bool:=d.pK.ok&&(Qy (d.ps.n:Int) 1 9&&(Qy d.wide 1 9&&(Qy d.high 1 9&&((i64.wrap (d.wide*d.high)==(d.ps.n:Int))&&(QU (bdQ d.ps) d.ps.n 0).isNone))))
theorem QNt(h:1<=d.ps.n):(QU (XB d) d.ps.n 0).isNone=(d.pK.ok&&(QU (bdQ d.ps) d.ps.n 0).isNone):=by
 cases hp:d.pK.ok with
 | true=>
  have:XB d=bdQ d.ps:=by funext i;simp only[XB,bdQ,hp,Bool.true_and]
  rw[this,Bool.true_and]
 | false=>
  obtain⟨m,hm⟩:∃ m,d.ps.n=m+1:=⟨d.ps.n-1,by omega⟩
  rw[hm,QU];simp only[XB,hp,Bool.false_and,Bool.not_false];rfl
theorem QE8:okR d=d.ok:=by
 rw[Bool.eq_iff_iff];simp only[okR,Puz.ok,Puz.okN,qbA,Qy,qdE,beq_iff_eq];constructor
 .rintro⟨hp,hn,hw,hh,hm,ha⟩;have m1:d.wide*d.high<=9*9:=Int.mul_le_mul hw.2 hh.2 (by omega) (by omega)
  have m0:0<=d.wide*d.high:=Int.mul_nonneg (by omega) (by omega)
  have e:=hm;rw[w64 (by omega) (by omega)]at e
  have a1:=Int.mul_le_mul_of_nonneg_left (show 1<=d.high from hh.1) (show 0<=d.wide by omega)
  have a2:=Int.mul_le_mul_of_nonneg_right (show 1<=d.wide from hw.1) (show 0<=d.high by omega)
  refine⟨⟨hn,by omega,by omega,hm⟩,?_⟩
  rw[QNt _ (by omega),hp,ha];rfl
 .rintro⟨⟨hn,hw,hh,hm⟩,hs⟩;rw[QNt _ (by omega),qbA]at hs
  exact⟨hs.1,hn,by omega,by omega,hm,hs.2⟩
def QBm(k:Nat):JSt:=⟨60,[(1,.ptr 8 0 0),(3,.int false .i64 k)],[(8,.cells 0 28 (KT d))]++Qi.blk 0 d.ps,96⟩
def QNO:Ex->List Nat
 | .normal=>[1,3]
 | .exit _=>[]
 | .ret=>[2]
noncomputable abbrev QNl:List (Nat×Blk):=
  [(8,.cells 0 28 (waf d)),(0,.frz (wae) d.ps.n λi=>QA.enc (d.ps.get i))]
theorem Qdi(k:Nat)(g:Nat->Value):exec (mkE prog Yr) (hnd (mkE prog Yr) 6) (QH f25 0) (JSt.inst (QBm d k) g) (Q8 [] QNO) = .br (decide ((k:Int)<(d.ps.n:Int))) (.need (decide ((0:Int)<=(k:Int)/\(k:Int)<(d.ps.n:Int))&&decide (d.ps.n<=d.ps.n)) (.need (decide (k<d.ps.n)) (.need (true) (.br (!(d.ps.get k).up.ok) (.leaf (.tup [.nili,.ptr 60 0 0,.bool true false]) ([])) (.need (decide ((0:Int)<=(k:Int)/\(k:Int)<(d.ps.n:Int))&&decide (d.ps.n<=d.ps.n)) (.need (decide (k<d.ps.n)) (.need (true) (.br (!(d.ps.get k).right.ok) (.leaf (.tup [.nili,.ptr 60 0 0,.bool true false]) ([])) (.need (decide ((0:Int)<=(k:Int)/\(k:Int)<(d.ps.n:Int))&&decide (d.ps.n<=d.ps.n)) (.need (decide (k<d.ps.n)) (.need (true) (.br (!(d.ps.get k).down.ok) (.leaf (.tup [.nili,.ptr 60 0 0,.bool true false]) ([])) (.need (decide ((0:Int)<=(k:Int)/\(k:Int)<(d.ps.n:Int))&&decide (d.ps.n<=d.ps.n)) (.need (decide (k<d.ps.n)) (.need (true) (.br (!(d.ps.get k).left.ok) (.leaf (.tup [.nili,.ptr 60 0 0,.bool true false]) ([])) (.leaf (.tup [.nilp,.ptr 60 0 0,.ptr 8 0 0,vi (i64.wrap ((k:Int)+1))]) ((QNl d))))))))))))))))))) (.leaf (.tup [.ptr 0 0 0,.ptr 60 0 0]) ([])):=by kernel_rfl
def zR:JSt:=⟨60,[(2,.bool false false)],[],96⟩
def QHm:JSt:=⟨60,[],[],96⟩
theorem QbN :QE 8 [AV.bool true false] ([]) zR=( some [false=false]):=by kernel_rfl
theorem QUM :QE 8 [AV.bool true false] ([]) zR=( some [false=false]):=by kernel_rfl
theorem QXG :QE 8 [AV.bool true false] ([]) zR=( some [false=false]):=by kernel_rfl
theorem QYd :QE 8 [AV.bool true false] ([]) zR=( some [false=false]):=by kernel_rfl
theorem Qea(k k':Nat):QE 8 [.ptr 8 0 0,vi (i64.wrap ((k:Int)+1))] ((QNl d)) (QBm d k')=(some ([0=0,0=0,i64.wrap ((k:Int)+1)=(k':Int)]++waa d++([cO=cO]++wad d))):=by kernel_rfl
theorem QYl :QE 8 [] ([]) QHm=( some []):=by kernel_rfl
def QRa(k:Nat)(e:Ex)(J:JSt):Prop:=(e = .ret/\(QU (bdQ d.ps) (d.ps.n-k) k).isNone=false/\J=zR)∨(e = .exit 0/\(QU (bdQ d.ps) (d.ps.n-k) k).isNone=true/\J=QHm)
theorem QWt(hl:d.ps.n<=1000):JL (QBm d) (λk=>k<=d.ps.n) (λk=>d.ps.n-k) (QRa d) 8 QNO [] (mkE prog Yr) (λ_=>hnd (mkE prog Yr) 6) (QH f25 0):=by
 refine⟨λk g hk=>QbG (Qdi d k g) ?_⟩;refine QF ?_ ?_<;>intro h
 .have h:k<d.ps.n:=by have:=qdt h;omega
  obtain⟨m,hm⟩:∃ m,d.ps.n-k=m+1:=⟨d.ps.n-k-1,by omega⟩
  have hm':d.ps.n-(k+1)=m:=by omega
  have hA:(decide ((0:Int)<=(k:Int)/\(k:Int)<(d.ps.n:Int))&&decide (d.ps.n<=d.ps.n))=true:=by simp;omega
  have hB:decide (k<d.ps.n)=true:=by simp;omega
  have bad:bdQ d.ps k=true->QU (bdQ d.ps) (d.ps.n-k) k=some k:=λq=>by rw[hm,QU,q]
  have go:bdQ d.ps k=false->QU (bdQ d.ps) (d.ps.n-k) k=QU (bdQ d.ps) (d.ps.n-(k+1)) (k+1):=λq=>by rw[hm,hm',QU,q]
  have no:bdQ d.ps k=true->(QU (bdQ d.ps) (d.ps.n-k) k).isNone=false:=λq=>by rw[bad q];rfl
  refine QG hA (QG hB (QG rfl (QF (λh0=>?_) (λh0=>?_))))
  .have q:bdQ d.ps k=true:=by simp only[Bool.not_eq_true']at h0;simp only[bdQ,QV.ok,h0,Bool.false_and,Bool.not_false]
   exact⟨_,.inl ⟨rfl,no q,rfl⟩,rfl,rfl,_,QbN,⟨rfl,trivial⟩⟩
  refine QG hA (QG hB (QG rfl (QF (λh1=>?_) (λh1=>?_))))
  .have q:bdQ d.ps k=true:=by simp only[Bool.not_eq_true']at h1;simp only[bdQ,QV.ok,h1,Bool.false_and,Bool.and_false,Bool.not_false]
   exact⟨_,.inl ⟨rfl,no q,rfl⟩,rfl,rfl,_,QUM,⟨rfl,trivial⟩⟩
  refine QG hA (QG hB (QG rfl (QF (λh2=>?_) (λh2=>?_))))
  .have q:bdQ d.ps k=true:=by simp only[Bool.not_eq_true']at h2;simp only[bdQ,QV.ok,h2,Bool.false_and,Bool.and_false,Bool.not_false]
   exact⟨_,.inl ⟨rfl,no q,rfl⟩,rfl,rfl,_,QXG,⟨rfl,trivial⟩⟩
  refine QG hA (QG hB (QG rfl (QF (λh3=>?_) (λh3=>?_))))
  .have q:bdQ d.ps k=true:=by simp only[Bool.not_eq_true']at h3;simp only[bdQ,QV.ok,h3,Bool.and_false,Bool.not_false]
   exact⟨_,.inl ⟨rfl,no q,rfl⟩,rfl,rfl,_,QYd,⟨rfl,trivial⟩⟩
  have q:bdQ d.ps k=false:=by simp only[Bool.not_eq_false']at h0 h1 h2 h3;simp only[bdQ,QV.ok,h0,h1,h2,h3,Bool.and_self,Bool.not_true]
  have hw:i64.wrap ((k:Int)+1)=((k+1:Nat):Int):=(w64 (by omega) (by omega)).trans (by omega)
  refine⟨k+1,h,by show d.ps.n-(k+1)<d.ps.n-k;omega,λe J h=>by unfold QRa at h ⊢;rw[go q];exact h,rfl,rfl,_,Qea d k (k+1),?_⟩
  repeat' first|exact tv|exact qRr|exact hw|refine aI ?_ ?_
 .have h:d.ps.n<=k:=by have:=qdf h;omega
  have hf:QU (bdQ d.ps) (d.ps.n-k) k=none:=by rw[show d.ps.n-k=0 by omega];rfl
  exact⟨_,.inr ⟨rfl,by rw[hf];rfl,rfl⟩,rfl,rfl,_,QYl,trivial⟩
def QcV:List (Prop×Ex×JSt):=[((QU (bdQ d.ps) d.ps.n 0).isNone=false,.ret,zR),((QU (bdQ d.ps) d.ps.n 0).isNone=true,.exit 0,QHm)]
abbrev QCy(P:Program)(d:Puz):Hnd:={ hnd (mkE P Yr) 1 with loop:=λ_=>Q4 8 [] (QBm d (0:Nat)) (QcV d) }
theorem QZE(hl:d.ps.n<=1000)(G:Ctx)(hrd:G.rd=none)(hG:G.n=8):Qx (mkE prog Yr) G (QCy prog d) (Qk f25):=by
 refine KR (body:=QH f25 0) (QN H8) hrd (by kernel_rfl) ?_
 refine Jt (n0:=8) (QN H8) (by omega) (λs hs=>Qu (QN H8) 6 G _ hrd) (λs hs=>(by decide:8<=96)) ?_ (QWt d hl) (s0:=0) (Nat.zero_le _) ?_
 .rintro s e J (⟨_,_,rfl⟩|⟨_,_,rfl⟩)<;>exact(by decide:8<=96)
 .rintro e J (⟨rfl,h,rfl⟩|⟨rfl,h,rfl⟩)
  .exact⟨_,qmc,h,rfl,rfl⟩
  .exact⟨_,List.mem_cons_of_mem _ qmc,h,rfl,rfl⟩
def js:WF (Puz×Unit):=λ|(d,_)=>(decide (d.ps.n<=1000),.bool false d.ok,[])
def QNe:FC:=wFC js
theorem QdN :Kl (mkE prog Yr) (QCy prog d) f25 (Qd.vals 0 ((d,()):Puz×Unit)) (Qd.blks 0 ((d,()):Puz×Unit)) 8 = .need (true) (.br (!d.pK.ok) (.leaf (.bool true false) ([])) (.need (true) (.br (!Qy (d.ps.n:Int) (1:Int) (9:Int)) (.leaf (.bool true false) ([])) (.need (true) (.br (!Qy d.wide (1:Int) (9:Int)) (.leaf (.bool true false) ([])) (.need (true) (.br (!Qy d.high (1:Int) (9:Int)) (.leaf (.bool true false) ([])) (.br (i64.wrap (d.wide*d.high) != (d.ps.n:Int)) (.leaf (.bool true false) ([])) (.ak ([0=0,0=0,(0:Int)=0]++waa d++([cO=cO]++wad d)) (.both (.asm ((QU (bdQ d.ps) d.ps.n 0).isNone=false) (.all (λ(g0:Nat->Value)=>.leaf (.bool false false) ([])))) (.asm ((QU (bdQ d.ps) d.ps.n 0).isNone=true) (.all (λ(g1:Nat->Value)=>.leaf (.bool true true) ([])))))))))))))):=by kernel_rfl
theorem Qex:JP (mkE prog Yr) (Qk f25) 8 js (λx_=>(QCy prog x_.1)):=by
 refine⟨?_⟩;rintro⟨d,⟨⟩⟩ hp G h1 h2;exact QZE d (qdt hp) G h1 h2
theorem QfP:JQ (mkE prog Yr) f25 8 js (λx_=>(QCy prog x_.1)):=by
 refine⟨?_⟩;rintro⟨d,⟨⟩⟩ hp;refine⟨⟨rfl,by simp[js],rfl⟩,⟨?_⟩⟩
 rw[QdN d];simp only[js]at hp;have no:okR d=false->(QC.leaf (AV.bool true false) []).den (HB 8 (js (d,())).2.1 (js (d,())).2.2):=λh=>Kd (show false=d.ok by rw[<-QE8,h]) rfl
 refine QG rfl (QF (λh1=>no ?_) (λh1=>QG rfl (QF (λh2=>no ?_) (λh2=>QG rfl (QF (λh3=>no ?_) (λh3=>QG rfl (QF (λh4=>no ?_) (λh4=>QF (λh5=>no ?_) (λh5=>?_)))))))))
 .simp only[Bool.not_eq_true']at h1;simp only[okR,h1,Bool.false_and]
 .simp only[Bool.not_eq_true']at h2;simp only[okR,h2,Bool.false_and,Bool.and_false]
 .simp only[Bool.not_eq_true']at h3;simp only[okR,h3,Bool.false_and,Bool.and_false]
 .simp only[Bool.not_eq_true']at h4;simp only[okR,h4,Bool.false_and,Bool.and_false]
 .have h5:(i64.wrap (d.wide*d.high)==(d.ps.n:Int))=false:=by simpa using h5
  simp only[okR,h5,Bool.false_and,Bool.and_false]
 .have h5:(i64.wrap (d.wide*d.high)==(d.ps.n:Int))=true:=by simpa using h5
  simp only[Bool.not_eq_false']at h1 h2 h3 h4
  repeat' first|refine Qp (show _=_ by with_reducible rfl) ?_|refine Qp (show _<=_ from qlr _) ?_|refine Qp (show QB _ _ _ _ from qRr) ?_
  refine Kb (Qf λh=>Qh λg=>?_) (Qf λh=>Qh λg=>?_)
  .exact Kd (show false=d.ok by rw[<-QE8];simp only[okR,h,Bool.and_false]) rfl
  .exact Kd (show true=d.ok by rw[<-QE8];simp only[okR,h1,h2,h3,h4,h5,h,Bool.and_self]) rfl
theorem QaU:QR prog 25 QNe:=
 Ji (QN H8) func25 (by kernel_rfl) (by kernel_rfl) (by decide) Qex QfP
def K8:Tab:=Qa Yr 25 QNe
theorem Yo:Qc K8:=H8.add QaU
structure QX3 where
 off:Sp
 wide:Sp
 deep:Sp
instance : Enc QX3 where
  enc x := .agg [.int false .i64 x.off.lo,.int false .i64 x.off.hi,.int false .i64 x.wide.lo,.int false .i64 x.wide.hi,.int false .i64 x.deep.lo,.int false .i64 x.deep.hi]
  dec | .agg [.int _ .i64 a0,.int _ .i64 a1,.int _ .i64 a2,.int _ .i64 a3,.int _ .i64 a4,.int _ .i64 a5] => some ⟨⟨a0,a1⟩,⟨a2,a3⟩,⟨a4,a5⟩⟩ | _ => none
  ok v x h := by
    split at h <;> (try (cases h; done))
    simp only[qsI]at h; subst h; exact⟨λ_=>rfl,rfl⟩
structure VP where
 s:Sp
 d:Sp
 lo:Int
 hi:Int
 n:Int
def VP.I(x:VP):JSt:=⟨40,[(1,vi x.lo),(2,vi x.hi),(4,.ptr 0 0 0),(7,.ptr 8 0 0),(9,vi x.n)],[(8,.cells 0 23 (Enc.enc x.d).cells),(0,.cells 0 23 (Enc.enc x.s).cells)],56⟩
def VP.pre(x:VP):Prop:=(-100000<=x.s.lo/\x.s.lo<=100000)/\(-100000<=x.s.hi/\x.s.hi<=100000)/\(-500<=x.lo/\x.lo<=0)/\(0<=x.hi/\x.hi<=500)/\(0<=x.d.lo/\x.d.lo<=100) /\ -100000<=x.n/\x.n<=100001
def VP.good(x:VP)(n:Int):Prop:=n<=min x.s.hi x.hi/\1000*x.lo<=n*(1000+x.d.lo)/\n*(1000+x.d.lo)<=1000*x.hi
def VP.yes(x:VP):Prop:=∃ n,x.n<=n/\x.good n
def VP.next(x:VP):VP:={ x with n:=x.n+1 }
instance (x : VP) : Decidable x.pre := by unfold VP.pre; infer_instance
def GD:Code->St->(Ex->St->QC)->QC:=λ_ st K=>match st.tm.length==40&&VX st.hp,QI st.tm 1,QI st.tm 2,QI st.tm 4,QI st.tm 7,QI st.tm 9,Go.SX.look st.hp 8,Go.SX.look st.hp 0 with
 | true,.int _ .i64 lo,.int _ .i64 hi,.ptr 0 0 0,.ptr 8 0 0,.int _ .i64 n,some (.cells 0 23 [.int _ .i64 dlo,.int _ .i64 dhi]),some (.cells 0 23 [.int _ .i64 slo,.int _ .i64 shi])=>
  .need (decide (VP.pre ⟨⟨slo,shi⟩,⟨dlo,dhi⟩,lo,hi,n⟩)) (.both (.asm (VP.yes ⟨⟨slo,shi⟩,⟨dlo,dhi⟩,lo,hi,n⟩) (.all λg=>K .ret (JSt.inst ⟨40,[(8,.bool true true)],[],0⟩ g)))
   (.asm (¬ VP.yes ⟨⟨slo,shi⟩,⟨dlo,dhi⟩,lo,hi,n⟩) (.all λg=>K (.exit 0) (JSt.inst ⟨40,[],[],0⟩ g))))
 | _, _, _, _, _, _, _, _ => .fail "some"
def V2(c:Int):Bool:=decide ((d.ps.n:Int)>14)||(d.ok&&decide ((d.ps.n:Int)>c))
def j9:WF (Puz×Int×Unit):=λ|(d,(c,_))=>(true,.bool false (V2 d c),[])
def QQ2:FC:=wFC j9
theorem QY6(c:Int):Kl (mkE prog K8) (hnd (mkE prog K8) 1) f15 (Qd.vals 0 ((d,c,()):Puz×Int×Unit)) (Qd.blks 0 ((d,c,()):Puz×Int×Unit)) 8=QC.br (decide ((↑d.ps.n:Int)>(14:Int))) (QC.leaf (AV.bool true true) ([])) (QC.need (decide (d.ps.n<=d.ps.n)&&true&&decide (d.ps.n<=(1000:Nat))) (QC.br (d.ok) (QC.leaf (AV.bool false (decide ((↑d.ps.n:Int)>c))) ([])) (QC.leaf (AV.bool true false) ([])))):=by kernel_rfl
theorem QdD:JP (mkE prog K8) (Qk f15) 8 j9 (λx_=>(hnd (mkE prog K8) 1)):=by
 refine⟨?_⟩;rintro⟨d,⟨c,⟨⟩⟩⟩ hp G h1 h2;exact Qu (QN Yo) 1 G _ h1
theorem QW8:JQ (mkE prog K8) f15 8 j9 (λx_=>(hnd (mkE prog K8) 1)):=by
 refine⟨?_⟩;rintro⟨d,⟨c,⟨⟩⟩⟩ hp;refine⟨⟨rfl,by simp[j9],rfl⟩,⟨?_⟩⟩
 rw[QY6 d c];simp only[j9]at hp;have end_:∀{z:Bool} {b:Bool},V2 d c=b->(QC.leaf (AV.bool z b) []).den (HB 8 (j9 (d,c,())).2.1 (j9 (d,c,())).2.2):=λh=>Kd h.symm rfl;refine QF ?_ ?_<;>intro b0
 .exact end_ (by rw[V2,b0];rfl)
 refine QG ?_ ?_;rotate_left;refine QF ?_ ?_<;>intro b1
 .have b1:d.ok=true:=b1;exact end_ (by rw[V2,b0,b1];rfl)
 .have b1:d.ok=false:=b1;exact end_ (by rw[V2,b0,b1];rfl)
 all_goals have:=qdf b0;simp;omega
theorem Qe2:QR prog 15 QQ2:=
 Ji (QN Yo) func15 (by kernel_rfl) (by kernel_rfl) (by decide) QdD QW8
def QLh:Tab:=Qa K8 15 QQ2
theorem QZd:Qc QLh:=Yo.add Qe2
