/- - -/
import Derived.Test.YtekbmehgcofnkaaGreatJy
set_option linter.all false
noncomputable section
open Go.Proofs.Tryz
open Go.IntKind (i64)
set_option maxRecDepth 100000
namespace Go.Proofs.YtekbmehgcofnkaaGreat
open Go.SX
def QSM:Int×Int×Int×Unit->Bool×AV:=λ|(n,(a,(b,_)))=>(true,.bool false (Qu n a b))
def QLM:FC:=Ka (Kd QSM)
theorem QYN(n:Int)(a:Int)(b:Int):KN (mkE prog KK) (hnd (mkE prog KK) 0) false f109 (KA.enc ((n,a,b,()):Int×Int×Int×Unit)) [] 0=QC.br (decide (a<=n)) (QC.leaf (AV.bool false (decide (n<=b))) ([])) (QC.leaf (AV.bool true false) ([])):=by kernel_rfl
theorem QhR:QQ prog 109 QLM:=by
 refine Ky JO 0 func109 (by kernel_rfl) (by kernel_rfl) ?_
 rintro⟨n,a,b,⟨⟩⟩ hp;rw[QYN n a b];simp only[QSM,QC.den,AV.same,AV.sameL,and_true,true_and]at hp ⊢
 (repeat' (first|(refine aI ?_ ?_)|(intro _)))<;>simp_all [Qu]<;>omega
def QDF:Tab:=QZ KK 109 QLM
theorem QMx:Qc QDF:=JO.add QhR
def QKi:Sp×Int×Int×Unit->Bool×AV:=λ|(s,(a,(b,_)))=>(true,.bool false (s.isIn a b))
def QOe:FC:=Ka (Kd QKi)
theorem QWd(s:Sp)(a:Int)(b:Int):KN (mkE prog QDF) (hnd (mkE prog QDF) 0) false f110 (KA.enc ((s,a,b,()):Sp×Int×Int×Unit)) [] 0=QC.br (decide (a<=s.lo)) (QC.br (decide (s.lo<=s.hi)) (QC.leaf (AV.bool false (decide (s.hi<=b))) ([])) (QC.leaf (AV.bool true false) ([]))) (QC.leaf (AV.bool true false) ([])):=by kernel_rfl
theorem QVF:QQ prog 110 QOe:=by
 refine Ky QMx 0 func110 (by kernel_rfl) (by kernel_rfl) ?_
 rintro⟨s,a,b,⟨⟩⟩ hp;rw[QWd s a b];simp only[QKi,QC.den,AV.same,AV.sameL,and_true,true_and]at hp ⊢
 (repeat' (first|(refine aI ?_ ?_)|(intro _)))<;>simp_all [Sp.isIn]<;>omega
def QFW:Tab:=QZ QDF 110 QOe
theorem QMf:Qc QFW:=QMx.add QVF
def QL5:Edge×Unit->Bool×AV:=λ|(a,_)=>(true,.bool false a.ok)
def QKr:FC:=Ka (Kd QL5)
theorem QcX(a:Edge):KN (mkE prog QFW) (hnd (mkE prog QFW) 0) false f70 (KA.enc ((a,()):Edge×Unit)) [] 0=QC.br (a.kind==(0:Int)) (QC.leaf (AV.bool true true) ([])) (QC.need (true) (QC.br (Qu a.kind (1:Int) (2:Int)) (QC.need (true) (QC.br (a.at_.isIn (0:Int) (10000:Int)) (QC.need (true) (QC.br (a.wide.isIn (1:Int) (3000:Int)) (QC.need (true) (QC.leaf (AV.bool false (a.deep.isIn (1:Int) (3000:Int))) ([]))) (QC.leaf (AV.bool true false) ([])))) (QC.leaf (AV.bool true false) ([])))) (QC.leaf (AV.bool true false) ([])))):=by kernel_rfl
theorem QhT:QQ prog 70 QKr:=by
 refine Ky QMf 0 func70 (by kernel_rfl) (by kernel_rfl) ?_
 rintro⟨a,⟨⟩⟩ hp;rw[QcX a];simp only[QL5,QC.den,AV.same,AV.sameL,and_true,true_and]at hp ⊢
 have hw:Qu a.kind 1 2=((a.kind==1)||(a.kind==2)):=by
  unfold Qu;rw[Bool.eq_iff_iff];simp only[qdE,qbO,beq_iff_eq];omega
 simp only[hw];unfold Edge.ok;cases (a.kind==0)<;>cases ((a.kind==1)||(a.kind==2))<;>cases a.at_.isIn 0 10000<;>cases a.wide.isIn 1 3000<;>simp
def QDx:Tab:=QZ QFW 70 QKr
theorem QK4:Qc QDx:=QMf.add QhT
def QR4:Qf×Unit->Bool×AV:=λ|(p,_)=>(true,.bool false p.ok)
def QSy:FC:=Ka (Kd QR4)
theorem QWf(p:Qf):KN (mkE prog QDx) (hnd (mkE prog QDx) 0) false f69 (KA.enc ((p,()):Qf×Unit)) [] 0=QC.need (true) (QC.br (Qu p.length (1:Int) (10000:Int)) (QC.need (true) (QC.br (Qu p.aK (0:Int) (500:Int)) (QC.need (true) (QC.br (Qu p.oK (0:Int) (500:Int)) (QC.need (true) (QC.leaf (AV.bool false (p.dK.isIn (0:Int) (100:Int))) ([]))) (QC.leaf (AV.bool true false) ([])))) (QC.leaf (AV.bool true false) ([])))) (QC.leaf (AV.bool true false) ([]))):=by kernel_rfl
theorem QWb:QQ prog 69 QSy:=by
 refine Ky QK4 0 func69 (by kernel_rfl) (by kernel_rfl) ?_
 rintro⟨p,⟨⟩⟩ hp;rw[QWf p];simp only[QR4,QC.den,AV.same,AV.sameL,and_true,true_and]at hp ⊢
 (repeat' (first|(refine aI ?_ ?_)|(intro _)))<;>simp_all [Qf.ok]
def QDS:Tab:=QZ QDx 69 QSy
theorem QO8:Qc QDS:=QK4.add QWb
def QT6:Int×Int×Int×Unit->Bool×AV:=λ|(n,(a,(b,_)))=>(true,.bool false (Qu n a b))
def QOD:FC:=Ka (Kd QT6)
theorem QeY(n:Int)(a:Int)(b:Int):KN (mkE prog QDS) (hnd (mkE prog QDS) 0) false f54 (KA.enc ((n,a,b,()):Int×Int×Int×Unit)) [] 0=QC.br (decide (a<=n)) (QC.leaf (AV.bool false (decide (n<=b))) ([])) (QC.leaf (AV.bool true false) ([])):=by kernel_rfl
theorem QgG:QQ prog 54 QOD:=by
 refine Ky QO8 0 func54 (by kernel_rfl) (by kernel_rfl) ?_
 rintro⟨n,a,b,⟨⟩⟩ hp;rw[QeY n a b];simp only[QT6,QC.den,AV.same,AV.sameL,and_true,true_and]at hp ⊢
 (repeat' (first|(refine aI ?_ ?_)|(intro _)))<;>simp_all [Qu]<;>omega
def Yz:Tab:=QZ QDS 54 QOD
theorem QA9:Qc Yz:=QO8.add QgG
def bdQ(l:Rw QT)(i:Nat):Bool := !(l.get i).ok
variable (d:Puz)
def okR:Bool:=d.pK.ok&&(Qu (d.ps.n:Int) 1 9&&(Qu d.wide 1 9&&(Qu d.high 1 9&&((i64.wrap (d.wide*d.high)==(d.ps.n:Int))&&(QR (bdQ d.ps) d.ps.n 0).isNone))))
theorem QQj(h:1<=d.ps.n):(QR (Js d) d.ps.n 0).isNone=(d.pK.ok&&(QR (bdQ d.ps) d.ps.n 0).isNone):=by
 cases hp:d.pK.ok with
 | true=>
  have:Js d=bdQ d.ps:=by funext i;simp only[Js,bdQ,hp,Bool.true_and]
  rw[this,Bool.true_and]
 | false=>
  obtain⟨m,hm⟩:∃ m,d.ps.n=m+1:=⟨d.ps.n-1,by omega⟩
  rw[hm,QR];simp only[Js,hp,Bool.false_and,Bool.not_false];rfl
theorem QI4:okR d=d.ok:=by
 rw[Bool.eq_iff_iff];simp only[okR,Puz.ok,Puz.okN,qbA,Qu,qdE,beq_iff_eq];constructor
 .rintro⟨hp,hn,hw,hh,hm,ha⟩;have m1:d.wide*d.high<=9*9:=Int.mul_le_mul hw.2 hh.2 (by omega) (by omega)
  have m0:0<=d.wide*d.high:=Int.mul_nonneg (by omega) (by omega)
  have e:=hm;rw[w64 (by omega) (by omega)]at e
  have a1:=Int.mul_le_mul_of_nonneg_left (show 1<=d.high from hh.1) (show 0<=d.wide by omega)
  have a2:=Int.mul_le_mul_of_nonneg_right (show 1<=d.wide from hw.1) (show 0<=d.high by omega)
  refine⟨⟨hn,by omega,by omega,hm⟩,?_⟩
  rw[QQj _ (by omega),hp,ha];rfl
 .rintro⟨⟨hn,hw,hh,hm⟩,hs⟩;rw[QQj _ (by omega),qbA]at hs
  exact⟨hs.1,hn,by omega,by omega,hm,hs.2⟩
def QEr(k:Nat):JSt:=⟨60,[(1,.ptr 8 0 0),(3,.int false .i64 k)],[(8,.cells 0 28 (Kb d))]++Qo.blk 0 d.ps,96⟩
def QQJ:Ex->List Nat
 | .normal=>[1,3]
 | .exit _=>[]
 | .ret=>[2]
abbrev QP8:List (Nat×Blk):=[(8,.cells 0 28 (waf d)),(0,.frz (wae) d.ps.n λi=>QA.enc (d.ps.get i))]
theorem Qgv(k:Nat)(g:Nat->Value):exec (mkE prog Yz) (hnd (mkE prog Yz) 6) (QJ f25 0) (JSt.inst (QEr d k) g) (KD [] QQJ) = .br (decide ((k:Int)<(d.ps.n:Int))) (.need (decide ((0:Int)<=(k:Int)/\(k:Int)<(d.ps.n:Int))&&decide (d.ps.n<=d.ps.n)) (.need (decide (k<d.ps.n)) (.need (true) (.br (!(d.ps.get k).up.ok) (.leaf (.tup [.nili,.ptr 60 0 0,.bool true false]) ([])) (.need (decide ((0:Int)<=(k:Int)/\(k:Int)<(d.ps.n:Int))&&decide (d.ps.n<=d.ps.n)) (.need (decide (k<d.ps.n)) (.need (true) (.br (!(d.ps.get k).right.ok) (.leaf (.tup [.nili,.ptr 60 0 0,.bool true false]) ([])) (.need (decide ((0:Int)<=(k:Int)/\(k:Int)<(d.ps.n:Int))&&decide (d.ps.n<=d.ps.n)) (.need (decide (k<d.ps.n)) (.need (true) (.br (!(d.ps.get k).down.ok) (.leaf (.tup [.nili,.ptr 60 0 0,.bool true false]) ([])) (.need (decide ((0:Int)<=(k:Int)/\(k:Int)<(d.ps.n:Int))&&decide (d.ps.n<=d.ps.n)) (.need (decide (k<d.ps.n)) (.need (true) (.br (!(d.ps.get k).left.ok) (.leaf (.tup [.nili,.ptr 60 0 0,.bool true false]) ([])) (.leaf (.tup [.nilp,.ptr 60 0 0,.ptr 8 0 0,vi (i64.wrap ((k:Int)+1))]) ((QP8 d))))))))))))))))))) (.leaf (.tup [.ptr 0 0 0,.ptr 60 0 0]) ([])):=by kernel_rfl
def Hb:JSt:=⟨60,[(2,.bool false false)],[],96⟩
def QJf:JSt:=⟨60,[],[],96⟩
theorem QcC :QF 8 [AV.bool true false] ([]) Hb=( some [false=false]):=by kernel_rfl
theorem QXz :QF 8 [AV.bool true false] ([]) Hb=( some [false=false]):=by kernel_rfl
theorem QU4 :QF 8 [AV.bool true false] ([]) Hb=( some [false=false]):=by kernel_rfl
theorem QdM :QF 8 [AV.bool true false] ([]) Hb=( some [false=false]):=by kernel_rfl
theorem QX0(k k':Nat):QF 8 [.ptr 8 0 0,vi (i64.wrap ((k:Int)+1))] ((QP8 d)) (QEr d k')=(some ([0=0,0=0,i64.wrap ((k:Int)+1)=(k':Int)]++waa d++([cO=cO]++wad d))):=by kernel_rfl
theorem QW2 :QF 8 [] ([]) QJf=( some []):=by kernel_rfl
def QP0(k:Nat)(e:Ex)(J:JSt):Prop:=(e = .ret/\(QR (bdQ d.ps) (d.ps.n-k) k).isNone=false/\J=Hb)∨(e = .exit 0/\(QR (bdQ d.ps) (d.ps.n-k) k).isNone=true/\J=QJf)
theorem QWl(hl:d.ps.n<=1000):J1 (QEr d) (λk=>k<=d.ps.n) (λk=>d.ps.n-k) (QP0 d) 8 QQJ [] (mkE prog Yz) (λ_=>hnd (mkE prog Yz) 6) (QJ f25 0):=by
 refine⟨λk g hk=>QaG (Qgv d k g) ?_⟩;refine QE ?_ ?_<;>intro h
 .have h:k<d.ps.n:=by have:=qdt h;omega
  obtain⟨m,hm⟩:∃ m,d.ps.n-k=m+1:=⟨d.ps.n-k-1,by omega⟩
  have hm':d.ps.n-(k+1)=m:=by omega
  have hA:(decide ((0:Int)<=(k:Int)/\(k:Int)<(d.ps.n:Int))&&decide (d.ps.n<=d.ps.n))=true:=by simp;omega
  have hB:decide (k<d.ps.n)=true:=by simp;omega
  have bad:bdQ d.ps k=true->QR (bdQ d.ps) (d.ps.n-k) k=some k:=λq=>by rw[hm,QR,q]
  have go:bdQ d.ps k=false->QR (bdQ d.ps) (d.ps.n-k) k=QR (bdQ d.ps) (d.ps.n-(k+1)) (k+1):=λq=>by rw[hm,hm',QR,q]
  have no:bdQ d.ps k=true->(QR (bdQ d.ps) (d.ps.n-k) k).isNone=false:=λq=>by rw[bad q];rfl
  refine QG hA (QG hB (QG rfl (QE (λh0=>?_) (λh0=>?_))))
  .have q:bdQ d.ps k=true:=by simp only[Bool.not_eq_true']at h0;simp only[bdQ,QT.ok,h0,Bool.false_and,Bool.not_false]
   exact⟨_,.inl ⟨rfl,no q,rfl⟩,rfl,rfl,_,QcC,⟨rfl,trivial⟩⟩
  refine QG hA (QG hB (QG rfl (QE (λh1=>?_) (λh1=>?_))))
  .have q:bdQ d.ps k=true:=by simp only[Bool.not_eq_true']at h1;simp only[bdQ,QT.ok,h1,Bool.false_and,Bool.and_false,Bool.not_false]
   exact⟨_,.inl ⟨rfl,no q,rfl⟩,rfl,rfl,_,QXz,⟨rfl,trivial⟩⟩
  refine QG hA (QG hB (QG rfl (QE (λh2=>?_) (λh2=>?_))))
  .have q:bdQ d.ps k=true:=by simp only[Bool.not_eq_true']at h2;simp only[bdQ,QT.ok,h2,Bool.false_and,Bool.and_false,Bool.not_false]
   exact⟨_,.inl ⟨rfl,no q,rfl⟩,rfl,rfl,_,QU4,⟨rfl,trivial⟩⟩
  refine QG hA (QG hB (QG rfl (QE (λh3=>?_) (λh3=>?_))))
  .have q:bdQ d.ps k=true:=by simp only[Bool.not_eq_true']at h3;simp only[bdQ,QT.ok,h3,Bool.and_false,Bool.not_false]
   exact⟨_,.inl ⟨rfl,no q,rfl⟩,rfl,rfl,_,QdM,⟨rfl,trivial⟩⟩
  have q:bdQ d.ps k=false:=by simp only[Bool.not_eq_false']at h0 h1 h2 h3;simp only[bdQ,QT.ok,h0,h1,h2,h3,Bool.and_self,Bool.not_true]
  have hw:i64.wrap ((k:Int)+1)=((k+1:Nat):Int):=(w64 (by omega) (by omega)).trans (by omega)
  refine⟨k+1,h,by show d.ps.n-(k+1)<d.ps.n-k;omega,λe J h=>by unfold QP0 at h ⊢;rw[go q];exact h,rfl,rfl,_,QX0 d k (k+1),?_⟩
  repeat' first|exact tv|exact qRr|exact hw|refine aI ?_ ?_
 .have h:d.ps.n<=k:=by have:=qdf h;omega
  have hf:QR (bdQ d.ps) (d.ps.n-k) k=none:=by rw[show d.ps.n-k=0 by omega];rfl
  exact⟨_,.inr ⟨rfl,by rw[hf];rfl,rfl⟩,rfl,rfl,_,QW2,trivial⟩
def Qam:List (Prop×Ex×JSt):=[((QR (bdQ d.ps) d.ps.n 0).isNone=false,.ret,Hb),((QR (bdQ d.ps) d.ps.n 0).isNone=true,.exit 0,QJf)]
abbrev QDY(P:Program)(d:Puz):Hnd:={ hnd (mkE P Yz) 1 with loop:=λ_=>KJ 8 [] (QEr d (0:Nat)) (Qam d) }
theorem Qax(hl:d.ps.n<=1000)(G:Ctx)(hrd:G.rd=none)(hG:G.n=8):Q1 (mkE prog Yz) G (QDY prog d) (Qk f25):=by
 refine Kk (body:=QJ f25 0) (QP QA9) hrd (by kernel_rfl) ?_
 refine V7 (n0:=8) (QP QA9) (by omega) (λs hs=>Qw (QP QA9) 6 G _ hrd) (λs hs=>(by decide:8<=96)) ?_ (QWl d hl) (s0:=0) (Nat.zero_le _) ?_
 .rintro s e J (⟨_,_,rfl⟩|⟨_,_,rfl⟩)<;>exact(by decide:8<=96)
 .rintro e J (⟨rfl,h,rfl⟩|⟨rfl,h,rfl⟩)
  .exact⟨_,qmc,h,rfl,rfl⟩
  .exact⟨_,List.mem_cons_of_mem _ qmc,h,rfl,rfl⟩
def jJ:WF (Puz×Unit):=λ|(d,_)=>(decide (d.ps.n<=1000),.bool false d.ok,[])
def QOy:FC:=wFC jJ
theorem Qby :Kf (mkE prog Yz) (QDY prog d) f25 (QX.vals 0 ((d,()):Puz×Unit)) (QX.blks 0 ((d,()):Puz×Unit)) 8 = .need (true) (.br (!d.pK.ok) (.leaf (.bool true false) ([])) (.need (true) (.br (!Qu (d.ps.n:Int) (1:Int) (9:Int)) (.leaf (.bool true false) ([])) (.need (true) (.br (!Qu d.wide (1:Int) (9:Int)) (.leaf (.bool true false) ([])) (.need (true) (.br (!Qu d.high (1:Int) (9:Int)) (.leaf (.bool true false) ([])) (.br (i64.wrap (d.wide*d.high) != (d.ps.n:Int)) (.leaf (.bool true false) ([])) (.ak ([0=0,0=0,(0:Int)=0]++waa d++([cO=cO]++wad d)) (.both (.asm ((QR (bdQ d.ps) d.ps.n 0).isNone=false) (.all (λ(g0:Nat->Value)=>.leaf (.bool false false) ([])))) (.asm ((QR (bdQ d.ps) d.ps.n 0).isNone=true) (.all (λ(g1:Nat->Value)=>.leaf (.bool true true) ([])))))))))))))):=by kernel_rfl
theorem QUl:JP (mkE prog Yz) (Qk f25) 8 jJ (λx_=>(QDY prog x_.1)):=by
 refine⟨?_⟩;rintro⟨d,⟨⟩⟩ hp G h1 h2;exact Qax d (qdt hp) G h1 h2
theorem Qeb:JN (mkE prog Yz) f25 8 jJ (λx_=>(QDY prog x_.1)):=by
 refine⟨?_⟩;rintro⟨d,⟨⟩⟩ hp;refine⟨⟨rfl,by simp[jJ],rfl⟩,⟨?_⟩⟩
 rw[Qby d];simp only[jJ]at hp;have no:okR d=false->(QC.leaf (AV.bool true false) []).den (ZP 8 (jJ (d,())).2.1 (jJ (d,())).2.2):=λh=>KY (show false=d.ok by rw[<-QI4,h]) rfl
 refine QG rfl (QE (λh1=>no ?_) (λh1=>QG rfl (QE (λh2=>no ?_) (λh2=>QG rfl (QE (λh3=>no ?_) (λh3=>QG rfl (QE (λh4=>no ?_) (λh4=>QE (λh5=>no ?_) (λh5=>?_)))))))))
 .simp only[Bool.not_eq_true']at h1;simp only[okR,h1,Bool.false_and]
 .simp only[Bool.not_eq_true']at h2;simp only[okR,h2,Bool.false_and,Bool.and_false]
 .simp only[Bool.not_eq_true']at h3;simp only[okR,h3,Bool.false_and,Bool.and_false]
 .simp only[Bool.not_eq_true']at h4;simp only[okR,h4,Bool.false_and,Bool.and_false]
 .have h5:(i64.wrap (d.wide*d.high)==(d.ps.n:Int))=false:=by simpa using h5
  simp only[okR,h5,Bool.false_and,Bool.and_false]
 .have h5:(i64.wrap (d.wide*d.high)==(d.ps.n:Int))=true:=by simpa using h5
  simp only[Bool.not_eq_false']at h1 h2 h3 h4
  repeat' first|refine Q2 (show _=_ by with_reducible rfl) ?_|refine Q2 (show _<=_ from qlr _) ?_|refine Q2 (show QB _ _ _ _ from qRr) ?_
  refine Km (Qh λh=>Qj λg=>?_) (Qh λh=>Qj λg=>?_)
  .exact KY (show false=d.ok by rw[<-QI4];simp only[okR,h,Bool.and_false]) rfl
  .exact KY (show true=d.ok by rw[<-QI4];simp only[okR,h1,h2,h3,h4,h5,h,Bool.and_self]) rfl
theorem QWq:QQ prog 25 QOy:=
 JW (QP QA9) func25 (by kernel_rfl) (by kernel_rfl) (by decide) QUl Qeb
def Yy:Tab:=QZ Yz 25 QOy
theorem QAH:Qc Yy:=QA9.add QWq
structure QLE where
 off:Sp
 wide:Sp
 deep:Sp
instance : Enc QLE where
  enc x := .agg [.int false .i64 x.off.lo,.int false .i64 x.off.hi,.int false .i64 x.wide.lo,.int false .i64 x.wide.hi,.int false .i64 x.deep.lo,.int false .i64 x.deep.hi]
  dec | .agg [.int _ .i64 a0,.int _ .i64 a1,.int _ .i64 a2,.int _ .i64 a3,.int _ .i64 a4,.int _ .i64 a5] => some ⟨⟨a0,a1⟩,⟨a2,a3⟩,⟨a4,a5⟩⟩ | _ => none
  ok v x h := by
    split at h <;> (try (cases h; done))
    simp only[qsI]at h; subst h; exact⟨λ_=>rfl,rfl⟩
theorem QfT{p:Qf}{t h:Edge}(hB:Q7.B ⟨p,t,h⟩):((-100000<=(Qn p t h).lo/\(Qn p t h).lo<=100000) /\ -100000<=(Qn p t h).hi/\(Qn p t h).hi<=100000)/\((-100000<=(Qm t h).lo/\(Qm t h).lo<=100000) /\ -100000<=(Qm t h).hi/\(Qm t h).hi<=100000) /\
  ((-100000<=(Ql t h).lo/\(Ql t h).lo<=100000) /\ -100000<=(Ql t h).hi/\(Ql t h).hi<=100000)/\(0<=p.dK.lo/\p.dK.lo<=100)/\0<=p.dK.hi/\p.dK.hi<=100:=by
 obtain⟨h1,h2,h3⟩:=hB;unfold VG at h1;unfold VH at h2 h3;simp only[Qn,Qm,Ql]at *;omega
def XU(s:Sp)(lo hi:Int)(d:Sp):Bool:=decide ((-100000<=s.lo/\s.lo<=100000)/\(-100000<=s.hi/\s.hi<=100000)/\(-500<=lo/\lo<=500)/\(-500<=hi/\hi<=500)/\0<=d.hi/\d.hi<=100)
def QLI:Qf×Edge×Edge×Unit->Bool×AV:=λ|(p,(t,(h,_)))=>(decide (Q7.B ⟨p,t,h⟩),Enc.enc (⟨Qn p t h,Qm t h,Ql t h⟩:QLE))
def QSp:FC:=Ka (Kd QLI)
theorem QcM(p:Qf)(t:Edge)(h:Edge):KN (mkE prog Yy) (hnd (mkE prog Yy) 0) false f170 (KA.enc ((p,t,h,()):Qf×Edge×Edge×Unit)) [] 0=QC.leaf (AV.agg [vi (i64.wrap (i64.wrap (t.at_.lo+h.at_.lo)-p.length)),vi (i64.wrap (i64.wrap (t.at_.hi+h.at_.hi)-p.length)),vi (i64.wrap (h.wide.lo-t.wide.hi)),vi (i64.wrap (h.wide.hi-t.wide.lo)),vi (i64.wrap (h.deep.lo-t.deep.hi)),vi (i64.wrap (h.deep.hi-t.deep.lo))]) ([]):=by kernel_rfl
theorem QYZ:QQ prog 170 QSp:=by
 refine Ky QAH 0 func170 (by kernel_rfl) (by kernel_rfl) ?_
 rintro⟨p,t,h,⟨⟩⟩ hp;rw[QcM p t h];simp only[QLI,QC.den,AV.same,AV.sameL,and_true,true_and]at hp ⊢;have hq:=qdt hp;obtain⟨h1,h2,h3⟩:=hq;unfold VG at h1;unfold VH at h2 h3;simp only at h1 h2 h3;simp only[Enc.enc,AV.same,AV.sameL,true_and,and_true,Qn,Qm,Ql];rw[w64 (n:=t.at_.lo+h.at_.lo) (by omega) (by omega),w64 (n:=t.at_.hi+h.at_.hi) (by omega) (by omega)]
 rw[w64 (by omega) (by omega),w64 (by omega) (by omega),w64 (by omega) (by omega),w64 (by omega) (by omega),w64 (by omega) (by omega),w64 (by omega) (by omega)]
 refine⟨?_,?_,?_,?_,?_,?_⟩<;>omega
def QCD:Tab:=QZ Yy 170 QSp
theorem QRS:Qc QCD:=QAH.add QYZ
def QKJ:Sp×Int×Int×Sp×Unit->Bool×AV:=λ|(s,(lo,(hi,(d,_))))=>(XU s lo hi d,.bool false (Ki s.lo s.hi lo hi d.hi))
def QPQ:FC:=Ka (Kd QKJ)
theorem QU6(s:Sp)(lo:Int)(hi:Int)(d:Sp):KN (mkE prog QCD) (hnd (mkE prog QCD) 0) false f171 (KA.enc ((s,lo,hi,d,()):Sp×Int×Int×Sp×Unit)) [] 0=QC.br (decide (i64.wrap (s.lo*i64.wrap ((1000:Int)+d.hi))≥i64.wrap ((1000:Int)*lo))) (QC.leaf (AV.bool false (decide (i64.wrap (s.hi*i64.wrap ((1000:Int)+d.hi))<=i64.wrap ((1000:Int)*hi)))) ([])) (QC.leaf (AV.bool true false) ([])):=by kernel_rfl
theorem QU2:QQ prog 171 QPQ:=by
 refine Ky QRS 0 func171 (by kernel_rfl) (by kernel_rfl) ?_
 rintro⟨s,lo,hi,d,⟨⟩⟩ hp;rw[QU6 s lo hi d];simp only[QKJ,QC.den,AV.same,AV.sameL,and_true,true_and]at hp ⊢;have hq:=qdt hp;obtain⟨h1,h2,h3,h4,h5⟩:=hq;exact Hh h1 h2 h3 h4 h5
def ZI:Tab:=QZ QCD 171 QPQ
theorem Gd:Qc ZI:=QRS.add QU2
structure KT where
 s:Sp
 d:Sp
 lo:Int
 hi:Int
 n:Int
def KT.I(x:KT):JSt:=⟨40,[(1,vi x.lo),(2,vi x.hi),(4,.ptr 0 0 0),(7,.ptr 8 0 0),(9,vi x.n)],[(8,.cells 0 23 (Enc.enc x.d).cells),(0,.cells 0 23 (Enc.enc x.s).cells)],56⟩
def KT.pre(x:KT):Prop:=(-100000<=x.s.lo/\x.s.lo<=100000)/\(-100000<=x.s.hi/\x.s.hi<=100000)/\(-500<=x.lo/\x.lo<=0)/\(0<=x.hi/\x.hi<=500)/\(0<=x.d.lo/\x.d.lo<=100) /\ -100000<=x.n/\x.n<=100001
def KT.good(x:KT)(n:Int):Prop:=n<=min x.s.hi x.hi/\1000*x.lo<=n*(1000+x.d.lo)/\n*(1000+x.d.lo)<=1000*x.hi
def KT.yes(x:KT):Prop:=∃ n,x.n<=n/\x.good n
def QA7(x:KT)(e:Ex)(J:JSt):Prop:=(e = .ret/\J=⟨40,[(8,.bool true true)],[],0⟩/\x.yes)∨(e = .exit 0/\J=⟨40,[],[],0⟩/\¬ x.yes)
def QCr:Ex->List Nat
 | .normal=>[1,2,4,7,9]
 | .ret=>[8]
 | .exit _=>[]
def KT.mu(x:KT):Nat:=(min x.s.hi x.hi+1-x.n).toNat
def KT.next(x:KT):KT:={ x with n:=x.n+1 }
def QFP(x:KT):QC := .leaf (.tup [.nilp,.ptr 40 0 0,vi x.lo,vi x.hi,.ptr 0 0 0,.ptr 8 0 0,vi (i64.wrap (x.n+1))]) [(8,.cells 0 23 (Enc.enc x.d).cells),(0,.cells 0 23 (Enc.enc x.s).cells)]
theorem QbK(x:KT)(g:Nat->Value):exec (mkE prog ZI) (hnd (mkE prog ZI) 0) (QJ f172 0) (JSt.inst x.I g) (QEV QCr) =
  .br (decide (x.n <= min x.s.hi x.hi))
    (.br (decide (i64.wrap (x.n * i64.wrap (1000 + x.d.lo)) ≥ i64.wrap (1000 * x.lo)))
      (.br (decide (i64.wrap (x.n * i64.wrap (1000 + x.d.lo)) <= i64.wrap (1000 * x.hi)))
        (.leaf (.tup [.nili,.ptr 40 0 0,.bool true true]) [(8,.cells 0 23 (Enc.enc x.d).cells),(0,.cells 0 23 (Enc.enc x.s).cells)])
        (QFP x)) (QFP x))
    (.leaf (.tup [.ptr 0 0 0,.ptr 40 0 0]) [(8,.cells 0 23 (Enc.enc x.d).cells),(0,.cells 0 23 (Enc.enc x.s).cells)]) := by kernel_rfl
theorem QK7{x:KT}(h:x.pre):i64.wrap (x.n*i64.wrap (1000+x.d.lo))=x.n*(1000+x.d.lo)/\i64.wrap (1000*x.lo)=1000*x.lo/\i64.wrap (1000*x.hi)=1000*x.hi/\i64.wrap (x.n+1)=x.n+1:=by
 obtain⟨h1,h2,h3,h4,h5,h6,h7⟩:=h;have e:i64.wrap (1000+x.d.lo)=1000+x.d.lo:=w64 (by omega) (by omega)
 have m:=Int.mul_le_mul_of_nonneg_right h6 (show 0<=1000+x.d.lo by omega)
 have m':=Int.mul_le_mul_of_nonneg_right h7 (show 0<=1000+x.d.lo by omega)
 rw[e];exact⟨w64 (by omega) (by omega),w64 (by omega) (by omega),w64 (by omega) (by omega),w64 (by omega) (by omega)⟩
theorem QTV{x:KT}(hp:x.pre)(hn:x.n<=min x.s.hi x.hi)(hb:¬ (1000*x.lo<=x.n*(1000+x.d.lo)/\x.n*(1000+x.d.lo)<=1000*x.hi)):(QFP x).den (qJ (QMs KT.I KT.pre KT.mu QA7 0 QCr x) (Go.SX.Leaves QA7 0 QCr x)):=by
 unfold QFP;rw[(QK7 hp).2.2.2];refine⟨x.next,λi=>i,?_,?_,?_,?_⟩
 .obtain⟨h1,h2,h3,h4,h5,h6,h7⟩:=hp;refine⟨h1,h2,h3,h4,h5,?_,?_⟩<;>simp only[KT.next]<;>omega
 .simp only[KT.mu,KT.next];omega
 .intro e J hR
  have hy:x.next.yes↔x.yes:=by
   constructor
   .rintro⟨n,h1,h2⟩;simp only[KT.next]at h1;exact⟨n,by omega,h2⟩
   .rintro⟨n,h1,h2⟩;rcases(show n=x.n∨x.n+1<=n by omega)with rfl|h3
    .exact absurd h2.2 hb
    .exact⟨n,h3,h2⟩
  unfold QA7 at *;rw[hy]at hR;exact hR
 .refine XH.same rfl rfl ?_ ?_ rfl rfl
  .exact⟨⟨rfl,rfl⟩,⟨rfl,rfl⟩,⟨rfl,rfl,rfl⟩,⟨rfl,rfl,rfl⟩,⟨rfl,rfl⟩,trivial⟩
  .exact⟨⟨_,rfl,rfl,rfl,⟨rfl,rfl⟩,⟨rfl,rfl⟩,trivial⟩,⟨_,rfl,rfl,rfl,⟨rfl,rfl⟩,⟨rfl,rfl⟩,trivial⟩,trivial⟩
theorem QZG:QGt KT.I KT.pre KT.mu QA7 0 QCr (mkE prog ZI) (hnd (mkE prog ZI) 0) (QJ f172 0):=by
 intro x g hp;rw[QbK];obtain⟨e1,e2,e3,_⟩:=QK7 hp;simp only[QC.den,e1,e2,e3,qdE,decide_eq_false_iff_not];refine⟨λhn=>⟨λh1=>⟨λh2=>?_,λh2=>?_⟩,λh1=>?_⟩,λhn=>?_⟩
 .exact⟨⟨40,[(8,.bool true true)],[],0⟩,λi=>i,.inl ⟨rfl,rfl,x.n,Int.le_refl _,hn,h1,h2⟩,XH.same rfl rfl ⟨rfl,trivial⟩ trivial rfl rfl⟩
 .exact QTV hp hn (λh=>h2 h.2)
 .exact QTV hp hn (λh=>h1 h.1)
 .refine⟨⟨40,[],[],0⟩,λi=>i,.inr ⟨rfl,rfl,?_⟩,XH.same rfl rfl trivial trivial rfl rfl⟩;rintro⟨n,h1,h2,_⟩;omega
instance (x : KT) : Decidable x.pre := by unfold KT.pre; infer_instance
def ZW:Code->St->(Ex->St->QC)->QC:=λ_ st K=>match st.tm.length==40&&Vw st.hp,QH st.tm 1,QH st.tm 2,QH st.tm 4,QH st.tm 7,QH st.tm 9,Go.SX.look st.hp 8,Go.SX.look st.hp 0 with
 | true,.int _ .i64 lo,.int _ .i64 hi,.ptr 0 0 0,.ptr 8 0 0,.int _ .i64 n,some (.cells 0 23 [.int _ .i64 dlo,.int _ .i64 dhi]),some (.cells 0 23 [.int _ .i64 slo,.int _ .i64 shi])=>
  .need (decide (KT.pre ⟨⟨slo,shi⟩,⟨dlo,dhi⟩,lo,hi,n⟩)) (.both (.asm (KT.yes ⟨⟨slo,shi⟩,⟨dlo,dhi⟩,lo,hi,n⟩) (.all λg=>K .ret (JSt.inst ⟨40,[(8,.bool true true)],[],0⟩ g)))
   (.asm (¬ KT.yes ⟨⟨slo,shi⟩,⟨dlo,dhi⟩,lo,hi,n⟩) (.all λg=>K (.exit 0) (JSt.inst ⟨40,[],[],0⟩ g))))
 | _, _, _, _, _, _, _, _ => .fail "some"
theorem QgK(body:Code)(st:St)(K:Ex->St->QC)(T:AV->List (Nat×Blk)->Prop)(h:(ZW body st K).den T):∃ s q ls',KT.pre s/\XH 0 q ls' st.tm.length (ls'.map (QH st.tm)) st.hp (KT.I s)/\∀ e J g,QA7 s e J->(K e (J.inst g)).den T:=by
 unfold ZW at h;split at h<;>(try (exact h.elim))
 rename_i k1 lo k2 hi k9 n kd dlo ke dhi ks slo kt shi c1 e1 e2 e4 e7 e9 h8 h0;simp only[QC.den,qdE]at h;rw[qbA]at c1;refine⟨⟨⟨slo,shi⟩,⟨dlo,dhi⟩,lo,hi,n⟩,λi=>i,[1,2,4,7,9],h.1,XH.same rfl ?_ ?_ ?_ rfl rfl ?_,?_⟩
 .exact beq_iff_eq.1 c1.1
 .simp only[List.map_cons,List.map_nil, *];exact⟨⟨rfl,rfl⟩,⟨rfl,rfl⟩,⟨rfl,rfl,rfl⟩,⟨rfl,rfl,rfl⟩,⟨rfl,rfl⟩,trivial⟩
 .exact⟨⟨_,h8,rfl,rfl,⟨rfl,rfl⟩,⟨rfl,rfl⟩,trivial⟩,⟨_,h0,rfl,rfl,⟨rfl,rfl⟩,⟨rfl,rfl⟩,trivial⟩,trivial⟩
 .exact c1.2
 .rintro e J g (⟨rfl,rfl,hy⟩|⟨rfl,rfl,hy⟩)
  .exact h.2.1 hy g
  .exact h.2.2 hy g
theorem QZR(G:Ctx)(hG:G.n=0)(hrd:G.rd=none):Q1 (mkE prog ZI) G { hnd (mkE prog ZI) 0 with loop:=ZW } (Qk f172):=
 ⟨λb hb=>by
  have e:K5 (Qk f172)=[.loop (QJ f172 0)]:=by kernel_rfl
  rw[e,List.mem_singleton]at hb;subst hb;exact QYg (QP Gd) (by omega) (Qw (QP Gd) 0 G _ hrd) (λ_=>Nat.zero_le _) QZG (λst K T h=>QgK (QJ f172 0) st K T h),(Qw (QP Gd) 0 G (Qk f172) hrd).call,(Qw (QP Gd) 0 G (Qk f172) hrd).yield⟩
def Kx(s:Sp)(lo hi:Int)(d:Sp):Bool:=decide (s.lo<=s.hi/\(-100000<=s.lo/\s.lo<=100000)/\(-100000<=s.hi/\s.hi<=100000)/\(-500<=lo/\lo<=0)/\(0<=hi/\hi<=500)/\0<=d.lo/\d.lo<=100)
def QO6:Sp×Int×Int×Sp×Unit->Bool×AV:=λ|(s,(lo,(hi,(d,_))))=>(Kx s lo hi d,.bool false (Qx s.lo s.hi lo hi d.lo))
def QRw:FC:=Ka (Kd QO6)
theorem Qce(s:Sp)(lo:Int)(hi:Int)(d:Sp):KN (mkE prog ZI) { hnd (mkE prog ZI) 0 with loop:=ZW } false f172 (KA.enc ((s,lo,hi,d,()):Sp×Int×Int×Sp×Unit)) [] 0=QC.need (decide (KT.mk s d lo hi (max s.lo lo)).pre) (QC.both (QC.asm ((KT.mk s d lo hi (max s.lo lo)).yes) (QC.all (λ(g0:Nat->Value)=>QC.leaf (AV.bool true true) ([])))) (QC.asm (¬(KT.mk s d lo hi (max s.lo lo)).yes) (QC.all (λ(g1:Nat->Value)=>QC.leaf (AV.bool true false) ([]))))):=by kernel_rfl
theorem Qdy:QQ prog 172 QRw:=by
 refine QGL (QP Gd) func172 (by kernel_rfl) (by kernel_rfl) QZR ?_
 rintro⟨s,lo,hi,d,⟨⟩⟩ hp;rw[Qce s lo hi d];simp only[QO6,QC.den,AV.same,AV.sameL,and_true,true_and]at hp ⊢;have hq:=qdt hp;obtain⟨h0,h1,h2,h3,h4,h5⟩:=hq;unfold KT.yes KT.good;refine⟨qde ⟨h1,h2,h3,h4,h5,?_,?_⟩,?_,?_⟩
 .show -100000<=max s.lo lo;omega
 .show max s.lo lo<=100001;omega
 .rintro⟨n,g1,g2,g3,g4⟩ _
  dsimp only at g1 g2 g3 g4
  exact(Qd0 (n:=n) (by omega) (by omega) (by omega) (by omega) (by omega) g3 g4).symm
 .intro hn _
  dsimp only at hn
  refine(QVl (by omega) (by omega) (by omega) h0 λn g1 g2 g3=>hn ⟨n,g1,g2,g3⟩).symm
def QFH:Tab:=QZ ZI 172 QRw
theorem QSE:Qc QFH:=Gd.add Qdy
theorem QLs{p:Qf}{t h:Edge}(h1:p.ok=true)(h2:t.ok=true)(h3:h.ok=true)(ht:t.kind=1)(hh:h.kind=2):(Q7.B ⟨p,t,h⟩/\i64.wrap (0-p.aK) = -p.aK)/\(XU (Qn p t h) (-p.aK) p.aK p.dK=true/\XU (Qm t h) 0 p.oK p.dK=true/\XU (Ql t h) 0 p.oK p.dK=true) /\
  Kx (Qn p t h) (-p.aK) p.aK p.dK=true/\Kx (Qm t h) 0 p.oK p.dK=true/\Kx (Ql t h) 0 p.oK p.dK=true:=by
 have hB:=QJA h1 h2 h3 ht hh;have hb:=QfT hB;have h1':=hB.1;unfold VG at h1'
 have s2:(t.at_.lo<=t.at_.hi/\t.wide.lo<=t.wide.hi/\t.deep.lo<=t.deep.hi):=by
  unfold Edge.ok Sp.isIn at h2;simp[ht]at h2;omega
 have s3:(h.at_.lo<=h.at_.hi/\h.wide.lo<=h.wide.hi/\h.deep.lo<=h.deep.hi):=by
  unfold Edge.ok Sp.isIn at h3;simp[hh]at h3;omega
 obtain⟨o1,o2,o3,o4⟩:=hb;simp only at h1';have n1:(Qn p t h).lo<=(Qn p t h).hi:=by simp only[Qn];omega
 have n2:(Qm t h).lo<=(Qm t h).hi:=by simp only[Qm];omega
 have n3:(Ql t h).lo<=(Ql t h).hi:=by simp only[Ql];omega
 unfold XU Kx;refine⟨⟨hB,?_⟩,⟨qde ?_,qde ?_,qde ?_⟩,qde ?_,qde ?_,qde ?_⟩
 .rw[w64 (by omega) (by omega)];omega
 all_goals omega
def QQY:Qf×Edge×Edge×Unit->Bool×AV:=λ|(p,(a,(b,_)))=>(okP p a b,.int false .i64 (Va p a b))
def QK8:FC:=Ka (Kd QQY)
theorem QiM(p:Qf)(a:Edge)(b:Edge):KN (mkE prog QFH) (hnd (mkE prog QFH) 4) false f155 (KA.enc ((p,a,b,()):Qf×Edge×Edge×Unit)) [] 0 = .br (a.kind==1) (.br (b.kind==2) (.need (decide (Q7.mk p a b).B) (.need (XU (Qn p a b) (i64.wrap ((0:Int)-p.aK)) p.aK p.dK) (.br (Ki (Qn p a b).lo (Qn p a b).hi (i64.wrap ((0:Int)-p.aK)) p.aK p.dK.hi) (.need (XU (Qm a b) (0:Int) p.oK p.dK) (.br (Ki (Qm a b).lo (Qm a b).hi (0:Int) p.oK p.dK.hi) (.need (XU (Ql a b) (0:Int) p.oK p.dK) (.br (Ki (Ql a b).lo (Ql a b).hi (0:Int) p.oK p.dK.hi) (.leaf (vj 2) ([])) (.need (Kx (Qn p a b) (i64.wrap ((0:Int)-p.aK)) p.aK p.dK) (.br (Qx (Qn p a b).lo (Qn p a b).hi (i64.wrap ((0:Int)-p.aK)) p.aK p.dK.lo) (.need (Kx (Qm a b) (0:Int) p.oK p.dK) (.br (Qx (Qm a b).lo (Qm a b).hi (0:Int) p.oK p.dK.lo) (.need (Kx (Ql a b) (0:Int) p.oK p.dK) (.br (Qx (Ql a b).lo (Ql a b).hi (0:Int) p.oK p.dK.lo) (.leaf (vj 1) ([])) (.leaf (vj 0) ([])))) (.leaf (vj 0) ([])))) (.leaf (vj 0) ([])))))) (.need (Kx (Qn p a b) (i64.wrap ((0:Int)-p.aK)) p.aK p.dK) (.br (Qx (Qn p a b).lo (Qn p a b).hi (i64.wrap ((0:Int)-p.aK)) p.aK p.dK.lo) (.need (Kx (Qm a b) (0:Int) p.oK p.dK) (.br (Qx (Qm a b).lo (Qm a b).hi (0:Int) p.oK p.dK.lo) (.need (Kx (Ql a b) (0:Int) p.oK p.dK) (.br (Qx (Ql a b).lo (Ql a b).hi (0:Int) p.oK p.dK.lo) (.leaf (vj 1) ([])) (.leaf (vj 0) ([])))) (.leaf (vj 0) ([])))) (.leaf (vj 0) ([])))))) (.need (Kx (Qn p a b) (i64.wrap ((0:Int)-p.aK)) p.aK p.dK) (.br (Qx (Qn p a b).lo (Qn p a b).hi (i64.wrap ((0:Int)-p.aK)) p.aK p.dK.lo) (.need (Kx (Qm a b) (0:Int) p.oK p.dK) (.br (Qx (Qm a b).lo (Qm a b).hi (0:Int) p.oK p.dK.lo) (.need (Kx (Ql a b) (0:Int) p.oK p.dK) (.br (Qx (Ql a b).lo (Ql a b).hi (0:Int) p.oK p.dK.lo) (.leaf (vj 1) ([])) (.leaf (vj 0) ([])))) (.leaf (vj 0) ([])))) (.leaf (vj 0) ([]))))))) (.br (b.kind==1) (.br (a.kind==2) (.need (decide (Q7.mk p b a).B) (.need (XU (Qn p b a) (i64.wrap ((0:Int)-p.aK)) p.aK p.dK) (.br (Ki (Qn p b a).lo (Qn p b a).hi (i64.wrap ((0:Int)-p.aK)) p.aK p.dK.hi) (.need (XU (Qm b a) (0:Int) p.oK p.dK) (.br (Ki (Qm b a).lo (Qm b a).hi (0:Int) p.oK p.dK.hi) (.need (XU (Ql b a) (0:Int) p.oK p.dK) (.br (Ki (Ql b a).lo (Ql b a).hi (0:Int) p.oK p.dK.hi) (.leaf (vj 2) ([])) (.need (Kx (Qn p b a) (i64.wrap ((0:Int)-p.aK)) p.aK p.dK) (.br (Qx (Qn p b a).lo (Qn p b a).hi (i64.wrap ((0:Int)-p.aK)) p.aK p.dK.lo) (.need (Kx (Qm b a) (0:Int) p.oK p.dK) (.br (Qx (Qm b a).lo (Qm b a).hi (0:Int) p.oK p.dK.lo) (.need (Kx (Ql b a) (0:Int) p.oK p.dK) (.br (Qx (Ql b a).lo (Ql b a).hi (0:Int) p.oK p.dK.lo) (.leaf (vj 1) ([])) (.leaf (vj 0) ([])))) (.leaf (vj 0) ([])))) (.leaf (vj 0) ([])))))) (.need (Kx (Qn p b a) (i64.wrap ((0:Int)-p.aK)) p.aK p.dK) (.br (Qx (Qn p b a).lo (Qn p b a).hi (i64.wrap ((0:Int)-p.aK)) p.aK p.dK.lo) (.need (Kx (Qm b a) (0:Int) p.oK p.dK) (.br (Qx (Qm b a).lo (Qm b a).hi (0:Int) p.oK p.dK.lo) (.need (Kx (Ql b a) (0:Int) p.oK p.dK) (.br (Qx (Ql b a).lo (Ql b a).hi (0:Int) p.oK p.dK.lo) (.leaf (vj 1) ([])) (.leaf (vj 0) ([])))) (.leaf (vj 0) ([])))) (.leaf (vj 0) ([])))))) (.need (Kx (Qn p b a) (i64.wrap ((0:Int)-p.aK)) p.aK p.dK) (.br (Qx (Qn p b a).lo (Qn p b a).hi (i64.wrap ((0:Int)-p.aK)) p.aK p.dK.lo) (.need (Kx (Qm b a) (0:Int) p.oK p.dK) (.br (Qx (Qm b a).lo (Qm b a).hi (0:Int) p.oK p.dK.lo) (.need (Kx (Ql b a) (0:Int) p.oK p.dK) (.br (Qx (Ql b a).lo (Ql b a).hi (0:Int) p.oK p.dK.lo) (.leaf (vj 1) ([])) (.leaf (vj 0) ([])))) (.leaf (vj 0) ([])))) (.leaf (vj 0) ([]))))))) (.leaf (vj 0) ([]))) (.leaf (vj 0) ([])))) (.br (b.kind==1) (.br (a.kind==2) (.need (decide (Q7.mk p b a).B) (.need (XU (Qn p b a) (i64.wrap ((0:Int)-p.aK)) p.aK p.dK) (.br (Ki (Qn p b a).lo (Qn p b a).hi (i64.wrap ((0:Int)-p.aK)) p.aK p.dK.hi) (.need (XU (Qm b a) (0:Int) p.oK p.dK) (.br (Ki (Qm b a).lo (Qm b a).hi (0:Int) p.oK p.dK.hi) (.need (XU (Ql b a) (0:Int) p.oK p.dK) (.br (Ki (Ql b a).lo (Ql b a).hi (0:Int) p.oK p.dK.hi) (.leaf (vj 2) ([])) (.need (Kx (Qn p b a) (i64.wrap ((0:Int)-p.aK)) p.aK p.dK) (.br (Qx (Qn p b a).lo (Qn p b a).hi (i64.wrap ((0:Int)-p.aK)) p.aK p.dK.lo) (.need (Kx (Qm b a) (0:Int) p.oK p.dK) (.br (Qx (Qm b a).lo (Qm b a).hi (0:Int) p.oK p.dK.lo) (.need (Kx (Ql b a) (0:Int) p.oK p.dK) (.br (Qx (Ql b a).lo (Ql b a).hi (0:Int) p.oK p.dK.lo) (.leaf (vj 1) ([])) (.leaf (vj 0) ([])))) (.leaf (vj 0) ([])))) (.leaf (vj 0) ([])))))) (.need (Kx (Qn p b a) (i64.wrap ((0:Int)-p.aK)) p.aK p.dK) (.br (Qx (Qn p b a).lo (Qn p b a).hi (i64.wrap ((0:Int)-p.aK)) p.aK p.dK.lo) (.need (Kx (Qm b a) (0:Int) p.oK p.dK) (.br (Qx (Qm b a).lo (Qm b a).hi (0:Int) p.oK p.dK.lo) (.need (Kx (Ql b a) (0:Int) p.oK p.dK) (.br (Qx (Ql b a).lo (Ql b a).hi (0:Int) p.oK p.dK.lo) (.leaf (vj 1) ([])) (.leaf (vj 0) ([])))) (.leaf (vj 0) ([])))) (.leaf (vj 0) ([])))))) (.need (Kx (Qn p b a) (i64.wrap ((0:Int)-p.aK)) p.aK p.dK) (.br (Qx (Qn p b a).lo (Qn p b a).hi (i64.wrap ((0:Int)-p.aK)) p.aK p.dK.lo) (.need (Kx (Qm b a) (0:Int) p.oK p.dK) (.br (Qx (Qm b a).lo (Qm b a).hi (0:Int) p.oK p.dK.lo) (.need (Kx (Ql b a) (0:Int) p.oK p.dK) (.br (Qx (Ql b a).lo (Ql b a).hi (0:Int) p.oK p.dK.lo) (.leaf (vj 1) ([])) (.leaf (vj 0) ([])))) (.leaf (vj 0) ([])))) (.leaf (vj 0) ([]))))))) (.leaf (vj 0) ([]))) (.leaf (vj 0) ([]))):=by kernel_rfl
theorem QU9:QQ prog 155 QK8:=by
 refine Ky QSE 4 func155 (by kernel_rfl) (by kernel_rfl) ?_
 rintro⟨p,a,b,⟨⟩⟩ hp;rw[QiM p a b];simp only[QQY,QC.den,AV.same,AV.sameL,and_true,true_and]at hp ⊢;unfold okP at hp;simp only[qbA]at hp;obtain⟨h1,h2,h3⟩:=hp;unfold Va
 by_cases c1:a.kind=1/\b.kind=2
 .obtain⟨ha,hb⟩:=c1;obtain⟨⟨q1,q2⟩,⟨q3,q4,q5⟩,q6,q7,q8⟩:=QLs h1 h2 h3 ha hb;rw[if_neg (by omega),if_pos ⟨ha,hb⟩,QAz]
  simp only[ha,hb,q1,q2,q3,q4,q5,q6,q7,q8,alw,may,beq_self_eq_true,decide_true];generalize Ki (Qn p a b).lo (Qn p a b).hi (-p.aK) p.aK p.dK.hi=b1;generalize Ki (Qm a b).lo (Qm a b).hi 0 p.oK p.dK.hi=b2;generalize Ki (Ql a b).lo (Ql a b).hi 0 p.oK p.dK.hi=b3;generalize Qx (Qn p a b).lo (Qn p a b).hi (-p.aK) p.aK p.dK.lo=b4;generalize Qx (Qm a b).lo (Qm a b).hi 0 p.oK p.dK.lo=b5;generalize Qx (Ql a b).lo (Ql a b).hi 0 p.oK p.dK.lo=b6;cases b1<;>cases b2<;>cases b3<;>cases b4<;>cases b5<;>cases b6<;>simp
 by_cases c2:b.kind=1/\a.kind=2
 .obtain⟨hb,ha⟩:=c2;obtain⟨⟨q1,q2⟩,⟨q3,q4,q5⟩,q6,q7,q8⟩:=QLs h1 h3 h2 hb ha;rw[if_pos ha,if_pos hb,QAz];simp only[ha,hb,q1,q2,q3,q4,q5,q6,q7,q8,alw,may,beq_self_eq_true,decide_true];generalize Ki (Qn p b a).lo (Qn p b a).hi (-p.aK) p.aK p.dK.hi=b1;generalize Ki (Qm b a).lo (Qm b a).hi 0 p.oK p.dK.hi=b2;generalize Ki (Ql b a).lo (Ql b a).hi 0 p.oK p.dK.hi=b3;generalize Qx (Qn p b a).lo (Qn p b a).hi (-p.aK) p.aK p.dK.lo=b4;generalize Qx (Qm b a).lo (Qm b a).hi 0 p.oK p.dK.lo=b5;generalize Qx (Ql b a).lo (Ql b a).hi 0 p.oK p.dK.lo=b6
  cases b1<;>cases b2<;>cases b3<;>cases b4<;>cases b5<;>cases b6<;>simp
 have e0:(if a.kind=2 then (if b.kind=1 then XF p b a else 0)else if a.kind=1/\b.kind=2 then XF p a b else 0)=0:=by
  split
  .rename_i ha;rw[if_neg (λh=>c2 ⟨h,ha⟩)]
  .rfl
 rw[e0];simp only[beq_iff_eq,beq_eq_false_iff_ne];refine⟨λha=>⟨λhb=>absurd ⟨ha,hb⟩ c1,λ_=>⟨λhb=>⟨λh=>absurd ⟨hb,h⟩ c2,λ_=>trivial⟩,λ_=>trivial⟩⟩,λ_=>⟨λhb=>⟨λh=>absurd ⟨hb,h⟩ c2,λ_=>trivial⟩,λ_=>trivial⟩⟩
def QFJ:Tab:=QZ QFH 155 QK8
theorem QKk:Qc QFJ:=QSE.add QU9
def QQp:Qf×Edge×Edge×Unit->Bool×AV:=λ|(p,(a,(b,_)))=>(true,.tup [.int false .i64 (KG p a b).1,.int false .i64 (KG p a b).2])
def QKd:FC:=Ka (Kd QQp)
theorem QgY(p:Qf)(a:Edge)(b:Edge):KN (mkE prog QFJ) (hnd (mkE prog QFJ) 4) false f132 (KA.enc ((p,a,b,()):Qf×Edge×Edge×Unit)) [] 0=QC.need (true) (QC.br (!p.ok) (QC.leaf (AV.tup [vj (0:Int),vj (1:Int)]) ([])) (QC.need (true) (QC.br (!a.ok) (QC.leaf (AV.tup [vj (0:Int),vj (1:Int)]) ([])) (QC.need (true) (QC.br (!b.ok) (QC.leaf (AV.tup [vj (0:Int), vj (1:Int)]) ([])) (QC.need (okP p a b) (QC.leaf (AV.tup [vi (Va p a b),vj (0:Int)]) ([])))))))):=by kernel_rfl
theorem QaC:QQ prog 132 QKd:=by
 refine Ky QKk 4 func132 (by kernel_rfl) (by kernel_rfl) ?_
 rintro⟨p,a,b,⟨⟩⟩ hp;rw[QgY p a b];simp only[QQp,QC.den,AV.same,AV.sameL,and_true,true_and]at hp ⊢;unfold KG okP;cases p.ok<;>cases a.ok<;>cases b.ok<;>simp
def Wh:Tab:=QZ QFJ 132 QKd
theorem QFc:Qc Wh:=QKk.add QaC
def QAG:WF (Puz×Edge×Edge×Unit):=λ|(d,(a,(b,_)))=>(decide (d.ps.n<=1000),.int false .i64 (KG d.pK a b).1,[])
def QQ5:FC:=wFC QAG
theorem QXN(a:Edge)(b:Edge):Kf (mkE prog Wh) (hnd (mkE prog Wh) 0) f90 (QX.vals 0 ((d,a,b,()):Puz×Edge×Edge×Unit)) (QX.blks 0 ((d,a,b,()):Puz×Edge×Edge×Unit)) 8=QC.need (true) (QC.leaf (vi (KG d.pK a b).1) ([])):=by kernel_rfl
theorem QiC:JP (mkE prog Wh) (Qk f90) 8 QAG (λx_=>(hnd (mkE prog Wh) 0)):=by
 refine⟨?_⟩;rintro⟨d,⟨a,⟨b,⟨⟩⟩⟩⟩ hp G h1 h2;exact Qw (QP QFc) 0 G _ h1
theorem QWV:JN (mkE prog Wh) f90 8 QAG (λx_=>(hnd (mkE prog Wh) 0)):=by
 refine⟨?_⟩;rintro⟨d,⟨a,⟨b,⟨⟩⟩⟩⟩ hp;refine⟨⟨rfl,by simp[QAG],rfl⟩,⟨?_⟩⟩
 rw[QXN d a b];simp only[QAG]at hp;refine QG rfl ?_
 .exact KY ⟨rfl,rfl⟩ rfl
theorem Qaa:QQ prog 90 QQ5:=
 JW (QP QFc) func90 (by kernel_rfl) (by kernel_rfl) (by decide) QiC QWV
def qq:Tab:=QZ Wh 90 QQ5
theorem QJD:Qc qq:=QFc.add Qaa
def jv:WF (Puz×Int×Unit):=λ|(d,(p,_))=>(true,.int false .i64 (tnV d p),[])
def QKN:FC:=wFC jv
theorem QaH(p:Int):Kf (mkE prog qq) (hnd (mkE prog qq) 0) f34 (QX.vals 0 ((d,p,()):Puz×Int×Unit)) (QX.blks 0 ((d,p,()):Puz×Int×Unit)) 8=QC.br (d.turn) (QC.br (decide (p>(0:Int))) (QC.leaf (vj (4:Int)) ([])) (QC.leaf (vj (1:Int)) ([]))) (QC.leaf (vj (1:Int)) ([])):=by kernel_rfl
theorem QU7:JP (mkE prog qq) (Qk f34) 8 jv (λx_=>(hnd (mkE prog qq) 0)):=by
 refine⟨?_⟩;rintro⟨d,⟨p,⟨⟩⟩⟩ hp G h1 h2;exact Qw (QP QJD) 0 G _ h1
theorem QZL:JN (mkE prog qq) f34 8 jv (λx_=>(hnd (mkE prog qq) 0)):=by
 refine⟨?_⟩;rintro⟨d,⟨p,⟨⟩⟩⟩ hp;refine⟨⟨rfl,by simp[jv],rfl⟩,⟨?_⟩⟩
 rw[QaH d p];simp only[jv]at hp;have fin:∀(v:Int) (c:Bool),v=tnV d p->(QC.leaf (.int c .i64 v) []).den (ZP 8 (jv (d,p,())).2.1 (jv (d,p,())).2.2):=λv c h=>KY ⟨rfl,h⟩ rfl;refine QE (λb0=>?_) (λb0=>?_);refine QE ?_ ?_<;>intro b1
 .refine fin _ _ ?_;rw[tnV,b0,show decide (0<p)=true from b1];rfl
 .refine fin _ _ ?_;rw[tnV,b0,show decide (0<p)=false from b1];rfl
 .refine fin _ _ ?_;rw[tnV,b0];rfl
theorem QVW:QQ prog 34 QKN:=
 JW (QP QJD) func34 (by kernel_rfl) (by kernel_rfl) (by decide) QU7 QZL
def qh:Tab:=QZ qq 34 QKN
theorem QGF:Qc qh:=QJD.add QVW
def H8:WF (Puz×Lay×Int×Unit):=λ|(d,(x,(s,_)))=>(decide (0<=x.piece/\x.piece<d.ps.n/\0<=x.turn/\x.turn<4/\0<=s/\s<4),Enc.enc (Kq (d.ps.get x.piece.toNat) (onS x s).toNat),[])
def QUH:FC:=wFC H8
theorem QaZ(x:Lay)(s:Int):Kf (mkF prog qh) (hnd (mkF prog qh) 0) f33 (QX.vals 0 ((d,x,s,()):Puz×Lay×Int×Unit)) (QX.blks 0 ((d,x,s,()):Puz×Lay×Int × Unit)) 8 = .need (decide ((0:Int)<=x.piece/\x.piece<(d.ps.n:Int))&&decide (d.ps.n<=d.ps.n)) (.need (decide ((0:Int)<=(i64.wrap (i64.wrap (s+4)-x.turn)).tmod (4:Int)/\(i64.wrap (i64.wrap (s+4)-x.turn)).tmod (4:Int)<4)) (.br (decide ((i64.wrap (i64.wrap (s+4)-x.turn)).tmod (4:Int)=0)) (.need (decide (x.piece.toNat<d.ps.n)) (.leaf (.agg [vi (d.ps.get x.piece.toNat).up.kind,vi (d.ps.get x.piece.toNat).up.at_.lo,vi (d.ps.get x.piece.toNat).up.at_.hi,vi (d.ps.get x.piece.toNat).up.wide.lo,vi (d.ps.get x.piece.toNat).up.wide.hi,vi (d.ps.get x.piece.toNat).up.deep.lo,vi (d.ps.get x.piece.toNat).up.deep.hi]) ([]))) (.br (decide ((i64.wrap (i64.wrap (s+4)-x.turn)).tmod (4:Int)=1)) (.need (decide (x.piece.toNat<d.ps.n)) (.leaf (.agg [vi (d.ps.get x.piece.toNat).right.kind,vi (d.ps.get x.piece.toNat).right.at_.lo,vi (d.ps.get x.piece.toNat).right.at_.hi,vi (d.ps.get x.piece.toNat).right.wide.lo,vi (d.ps.get x.piece.toNat).right.wide.hi,vi (d.ps.get x.piece.toNat).right.deep.lo,vi (d.ps.get x.piece.toNat).right.deep.hi]) ([]))) (.br (decide ((i64.wrap (i64.wrap (s+4)-x.turn)).tmod (4:Int)=2)) (.need (decide (x.piece.toNat<d.ps.n)) (.leaf (.agg [vi (d.ps.get x.piece.toNat).down.kind,vi (d.ps.get x.piece.toNat).down.at_.lo,vi (d.ps.get x.piece.toNat).down.at_.hi,vi (d.ps.get x.piece.toNat).down.wide.lo,vi (d.ps.get x.piece.toNat).down.wide.hi,vi (d.ps.get x.piece.toNat).down.deep.lo,vi (d.ps.get x.piece.toNat).down.deep.hi]) ([]))) (.need (decide (x.piece.toNat<d.ps.n)) (.leaf (.agg [vi (d.ps.get x.piece.toNat).left.kind,vi (d.ps.get x.piece.toNat).left.at_.lo,vi (d.ps.get x.piece.toNat).left.at_.hi,vi (d.ps.get x.piece.toNat).left.wide.lo,vi (d.ps.get x.piece.toNat).left.wide.hi,vi (d.ps.get x.piece.toNat).left.deep.lo,vi (d.ps.get x.piece.toNat).left.deep.hi]) ([]))))))):=by kernel_rfl
theorem QUZ:JP (mkF prog qh) (Qk f33) 8 H8 (λx_=>(hnd (mkF prog qh) 0)):=by
 refine⟨?_⟩;rintro⟨d,⟨x,⟨s,⟨⟩⟩⟩⟩ hp G h1 h2;exact Qw (Kl QGF) 0 G _ h1
theorem QYJ:JN (mkF prog qh) f33 8 H8 (λx_=>(hnd (mkF prog qh) 0)):=by
 refine⟨?_⟩;rintro⟨d,⟨x,⟨s,⟨⟩⟩⟩⟩ hp;refine⟨⟨rfl,by simp[H8],rfl⟩,⟨?_⟩⟩
 rw[QaZ d x s];simp only[H8]at hp;obtain⟨h1,h2,h3,h4,h5,h6⟩:=qdt hp
 have hw:(i64.wrap (i64.wrap (s+4)-x.turn)).tmod 4=onS x s:=by
  rw[w64 (n:=s+4) (by omega) (by omega),w64 (by omega) (by omega)];rfl
 have ho:0<=onS x s/\onS x s<4:=⟨Int.tmod_nonneg 4 (by omega),Int.tmod_lt_of_pos _ (by decide)⟩
 rw[hw];have hc:decide (x.piece.toNat<d.ps.n)=true:=qde (by omega)
 iterate 2 (refine QG ?_ ?_;rotate_left)
 refine QE (λb0=>?_) (λb0=>?_);refine QG ?_ ?_;rotate_left
 .have e:onS x s=0:=qdt b0;refine KY (v:=Enc.enc (Kq (d.ps.get x.piece.toNat) (onS x s).toNat)) ?_ rfl;rw[e];show AV.same _ (Enc.enc (d.ps.get x.piece.toNat).up);simp only[Enc.enc,AV.same,AV.sameL,and_self]
 refine QE (λb1=>?_) (λb1=>?_);refine QG ?_ ?_;rotate_left
 .have e:onS x s=1:=qdt b1;refine KY (v:=Enc.enc (Kq (d.ps.get x.piece.toNat) (onS x s).toNat)) ?_ rfl;rw[e];show AV.same _ (Enc.enc (d.ps.get x.piece.toNat).right);simp only[Enc.enc,AV.same,AV.sameL,and_self]
 refine QE (λb2=>?_) (λb2=>?_);refine QG ?_ ?_;rotate_left
 .have e:onS x s=2:=qdt b2;refine KY (v:=Enc.enc (Kq (d.ps.get x.piece.toNat) (onS x s).toNat)) ?_ rfl;rw[e];show AV.same _ (Enc.enc (d.ps.get x.piece.toNat).down);simp only[Enc.enc,AV.same,AV.sameL,and_self]
 refine QG ?_ ?_;rotate_left
 .have e:onS x s=3:=by
   have q0:=qdf b0;have q1:=qdf b1;have q2:=qdf b2;omega
  refine KY (v:=Enc.enc (Kq (d.ps.get x.piece.toNat) (onS x s).toNat)) ?_ rfl;rw[e];show AV.same _ (Enc.enc (d.ps.get x.piece.toNat).left);simp only[Enc.enc,AV.same,AV.sameL,and_self]
 all_goals first|exact hc|(simp;omega)
theorem QXw:QQ prog 33 QUH:=
 JW (Kl QGF) func33 (by kernel_rfl) (by kernel_rfl) (by decide) QUZ QYJ
def JH:Tab:=QZ qh 33 QUH
theorem ja:Qc JH:=QGF.add QXw
def VB(c:Int):Bool:=decide ((d.ps.n:Int)>14)||(d.ok&&decide ((d.ps.n:Int)>c))
def vX:WF (Puz×Int×Unit):=λ|(d,(c,_))=>(true,.bool false (VB d c),[])
def QM2:FC:=wFC vX
theorem QV2(c:Int):Kf (mkE prog Yy) (hnd (mkE prog Yy) 1) f15 (QX.vals 0 ((d,c,()):Puz×Int×Unit)) (QX.blks 0 ((d,c,()):Puz×Int×Unit)) 8=QC.br (decide ((↑d.ps.n:Int)>(14:Int))) (QC.leaf (AV.bool true true) ([])) (QC.need (decide (d.ps.n<=d.ps.n)&&true&&decide (d.ps.n<=(1000:Nat))) (QC.br (d.ok) (QC.leaf (AV.bool false (decide ((↑d.ps.n:Int)>c))) ([])) (QC.leaf (AV.bool true false) ([])))):=by kernel_rfl
theorem QZB:JP (mkE prog Yy) (Qk f15) 8 vX (λx_=>(hnd (mkE prog Yy) 1)):=by
 refine⟨?_⟩;rintro⟨d,⟨c,⟨⟩⟩⟩ hp G h1 h2;exact Qw (QP QAH) 1 G _ h1
theorem QfW:JN (mkE prog Yy) f15 8 vX (λx_=>(hnd (mkE prog Yy) 1)):=by
 refine⟨?_⟩;rintro⟨d,⟨c,⟨⟩⟩⟩ hp;refine⟨⟨rfl,by simp[vX],rfl⟩,⟨?_⟩⟩
 rw[QV2 d c];simp only[vX]at hp;have end_:∀{z:Bool} {b:Bool},VB d c=b->(QC.leaf (AV.bool z b) []).den (ZP 8 (vX (d,c,())).2.1 (vX (d,c,())).2.2):=λh=>KY h.symm rfl;refine QE ?_ ?_<;>intro b0
 .exact end_ (by rw[VB,b0];rfl)
 refine QG ?_ ?_;rotate_left;refine QE ?_ ?_<;>intro b1
 .have b1:d.ok=true:=b1;exact end_ (by rw[VB,b0,b1];rfl)
 .have b1:d.ok=false:=b1;exact end_ (by rw[VB,b0,b1];rfl)
 all_goals have:=qdf b0;simp;omega
theorem Qej:QQ prog 15 QM2:=
 JW (QP QAH) func15 (by kernel_rfl) (by kernel_rfl) (by decide) QZB QfW
def QOd:Tab:=QZ Yy 15 QM2
theorem QWg:Qc QOd:=QAH.add Qej
def QOg:Int×Int×Unit->Bool×AV:=λ|(lo,(hi,_))=>(true,Enc.enc (⟨lo,hi⟩:Sp))
def QNI:FC:=Ka (Kd QOg)
theorem Qaf(lo:Int)(hi:Int):KN (mkE prog KK) (hnd (mkE prog KK) 2) false f97 (KA.enc ((lo,hi,()):Int×Int×Unit)) [] 0=QC.leaf (AV.agg [vi lo,vi hi]) ([]):=by kernel_rfl
theorem QYj:QQ prog 97 QNI:=by
 refine Ky JO 2 func97 (by kernel_rfl) (by kernel_rfl) ?_
 rintro⟨lo,hi,⟨⟩⟩ hp;rw[Qaf lo hi];simp only[QOg,QC.den,AV.same,AV.sameL,and_true,true_and]at hp ⊢;simp only[Enc.enc,AV.same,AV.sameL,and_self]
def QFM:Tab:=QZ KK 97 QNI
theorem QO1:Qc QFM:=JO.add QYj
def QNA:Int×Int×Unit->Bool×AV:=λ|(lo,(hi,_))=>(true,Enc.enc (⟨1,⟨1000,1000⟩,⟨lo,hi⟩,⟨400,400⟩⟩:Edge))
def QS9:FC:=Ka (Kd QNA)
theorem Qbh(lo:Int)(hi:Int):KN (mkE prog QFM) (hnd (mkE prog QFM) 2) false f95 (KA.enc ((lo,hi,()):Int×Int×Unit)) [] 0=QC.need (true) (QC.leaf (AV.agg [vj (1:Int),vj (1000:Int),vj (1000:Int),vi lo, vi hi,vj (400:Int),vj (400:Int)]) ([])):=by kernel_rfl
theorem QiP:QQ prog 95 QS9:=by
 refine Ky QO1 2 func95 (by kernel_rfl) (by kernel_rfl) ?_
 rintro⟨lo,hi,⟨⟩⟩ hp;rw[Qbh lo hi];simp only[QNA,QC.den,AV.same,AV.sameL,and_true,true_and]at hp ⊢;simp only[Enc.enc,AV.same,AV.sameL,and_self]
def QDN:Tab:=QZ QFM 95 QS9
theorem QNR:Qc QDN:=QO1.add QiP
def QTH:Unit->Bool×AV:=λ_=>(true,Enc.enc (⟨2,⟨1000,1000⟩,⟨515,515⟩,⟨410,410⟩⟩:Edge))
def QLG:FC:=Ka (Kd QTH)
theorem QYb :KN (mkE prog QDN) (hnd (mkE prog QDN) 2) false f96 (KA.enc (():Unit)) [] 0=QC.leaf (AV.agg [vj (2:Int),vj (1000:Int),vj (1000:Int),vj (515:Int),vj (515:Int),vj (410:Int),vj (410:Int)]) ([]):=by kernel_rfl
theorem QYX:QQ prog 96 QLG:=by
 refine Ky QNR 2 func96 (by kernel_rfl) (by kernel_rfl) ?_
 rintro⟨⟩ hp;rw[QYb];simp only[QTH,QC.den,AV.same,AV.sameL,and_true,true_and]at hp ⊢;simp only[Enc.enc,AV.same,AV.sameL,and_self]
def QCo:Tab:=QZ QDN 96 QLG
theorem QTg:Qc QCo:=QNR.add QYX
def QQZ:Edge×Edge×Edge×Edge×Unit->Bool×AV:=λ|(r,(b,(l,(a,_))))=>(true,Enc.enc (⟨a,r,b,l⟩:QT))
def QRF:FC:=Ka (Kd QQZ)
theorem QZM(r:Edge)(b:Edge)(l:Edge)(a:Edge):KN (mkE prog QCo) (hnd (mkE prog QCo) 2) false f98 (KA.enc ((r,b,l,a,()):Edge×Edge×Edge×Edge×Unit)) [] 0=QC.leaf (AV.agg [vi a.kind,vi a.at_.lo,vi a.at_.hi,vi a.wide.lo,vi a.wide.hi,vi a.deep.lo,vi a.deep.hi,vi r.kind,vi r.at_.lo,vi r.at_.hi,vi r.wide.lo,vi r.wide.hi,vi r.deep.lo,vi r.deep.hi,vi b.kind,vi b.at_.lo,vi b.at_.hi,vi b.wide.lo,vi b.wide.hi,vi b.deep.lo,vi b.deep.hi,vi l.kind,vi l.at_.lo,vi l.at_.hi,vi l.wide.lo,vi l.wide.hi,vi l.deep.lo,vi l.deep.hi]) ([]):=by kernel_rfl
theorem Qg2:QQ prog 98 QRF:=by
 refine Ky QTg 2 func98 (by kernel_rfl) (by kernel_rfl) ?_
 rintro⟨r,b,l,a,⟨⟩⟩ hp;rw[QZM r b l a];simp only[QQZ,QC.den,AV.same,AV.sameL,and_true,true_and]at hp ⊢;simp only[Enc.enc,AV.same,AV.sameL,and_self]
def Wp:Tab:=QZ QCo 98 QRF
theorem QIr:Qc Wp:=QTg.add Qg2
def eA:Edge:=⟨1,⟨1000,1000⟩,⟨500,500⟩,⟨400,400⟩⟩
def eP:Edge:=⟨1,⟨1000,1000⟩,⟨480,490⟩,⟨400,400⟩⟩
def eH:Edge:=⟨2,⟨1000,1000⟩,⟨515,515⟩,⟨410,410⟩⟩
def Qcm:List QT:=[⟨Jj,eA,Jj,Jj⟩,⟨Jj,eA,Jj,eH⟩,⟨Jj,eP,Jj,eH⟩,⟨Jj,Jj,Jj,eH⟩]
def QVO:List QT:=[⟨Jj,eA,eA,Jj⟩,⟨Jj,Jj,eA,eH⟩,⟨eH,eP,Jj,Jj⟩,⟨eH,Jj,Jj,eH⟩]
def QSt:AV := .agg [.int false .i64 2000,.int false .i64 20,.int false .i64 30,.int false .i64 0,.int false .i64 10,.int false .i64 4,.int false .i64 1,.bool false false,.slice true 0 0 4 (.lit 4)]
def QLn:Nat×Blk:=(0,.rowl 70 28 (Qcm.map λp=>(Enc.enc p).cells))
def QOH:AV := .agg [.int false .i64 2000,.int false .i64 20,.int false .i64 30,.int false .i64 0,.int false .i64 10,.int false .i64 2,.int false .i64 2,.bool false true,.slice true 0 0 4 (.lit 4)]
def QLk:Nat×Blk:=(0,.rowl 70 28 (QVO.map λp=>(Enc.enc p).cells))
abbrev QRc:List AV:=[vj 2000,vj 20,vj 30,vj 0,vj 10,vj 4,vj 1,.bool true false,.slice true 288 0 4 (Cap.lit 4)]
abbrev wa9:List AV:=[vj 0,vj 0,vj 0,vj 0,vj 0,vj 0,vj 0]
abbrev wbA:List AV:=[vj 2,vj 1000,vj 1000,vj 515,vj 515,vj 410]
abbrev QTO:List (Nat×Blk):=[(288,.rowl 70 28 [(List.append (wa9) (vj 1::.int true .i64 1000::vj 1000::vj 500::vj 500::vj 400::vj 400::List.append (wa9) (wa9))),(List.append (wa9) ((vj 1::vj 1000::.int true .i64 1000::vj 500::vj 500::vj 400::vj 400::vj 0::vj 0::vj 0::vj 0::vj 0::.int true .i64 0::vj 0::List.append (wbA) ([vj 410])))),(.int true .i64 0::vj 0::vj 0::vj 0::vj 0::vj 0::vj 0::vj 1::vj 1000::vj 1000::vj 480::vj 490::vj 400::vj 400::vj 0::vj 0::vj 0::vj 0::vj 0::.int true .i64 0::vj 0::List.append (wbA) ([vj 410])),(.int true .i64 0::List.append (wa9) (vj 0::vj 0::.int true .i64 0::List.append (wa9) ((vj 0::vj 0::.int true .i64 0::List.append (wbA) ([vj 410])))))])]
abbrev wbJ:List Prop:=[(0:Int)=0,(0:Int)=0,(0:Int)=0]
abbrev vW:List Prop:=(wbJ++[(0:Int)=0])
abbrev QGW:List Prop:=(wbJ++[(1:Int)=1])
abbrev QBP:List Prop:=[(1000:Int)=1000,(1000:Int)=1000,(500:Int)=500,(500:Int)=500,(400:Int)=400,(400:Int)=400]
abbrev qR:List Prop:=(wbJ++wbJ++wbJ++[(0:Int)=0])
abbrev jG:List Prop:=[(1000:Int)=1000,(1000:Int)=1000,(515:Int)=515,(515:Int)=515,(410:Int)=410,(410:Int)=410]
abbrev QNC:List Prop:=[(1000:Int)=1000,(1000:Int)=1000,(480:Int)=480,(490:Int)=490,(400:Int)=400,(400:Int)=400]
theorem QZe :QF 8 [(.agg QRc)] (QTO) (KW 8 QSt [QLn])=(some ([(2000:Int)=2000,(20:Int)=20,(30:Int)=30,(0:Int)=0,(10:Int)=10,(4:Int)=4,(1:Int)=1, false=false,0=0,4=4,Cap.lit 4=Cap.lit 4]++vW++QGW++QBP++qR++qR++[(0:Int)=0,(1:Int)=1]++QBP++vW++(wbJ++[(2:Int)=2])++jG++vW++QGW++QNC++vW++(wbJ++[(2:Int)=2])++jG++qR++qR++[(0:Int)=0,(2:Int)=2]++jG)):=by kernel_rfl
def QEk:WF (Unit):=λ|_=>(true,QSt,[QLn])
def QKh:FC:=wFC QEk
theorem Qdv :Kf (mkE prog Wp) (hnd (mkE prog Wp) 2) f46 (QX.vals 0 ((()):Unit)) (QX.blks 0 ((()):Unit)) 8 = .leaf (.agg QRc) (QTO):=by kernel_rfl
theorem Qfw:JP (mkE prog Wp) (Qk f46) 8 QEk (λx_=>(hnd (mkE prog Wp) 2)):=by
 refine⟨?_⟩;rintro⟨⟩ hp G h1 h2;exact Qw (QP QIr) 2 G _ h1
theorem QcZ:JN (mkE prog Wp) f46 8 QEk (λx_=>(hnd (mkE prog Wp) 2)):=by
 refine⟨?_⟩;rintro⟨⟩ hp;refine⟨⟨rfl,by decide,rfl⟩,⟨?_⟩⟩
 rw[Qdv];simp only[QEk]at hp;exact⟨rfl,rfl,_,QZe,by repeat' first|exact trivial|rfl|refine aI ?_ ?_⟩
theorem QdN:QQ prog 46 QKh:=
 JW (QP QIr) func46 (by kernel_rfl) (by kernel_rfl) (by decide) Qfw QcZ
def qU:Tab:=QZ Wp 46 QKh
theorem QHx:Qc qU:=QIr.add QdN
abbrev QQn:List AV:=[vi 2000,vi 20,vi 30,vi 0,vi 10,vj 2,vj 2,.bool true true,.slice true 288 0 4 (Cap.lit 4)]
abbrev wbi:List AV:=(List.append (wbA) ([vj 410]))
abbrev QTn:List (Nat×Blk):=[(288,.rowl 70 28 [(List.append (wa9) ([vj 1,.int true .i64 1000,vj 1000,vj 500,vj 500,vj 400,vj 400,vj 1,vj 1000,vj 1000,.int true .i64 500,vj 500,vj 400,vj 400,vj 0,vj 0,vj 0,vj 0,vj 0,vj 0,.int true .i64 0])),(List.append (wa9) ((vj 0::vj 0::.int true .i64 0::vj 0::vj 0::vj 0::vj 0::vj 1::vj 1000::vj 1000::vj 500::.int true .i64 500::vj 400::vj 400::List.append (wbA) ([.int true .i64 410])))),(vj 2::vj 1000::vj 1000::vj 515::vj 515::vj 410::vj 410::vj 1::.int true .i64 1000::vj 1000::vj 480::vj 490::vj 400::vj 400::List.append (wa9) (wa9)),(vj 2::vj 1000::vj 1000::vj 515::vj 515::vj 410::vj 410::vj 0::vj 0::.int true .i64 0::List.append (wa9) ((vj 0::vj 0::.int true .i64 0::vj 0::wbi)))])]
theorem Qef :QF 8 [(.agg QQn)] (QTn) (KW 8 QOH [QLk])=(some ([(2000:Int)=2000,(20:Int)=20,(30:Int)=30,(0:Int)=0,(10:Int)=10,(2:Int)=2,(2:Int)=2,true=true,0=0,4=4,Cap.lit 4=Cap.lit 4]++vW++QGW++QBP++[(1:Int)=1]++QBP++qR++qR++[(0:Int)=0,(1:Int)=1]++QBP++[(2:Int)=2]++jG ++ [(2:Int)=2]++jG++[(1:Int)=1]++QNC++qR++vW++[(2:Int)=2]++jG++qR++vW++[(2:Int)=2]++jG)):=by kernel_rfl
def QCh:WF (Unit):=λ|_=>(true,QOH,[QLk])
def QSh:FC:=wFC QCh
theorem Qhi :Kf (mkE prog qU) (hnd (mkE prog qU) 2) f47 (QX.vals 0 ((()):Unit)) (QX.blks 0 ((()):Unit)) 8 = .need (true) (.leaf (.agg QQn) (QTn)):=by kernel_rfl
theorem QZq:JP (mkE prog qU) (Qk f47) 8 QCh (λx_=>(hnd (mkE prog qU) 2)):=by
 refine⟨?_⟩;rintro⟨⟩ hp G h1 h2;exact Qw (QP QHx) 2 G _ h1
theorem QWe:JN (mkE prog qU) f47 8 QCh (λx_=>(hnd (mkE prog qU) 2)):=by
 refine⟨?_⟩;rintro⟨⟩ hp;refine⟨⟨rfl,by decide,rfl⟩,⟨?_⟩⟩
 rw[Qhi];simp only[QCh]at hp;exact QG rfl ⟨rfl,rfl,_,Qef,by repeat' first|exact trivial|rfl|refine aI ?_ ?_⟩
theorem QYs:QQ prog 47 QSh:=
 JW (QP QHx) func47 (by kernel_rfl) (by kernel_rfl) (by decide) QZq QWe
def QRz:Tab:=QZ qU 47 QSh
theorem QXP:Qc QRz:=QHx.add QYs
end Go.Proofs.YtekbmehgcofnkaaGreat
namespace Go.SX
open Go Go.RowKit Go.Proofs.YtekbmehgcofnkaaGreat
def QSn(rw_:Bool)(E:Env)(H:Hnd)(fn:Func):FC:=λargs nid _=>H6 rw_ E H fn args nid (XX (AV.idsFromL 0 args) [])
variable {f:FuncId}
theorem Qct{E:Env}(hE:E.Sound){H:Hnd}{rw_:Bool}{fn:Func}{c:Code}(hf:E.P.funcs[f]? = some fn)(hb:fn.body=some c)(hgo:Jp E.P f=true)(hl:∀ G,G.rd=none->Q1 E G H c):QQ E.P f (QSn rw_ E H fn):=by
 have h:=QIx (rw_:=rw_) hE hf hb hgo hl;exact⟨h.1,λargs nid all r w lk blks eff hH ha hv he hp=>h.2 args nid (XX (AV.idsFromL 0 args) []) r w lk blks eff hH ha hv he hp⟩
def QHA(fc:FC):FC:=λargs nid _=>((fc args nid (XX (AV.idsFromL 0 args) [])).1,λblks=>match (fc args nid (XX (AV.idsFromL 0 args) [])).2 blks with
 | some e=>some ⟨true,e.pre,e.val.setK true,e.upd⟩
 | none=>none)
theorem QZl{P:Program}{fc:FC}(h:QQ P f fc):QQ P f (QHA fc):=by
 refine⟨h.1,λargs nid all r w lk blks eff hH ha hv he hp=>?_⟩;simp only[QHA]at hv he;split at he<;>(try (cases he;done))
 rename_i e h0;simp only[qsI]at he;subst he;refine(h.2 args nid (XX (AV.idsFromL 0 args) []) r w lk blks e hH ha hv h0 hp).mono ?_;rintro e' w' ⟨r',rfl,hpost⟩;exact⟨r',by simp only;rw[jd],hpost⟩
end Go.SX
namespace Go.Proofs.YtekbmehgcofnkaaGreat
open Go.SX
abbrev mkG(P:Program)(C:Tab):Env:=⟨P,C,q9 P,false,λ_=>false,false,true,false⟩
theorem QGX{C:Tab}(hC:Qc C):(mkG prog C).Sound:={ c:=hC,m:=QAp prog,mixed:=QAM }
def QN1:List (Nat×Nat)->Nat->Nat
 | [],_=>0
 | (g,k)::l,f=>match Nat.beq g f with
  | true=>k
  | false=>QN1 l f
def ZD(P:Program)(B:Tab)(l:List (Nat×Nat)):Nat->Tab
 | 0=>λ_=>none
 | d+1=>λf=>match B f with
  | some fc=>some (QHA fc)
  | none=>match QN1 l f with
   | 0=>none
   | k=>match P.funcs[f]? with
    | none=>none
    | some fn=>match fn.body.isSome&&Jp P f with
     | false=>none
     | true=>match k with
      | 1=>some (QSn false (mkG P (ZD P B l d)) (hnd (mkG P (ZD P B l d)) 60) fn)
      | 2=>some (H6 false (mkG P (ZD P B l d)) (hnd (mkG P (ZD P B l d)) 60) fn)
      | _=>some (H6 true (mkG P (ZD P B l d)) (hnd (mkG P (ZD P B l d)) 60) fn)
theorem QSY{B:Tab}(hB:Qc B)(l:List (Nat×Nat)):∀ d,Qc (ZD prog B l d)
 | 0=>λf fc h=>by cases h
 | d+1=>λf fc h=>by
  have ih:=QGX (QSY hB l d);simp only[ZD]at h;split at h
  .rename_i fc0 h0;simp only[qsI]at h;subst h;exact QZl (hB _ _ h0)
  split at h
  .cases h
  .split at h
   .cases h
   .rename_i fn hf;split at h
    .cases h
    .rename_i hb;simp only[qbA,Option.isSome_iff_exists]at hb;obtain⟨⟨c,hc⟩,hgo⟩:=hb;split at h<;>simp only[qsI]at h<;>subst h
     .exact Qct ih hf hc hgo λG hG=>Qw ih 60 G _ hG
     .exact QIx ih hf hc hgo λG hG=>Qw ih 60 G _ hG
     .exact QIx ih hf hc hgo λG hG=>Qw ih 60 G _ hG
def Qfx:Unit->Bool×AV:=λ_=>(true,.bool false true)
def QJb:FC:=Ka (Kd Qfx)
variable {f:FuncId}
theorem Qg4{C:Tab}(hC:Qc C)(d:Nat){fn:Func}(hf:prog.funcs[f]? = some fn)(hb:fn.body=some (Qk fn))(hgo:Jp prog f=true)(h:KN (mkG prog C) (hnd (mkG prog C) d) false fn [] [] 0 = .leaf (.bool true true) []):QQ prog f QJb:=by
 refine QGL (QGX hC) hf hb hgo (λG _ hG=>Qw (QGX hC) d G _ hG) ?_;rintro⟨⟩ _;rw[show(KA.enc ((()):Unit):List AV)=[]from rfl,h];rfl
