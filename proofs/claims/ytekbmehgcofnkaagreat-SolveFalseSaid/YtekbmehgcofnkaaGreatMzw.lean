/- - -/
import Derived.Test.YtekbmehgcofnkaaGreatMz
import Derived.Test.YtekbmehgcofnkaaGreatMv
import Derived.Test.YtekbmehgcofnkaaGreatMy
open Go.Proofs.Tryz
open Go.IntKind (i64)
set_option maxRecDepth 100000
namespace Go.Proofs.YtekbmehgcofnkaaGreat
open Go.SX
def QOj:Int×Int×Int×Unit->Bool×AV:=λ|(n,(a,(b,_)))=>(true,.bool false (Qz n a b))
def QMR:FC:=Kb (Kh QOj)
theorem QXm(n:Int)(a:Int)(b:Int):KW (mkE prog KJ) (hnd (mkE prog KJ) 0) false f109 (Q3.enc ((n,a,b,()):Int×Int×Int×Unit)) [] 0=QC.br (decide (a<=n)) (QC.leaf (AV.bool false (decide (n<=b))) ([])) (QC.leaf (AV.bool true false) ([])):=by kernel_rfl
theorem Qcn:QS prog 109 QMR:=by
 refine K5 JN 0 func109 (by kernel_rfl) (by kernel_rfl) ?_
 rintro⟨n,a,b,⟨⟩⟩ hp;rw[QXm n a b];simp only[QOj,QC.den,AV.same,AV.sameL,and_true,true_and]at hp ⊢
 (repeat' (first|(refine aI ?_ ?_)|(intro _)))<;>simp_all [Qz]<;>omega
def QCw:Tab:=Qa KJ 109 QMR
theorem QSi:Qd QCw:=JN.add Qcn
def QSb:Sp×Int×Int×Unit->Bool×AV:=λ|(s,(a,(b,_)))=>(true,.bool false (s.isIn a b))
def QLb:FC:=Kb (Kh QSb)
theorem QV0(s:Sp)(a:Int)(b:Int):KW (mkE prog QCw) (hnd (mkE prog QCw) 0) false f110 (Q3.enc ((s,a,b,()):Sp×Int×Int×Unit)) [] 0=QC.br (decide (a<=s.lo)) (QC.br (decide (s.lo<=s.hi)) (QC.leaf (AV.bool false (decide (s.hi<=b))) ([])) (QC.leaf (AV.bool true false) ([]))) (QC.leaf (AV.bool true false) ([])):=by kernel_rfl
theorem QfK:QS prog 110 QLb:=by
 refine K5 QSi 0 func110 (by kernel_rfl) (by kernel_rfl) ?_
 rintro⟨s,a,b,⟨⟩⟩ hp;rw[QV0 s a b];simp only[QSb,QC.den,AV.same,AV.sameL,and_true,true_and]at hp ⊢
 (repeat' (first|(refine aI ?_ ?_)|(intro _)))<;>simp_all [Sp.isIn]<;>omega
def QEG:Tab:=Qa QCw 110 QLb
theorem QQV:Qd QEG:=QSi.add QfK
def QLq:Edge×Unit->Bool×AV:=λ|(a,_)=>(true,.bool false a.ok)
def QKV:FC:=Kb (Kh QLq)
theorem QXW(a:Edge):KW (mkE prog QEG) (hnd (mkE prog QEG) 0) false f70 (Q3.enc ((a,()):Edge×Unit)) [] 0=QC.br (a.kind==(0:Int)) (QC.leaf (AV.bool true true) ([])) (QC.need (true) (QC.br (Qz a.kind (1:Int) (2:Int)) (QC.need (true) (QC.br (a.at_.isIn (0:Int) (10000:Int)) (QC.need (true) (QC.br (a.wide.isIn (1:Int) (3000:Int)) (QC.need (true) (QC.leaf (AV.bool false (a.deep.isIn (1:Int) (3000:Int))) ([]))) (QC.leaf (AV.bool true false) ([])))) (QC.leaf (AV.bool true false) ([])))) (QC.leaf (AV.bool true false) ([])))):=by kernel_rfl
theorem QdH:QS prog 70 QKV:=by
 refine K5 QQV 0 func70 (by kernel_rfl) (by kernel_rfl) ?_
 rintro⟨a,⟨⟩⟩ hp;rw[QXW a];simp only[QLq,QC.den,AV.same,AV.sameL,and_true,true_and]at hp ⊢
 have hw:Qz a.kind 1 2=((a.kind==1)||(a.kind==2)):=by
  unfold Qz;rw[Bool.eq_iff_iff];simp only[qdE,qbO,beq_iff_eq];omega
 simp only[hw];unfold Edge.ok;cases (a.kind==0)<;>cases ((a.kind==1)||(a.kind==2))<;>cases a.at_.isIn 0 10000<;>cases a.wide.isIn 1 3000<;>simp
def QC7:Tab:=Qa QEG 70 QKV
theorem QMZ:Qd QC7:=QQV.add QdH
def QTY:Q0×Unit->Bool×AV:=λ|(p,_)=>(true,.bool false p.ok)
def QTZ:FC:=Kb (Kh QTY)
theorem QUt(p:Q0):KW (mkE prog QC7) (hnd (mkE prog QC7) 0) false f69 (Q3.enc ((p,()):Q0×Unit)) [] 0=QC.need (true) (QC.br (Qz p.length (1:Int) (10000:Int)) (QC.need (true) (QC.br (Qz p.aK (0:Int) (500:Int)) (QC.need (true) (QC.br (Qz p.oK (0:Int) (500:Int)) (QC.need (true) (QC.leaf (AV.bool false (p.dK.isIn (0:Int) (100:Int))) ([]))) (QC.leaf (AV.bool true false) ([])))) (QC.leaf (AV.bool true false) ([])))) (QC.leaf (AV.bool true false) ([]))):=by kernel_rfl
theorem Qgx:QS prog 69 QTZ:=by
 refine K5 QMZ 0 func69 (by kernel_rfl) (by kernel_rfl) ?_
 rintro⟨p,⟨⟩⟩ hp;rw[QUt p];simp only[QTY,QC.den,AV.same,AV.sameL,and_true,true_and]at hp ⊢
 (repeat' (first|(refine aI ?_ ?_)|(intro _)))<;>simp_all [Q0.ok]
def QEW:Tab:=Qa QC7 69 QTZ
theorem QRx:Qd QEW:=QMZ.add Qgx
def QRa:Int×Int×Int×Unit->Bool×AV:=λ|(n,(a,(b,_)))=>(true,.bool false (Qz n a b))
def QKO:FC:=Kb (Kh QRa)
theorem Qhk(n:Int)(a:Int)(b:Int):KW (mkE prog QEW) (hnd (mkE prog QEW) 0) false f54 (Q3.enc ((n,a,b,()):Int×Int×Int×Unit)) [] 0=QC.br (decide (a<=n)) (QC.leaf (AV.bool false (decide (n<=b))) ([])) (QC.leaf (AV.bool true false) ([])):=by kernel_rfl
theorem QZp:QS prog 54 QKO:=by
 refine K5 QRx 0 func54 (by kernel_rfl) (by kernel_rfl) ?_
 rintro⟨n,a,b,⟨⟩⟩ hp;rw[Qhk n a b];simp only[QRa,QC.den,AV.same,AV.sameL,and_true,true_and]at hp ⊢
 (repeat' (first|(refine aI ?_ ?_)|(intro _)))<;>simp_all [Qz]<;>omega
def Yl:Tab:=Qa QEW 54 QKO
theorem QBS:Qd Yl:=QRx.add QZp
def bdQ(l:Rw QX)(i:Nat):Bool := !(l.get i).ok
variable (d:Puz)(a b:Rw Jn)(k:Nat)
def okR:Bool:=d.pK.ok&&(Qz (d.ps.n:Int) 1 9&&(Qz d.wide 1 9&&(Qz d.high 1 9&&((i64.wrap (d.wide*d.high)==(d.ps.n:Int))&&(QU (bdQ d.ps) d.ps.n 0).isNone))))
theorem QMz(h:1<=d.ps.n):(QU (XF d) d.ps.n 0).isNone=(d.pK.ok&&(QU (bdQ d.ps) d.ps.n 0).isNone):=by
 cases hp:d.pK.ok with
 | true=>
  have:XF d=bdQ d.ps:=by funext i;simp only[XF,bdQ,hp,Bool.true_and]
  rw[this,Bool.true_and]
 | false=>
  obtain⟨m,hm⟩:∃ m,d.ps.n=m+1:=⟨d.ps.n-1,by omega⟩
  rw[hm,QU];simp only[XF,hp,Bool.false_and,Bool.not_false];rfl
theorem QH1:okR d=d.ok:=by
 rw[Bool.eq_iff_iff];simp only[okR,Puz.ok,Puz.okN,qbA,Qz,qdE,beq_iff_eq];constructor
 .rintro⟨hp,hn,hw,hh,hm,ha⟩;have m1:d.wide*d.high<=9*9:=Int.mul_le_mul hw.2 hh.2 (by omega) (by omega)
  have m0:0<=d.wide*d.high:=Int.mul_nonneg (by omega) (by omega)
  have e:=hm;rw[w64 (by omega) (by omega)]at e
  have a1:=Int.mul_le_mul_of_nonneg_left (show 1<=d.high from hh.1) (show 0<=d.wide by omega)
  have a2:=Int.mul_le_mul_of_nonneg_right (show 1<=d.wide from hw.1) (show 0<=d.high by omega)
  refine⟨⟨hn,by omega,by omega,hm⟩,?_⟩
  rw[QMz _ (by omega),hp,ha];rfl
 .rintro⟨⟨hn,hw,hh,hm⟩,hs⟩;rw[QMz _ (by omega),qbA]at hs
  exact⟨hs.1,hn,by omega,by omega,hm,hs.2⟩
def QEC:JSt:=⟨60,[(1,.ptr 8 0 0),(3,.int false .i64 k)],[(8,.cells 0 28 (KX d))]++Qm.blk 0 d.ps,96⟩
def QKB:Ex->List Nat
 | .normal=>[1,3]
 | .exit _=>[]
 | .ret=>[2]
noncomputable abbrev QQN:List (Nat×Blk):=
  [(8,.cells 0 28 (waf d)),(0,.frz kE d.ps.n λi=>QA.enc (d.ps.get i))]
theorem Qf8(g:Nat->Value):exec (mkE prog Yl) (hnd (mkE prog Yl) 6) (QI f25 0) (JSt.inst (QEC d k) g) (Q6 [] QKB) = .br (decide ((k:Int)<(d.ps.n:Int))) (.need (decide ((0:Int)<=(k:Int)/\(k:Int)<(d.ps.n:Int))&&decide (d.ps.n<=d.ps.n)) (.need (decide (k<d.ps.n)) (.need (true) (.br (!(d.ps.get k).up.ok) (.leaf (.tup [.nili,.ptr 60 0 0,.bool true false]) ([])) (.need (decide ((0:Int)<=(k:Int)/\(k:Int)<(d.ps.n:Int))&&decide (d.ps.n<=d.ps.n)) (.need (decide (k<d.ps.n)) (.need (true) (.br (!(d.ps.get k).right.ok) (.leaf (.tup [.nili,.ptr 60 0 0,.bool true false]) ([])) (.need (decide ((0:Int)<=(k:Int)/\(k:Int)<(d.ps.n:Int))&&decide (d.ps.n<=d.ps.n)) (.need (decide (k<d.ps.n)) (.need (true) (.br (!(d.ps.get k).down.ok) (.leaf (.tup [.nili,.ptr 60 0 0,.bool true false]) ([])) (.need (decide ((0:Int)<=(k:Int)/\(k:Int)<(d.ps.n:Int))&&decide (d.ps.n<=d.ps.n)) (.need (decide (k<d.ps.n)) (.need (true) (.br (!(d.ps.get k).left.ok) (.leaf (.tup [.nili,.ptr 60 0 0,.bool true false]) ([])) (.leaf (.tup [.nilp,.ptr 60 0 0,.ptr 8 0 0,vi (i64.wrap ((k:Int)+1))]) ((QQN d))))))))))))))))))) (.leaf (.tup [.ptr 0 0 0,.ptr 60 0 0]) ([])):=by kernel_rfl
def HC:JSt:=⟨60,[(2,.bool false false)],[],96⟩
def QJl:JSt:=⟨60,[],[],96⟩
theorem QbY :QE 8 [AV.bool true false] ([]) HC=( some [false=false]):=by kernel_rfl
theorem QZ4 :QE 8 [AV.bool true false] ([]) HC=( some [false=false]):=by kernel_rfl
theorem Qap :QE 8 [AV.bool true false] ([]) HC=( some [false=false]):=by kernel_rfl
theorem Qfl :QE 8 [AV.bool true false] ([]) HC=( some [false=false]):=by kernel_rfl
theorem QcB(k k':Nat):QE 8 [.ptr 8 0 0,vi (i64.wrap ((k:Int)+1))] ((QQN d)) (QEC d k')=(some ([0=0,0=0,i64.wrap ((k:Int)+1)=(k':Int)]++wab d++([cO=cO]++wae d))):=by kernel_rfl
theorem QhT :QE 8 [] ([]) QJl=( some []):=by kernel_rfl
def QSW(e:Ex)(J:JSt):Prop:=(e = .ret/\(QU (bdQ d.ps) (d.ps.n-k) k).isNone=false/\J=HC)∨(e = .exit 0/\(QU (bdQ d.ps) (d.ps.n-k) k).isNone=true/\J=QJl)
theorem QbQ(hl:d.ps.n<=1000):J3 (QEC d) (λk=>k<=d.ps.n) (λk=>d.ps.n-k) (QSW d) 8 QKB [] (mkE prog Yl) (λ_=>hnd (mkE prog Yl) 6) (QI f25 0):=by
 refine⟨λk g hk=>QcF (Qf8 d k g) ?_⟩;refine QF ?_ ?_<;>intro h
 .have h:k<d.ps.n:=by have:=qdt h;omega
  obtain⟨m,hm⟩:∃ m,d.ps.n-k=m+1:=⟨d.ps.n-k-1,by omega⟩
  have hm':d.ps.n-(k+1)=m:=by omega
  have hA:(decide ((0:Int)<=(k:Int)/\(k:Int)<(d.ps.n:Int))&&decide (d.ps.n<=d.ps.n))=true:=by simp;omega
  have hB:decide (k<d.ps.n)=true:=by simp;omega
  have bad:bdQ d.ps k=true->QU (bdQ d.ps) (d.ps.n-k) k=some k:=λq=>by rw[hm,QU,q]
  have go:bdQ d.ps k=false->QU (bdQ d.ps) (d.ps.n-k) k=QU (bdQ d.ps) (d.ps.n-(k+1)) (k+1):=λq=>by rw[hm,hm',QU,q]
  have no:bdQ d.ps k=true->(QU (bdQ d.ps) (d.ps.n-k) k).isNone=false:=λq=>by rw[bad q];rfl
  refine QG hA (QG hB (QG rfl (QF (λh0=>?_) (λh0=>?_))))
  .have q:bdQ d.ps k=true:=by simp only[Bool.not_eq_true']at h0;simp only[bdQ,QX.ok,h0,Bool.false_and,Bool.not_false]
   exact⟨_,.inl ⟨rfl,no q,rfl⟩,rfl,rfl,_,QbY,⟨rfl,trivial⟩⟩
  refine QG hA (QG hB (QG rfl (QF (λh1=>?_) (λh1=>?_))))
  .have q:bdQ d.ps k=true:=by simp only[Bool.not_eq_true']at h1;simp only[bdQ,QX.ok,h1,Bool.false_and,Bool.and_false,Bool.not_false]
   exact⟨_,.inl ⟨rfl,no q,rfl⟩,rfl,rfl,_,QZ4,⟨rfl,trivial⟩⟩
  refine QG hA (QG hB (QG rfl (QF (λh2=>?_) (λh2=>?_))))
  .have q:bdQ d.ps k=true:=by simp only[Bool.not_eq_true']at h2;simp only[bdQ,QX.ok,h2,Bool.false_and,Bool.and_false,Bool.not_false]
   exact⟨_,.inl ⟨rfl,no q,rfl⟩,rfl,rfl,_,Qap,⟨rfl,trivial⟩⟩
  refine QG hA (QG hB (QG rfl (QF (λh3=>?_) (λh3=>?_))))
  .have q:bdQ d.ps k=true:=by simp only[Bool.not_eq_true']at h3;simp only[bdQ,QX.ok,h3,Bool.and_false,Bool.not_false]
   exact⟨_,.inl ⟨rfl,no q,rfl⟩,rfl,rfl,_,Qfl,⟨rfl,trivial⟩⟩
  have q:bdQ d.ps k=false:=by simp only[Bool.not_eq_false']at h0 h1 h2 h3;simp only[bdQ,QX.ok,h0,h1,h2,h3,Bool.and_self,Bool.not_true]
  have hw:i64.wrap ((k:Int)+1)=((k+1:Nat):Int):=(w64 (by omega) (by omega)).trans (by omega)
  refine⟨k+1,h,by show d.ps.n-(k+1)<d.ps.n-k;omega,λe J h=>by unfold QSW at h ⊢;rw[go q];exact h,rfl,rfl,_,QcB d k (k+1),?_⟩
  repeat' first|exact tv|exact qRr|exact hw|refine aI ?_ ?_
 .have h:d.ps.n<=k:=by have:=qdf h;omega
  have hf:QU (bdQ d.ps) (d.ps.n-k) k=none:=by rw[show d.ps.n-k=0 by omega];rfl
  exact⟨_,.inr ⟨rfl,by rw[hf];rfl,rfl⟩,rfl,rfl,_,QhT,trivial⟩
def QaU:List (Prop×Ex×JSt):=[((QU (bdQ d.ps) d.ps.n 0).isNone=false,.ret,HC),((QU (bdQ d.ps) d.ps.n 0).isNone=true,.exit 0,QJl)]
abbrev QEc(P:Program)(d:Puz):Hnd:={ hnd (mkE P Yl) 1 with loop:=λ_=>KH 8 [] (QEC d (0:Nat)) (QaU d) }
theorem QgR(hl:d.ps.n<=1000)(G:Ctx)(hrd:G.rd=none)(hG:G.n=8):Qx (mkE prog Yl) G (QEc prog d) (Ql f25):=by
 refine KO (body:=QI f25 0) (QO QBS) hrd (by kernel_rfl) ?_
 refine Vq (n0:=8) (QO QBS) (by omega) (λs hs=>Qw (QO QBS) 6 G _ hrd) (λs hs=>(by decide:8<=96)) ?_ (QbQ d hl) (s0:=0) (Nat.zero_le _) ?_
 .rintro s e J (⟨_,_,rfl⟩|⟨_,_,rfl⟩)<;>exact(by decide:8<=96)
 .rintro e J (⟨rfl,h,rfl⟩|⟨rfl,h,rfl⟩)
  .exact⟨_,qmc,h,rfl,rfl⟩
  .exact⟨_,List.mem_cons_of_mem _ qmc,h,rfl,rfl⟩
def jv:WF (Puz×Unit):=λ|(d,_)=>(decide (d.ps.n<=1000),.bool false d.ok,[])
def QOq:FC:=wFC jv
theorem QUg :Kn (mkE prog Yl) (QEc prog d) f25 (Qe.vals 0 ((d,()):Puz×Unit)) (Qe.blks 0 ((d,()):Puz×Unit)) 8 = .need (true) (.br (!d.pK.ok) (.leaf (.bool true false) ([])) (.need (true) (.br (!Qz (d.ps.n:Int) (1:Int) (9:Int)) (.leaf (.bool true false) ([])) (.need (true) (.br (!Qz d.wide (1:Int) (9:Int)) (.leaf (.bool true false) ([])) (.need (true) (.br (!Qz d.high (1:Int) (9:Int)) (.leaf (.bool true false) ([])) (.br (i64.wrap (d.wide*d.high) != (d.ps.n:Int)) (.leaf (.bool true false) ([])) (.ak ([0=0,0=0,(0:Int)=0]++wab d++([cO=cO]++wae d)) (.both (.asm ((QU (bdQ d.ps) d.ps.n 0).isNone=false) (.all (λ(g0:Nat->Value)=>.leaf (.bool false false) ([])))) (.asm ((QU (bdQ d.ps) d.ps.n 0).isNone=true) (.all (λ(g1:Nat->Value)=>.leaf (.bool true true) ([])))))))))))))):=by kernel_rfl
theorem Qgy:JQ (mkE prog Yl) (Ql f25) 8 jv (λx_=>(QEc prog x_.1)):=by
 refine⟨?_⟩;rintro⟨d,⟨⟩⟩ hp G h1 h2;exact QgR d (qdt hp) G h1 h2
theorem QV9:JR (mkE prog Yl) f25 8 jv (λx_=>(QEc prog x_.1)):=by
 refine⟨?_⟩;rintro⟨d,⟨⟩⟩ hp;refine⟨⟨rfl,by simp[jv],rfl⟩,⟨?_⟩⟩
 rw[QUg d];simp only[jv]at hp;have no:okR d=false->(QC.leaf (AV.bool true false) []).den (HD 8 (jv (d,())).2.1 (jv (d,())).2.2):=λh=>Kd (show false=d.ok by rw[<-QH1,h]) rfl
 refine QG rfl (QF (λh1=>no ?_) (λh1=>QG rfl (QF (λh2=>no ?_) (λh2=>QG rfl (QF (λh3=>no ?_) (λh3=>QG rfl (QF (λh4=>no ?_) (λh4=>QF (λh5=>no ?_) (λh5=>?_)))))))))
 .simp only[Bool.not_eq_true']at h1;simp only[okR,h1,Bool.false_and]
 .simp only[Bool.not_eq_true']at h2;simp only[okR,h2,Bool.false_and,Bool.and_false]
 .simp only[Bool.not_eq_true']at h3;simp only[okR,h3,Bool.false_and,Bool.and_false]
 .simp only[Bool.not_eq_true']at h4;simp only[okR,h4,Bool.false_and,Bool.and_false]
 .have h5:(i64.wrap (d.wide*d.high)==(d.ps.n:Int))=false:=by simpa using h5
  simp only[okR,h5,Bool.false_and,Bool.and_false]
 .have h5:(i64.wrap (d.wide*d.high)==(d.ps.n:Int))=true:=by simpa using h5
  simp only[Bool.not_eq_false']at h1 h2 h3 h4
  repeat' first|refine Qq (show _=_ by with_reducible rfl) ?_|refine Qq (show _<=_ from qlr _) ?_|refine Qq (show QB _ _ _ _ from qRr) ?_
  refine Kf (Qh λh=>Qj λg=>?_) (Qh λh=>Qj λg=>?_)
  .exact Kd (show false=d.ok by rw[<-QH1];simp only[okR,h,Bool.and_false]) rfl
  .exact Kd (show true=d.ok by rw[<-QH1];simp only[okR,h1,h2,h3,h4,h5,h,Bool.and_self]) rfl
theorem QW0:QS prog 25 QOq:=
 JX (QO QBS) func25 (by kernel_rfl) (by kernel_rfl) (by decide) Qgy QV9
def VH:Tab:=Qa Yl 25 QOq
theorem Wb:Qd VH:=QBS.add QW0
def VI(c:Int):Bool:=decide ((d.ps.n:Int)>14)||(d.ok&&decide ((d.ps.n:Int)>c))
def vR:WF (Puz×Int×Unit):=λ|(d,(c,_))=>(true,.bool false (VI d c),[])
def QNE:FC:=wFC vR
theorem QeY(c:Int):Kn (mkE prog VH) (hnd (mkE prog VH) 1) f15 (Qe.vals 0 ((d,c,()):Puz×Int×Unit)) (Qe.blks 0 ((d,c,()):Puz×Int×Unit)) 8=QC.br (decide ((↑d.ps.n:Int)>(14:Int))) (QC.leaf (AV.bool true true) ([])) (QC.need (decide (d.ps.n<=d.ps.n)&&true&&decide (d.ps.n<=(1000:Nat))) (QC.br (d.ok) (QC.leaf (AV.bool false (decide ((↑d.ps.n:Int)>c))) ([])) (QC.leaf (AV.bool true false) ([])))):=by kernel_rfl
theorem QXJ:JQ (mkE prog VH) (Ql f15) 8 vR (λx_=>(hnd (mkE prog VH) 1)):=by
 refine⟨?_⟩;rintro⟨d,⟨c,⟨⟩⟩⟩ hp G h1 h2;exact Qw (QO Wb) 1 G _ h1
theorem Qdo:JR (mkE prog VH) f15 8 vR (λx_=>(hnd (mkE prog VH) 1)):=by
 refine⟨?_⟩;rintro⟨d,⟨c,⟨⟩⟩⟩ hp;refine⟨⟨rfl,by simp[vR],rfl⟩,⟨?_⟩⟩
 rw[QeY d c];simp only[vR]at hp;have end_:∀{z:Bool} {b:Bool},VI d c=b->(QC.leaf (AV.bool z b) []).den (HD 8 (vR (d,c,())).2.1 (vR (d,c,())).2.2):=λh=>Kd h.symm rfl;refine QF ?_ ?_<;>intro b0
 .exact end_ (by rw[VI,b0];rfl)
 refine QG ?_ ?_;rotate_left;refine QF ?_ ?_<;>intro b1
 .have b1:d.ok=true:=b1;exact end_ (by rw[VI,b0,b1];rfl)
 .have b1:d.ok=false:=b1;exact end_ (by rw[VI,b0,b1];rfl)
 all_goals have:=qdf b0;simp;omega
theorem QbW:QS prog 15 QNE:=
 JX (QO Wb) func15 (by kernel_rfl) (by kernel_rfl) (by decide) QXJ Qdo
def QK6:Tab:=Qa VH 15 QNE
theorem QUe:Qd QK6:=Wb.add QbW
def smJ{α:Type}[QA α](a b:Rw α)(k:Nat):JSt:=⟨26,[(0,.slz 0 0 a.n (.of 0)),(1,.slz 1 0 b.n (.of 0)),(5,.int false .i64 k)],Qm.blk 0 a++Qm.blk 1 b,8⟩
def QTz:Ex->List Nat
 | .normal=>[0,1,5]
 | .exit _=>[]
 | .ret=>[4]
def QIm:JSt:=⟨26,[(4,.bool false false)],[],8⟩
def QGF:JSt:=⟨26,[],[],8⟩
def smR(p:Nat->Bool)(n k:Nat)(e:Ex)(J:JSt):Prop:=(e = .ret/\(QU p (n-k) k).isNone=false/\J=QIm)∨(e = .exit 0/\(QU p (n-k) k).isNone=true/\J=QGF)
def smX(p:Nat->Bool)(n:Nat):List (Prop×Ex×JSt):=[((QU p n 0).isNone=false,.ret,QIm),((QU p n 0).isNone=true,.exit 0,QGF)]
def sjQ(i:Nat):Bool := !((a.get i).a==(b.get i).a&&((a.get i).i==(b.get i).i&&((a.get i).b==(b.get i).b&&((a.get i).j==(b.get i).j&&true))))
def XD:Bool:=((a.n:Int)==b.n)&&(QU (sjQ a b) a.n 0).isNone
theorem Qg6(g:Nat->Value):exec (mkE prog VH) (hnd (mkE prog VH) 0) (QI f45 0) (JSt.inst (smJ a b k) g) (Q6 [] QTz)=QC.br (decide ((↑k:Int)<(↑a.n:Int))) (QC.need (decide ((0:Int)<=(↑k:Int)/\(↑k:Int)<(↑a.n:Int))&&decide (a.n<=a.n)) (QC.need (decide (k<a.n)) (QC.need (decide ((0:Int)<=(↑k:Int)/\(↑k:Int)<(↑b.n:Int))&&decide (b.n<=b.n)) (QC.need (decide (k<b.n)) (QC.br (!((a.get k).a==(b.get k).a&&((a.get k).i==(b.get k).i&&((a.get k).b==(b.get k).b&&((a.get k).j==(b.get k).j&&true))))) (QC.leaf (AV.tup [AV.nili,AV.ptr (26:Nat) (0:Nat) (0:Nat),AV.bool true false]) ([])) (QC.leaf (AV.tup [AV.nilp,AV.ptr (26:Nat) (0:Nat) (0:Nat),AV.slz (0:Nat) (0:Nat) a.n cO,AV.slz (1:Nat) (0:Nat) b.n cO,vi (i64.wrap ((↑k:Int)+(1:Int)))]) ([((0:Nat),Blk.frz [CK.int i64,CK.int i64,CK.int i64,CK.int i64] a.n λi=>QA.enc (a.get i)),((1:Nat),Blk.frz [CK.int i64,CK.int i64,CK.int i64,CK.int i64] b.n λi=>QA.enc (b.get i))]))))))) (QC.leaf (AV.tup [AV.ptr (0:Nat) (0:Nat) (0:Nat),AV.ptr (26:Nat) (0:Nat) (0:Nat)]) ([])):=by kernel_rfl
theorem QVa :QE 8 [AV.bool true false] ([]) QIm=( some [false=false]):=by kernel_rfl
theorem QYo(k k':Nat):QE 8 [AV.slz (0:Nat) (0:Nat) a.n cO,AV.slz (1:Nat) (0:Nat) b.n cO,vi (i64.wrap ((↑k:Int)+(1:Int)))] ([((0:Nat),Blk.frz [CK.int i64,CK.int i64,CK.int i64,CK.int i64] a.n λi=>QA.enc (a.get i)),((1:Nat),Blk.frz [CK.int i64,CK.int i64,CK.int i64,CK.int i64] b.n λi=>QA.enc (b.get i))]) (smJ a b k')=( some [0=0,a.n=a.n,cO=cO,0=0,b.n=b.n,cO=cO,i64.wrap ((↑k:Int)+(1:Int))=(↑k':Int),a.n<=a.n,QB (4:Nat) a.n (λi=>QA.enc (a.get i)) λi=>QA.enc (a.get i),b.n<=b.n,QB (4:Nat) b.n (λi=>QA.enc (b.get i)) λi=>QA.enc (b.get i)]):=by kernel_rfl
theorem QUy :QE 8 [] ([]) QGF=( some []):=by kernel_rfl
theorem Qe5(hl:a.n=b.n/\a.n<=1000000):J3 (smJ a b) (λk=>k<=a.n) (λk=>a.n-k) (smR (sjQ a b) a.n) 8 QTz [] (mkE prog VH) (λ_=>hnd (mkE prog VH) 0) (QI f45 0):=by
 obtain⟨hab,hl⟩:=hl;refine⟨λk g hk=>Qg (Qg6 a b k g) ?_⟩;refine QF ?_ ?_<;>intro h
 .have h:k<a.n:=by have:=qdt h;omega
  have hf:=VP (p:=sjQ a b) h;have hw:i64.wrap ((k:Int)+1)=((k+1:Nat):Int):=(w64 (by omega) (by omega)).trans (by omega)
  repeat' refine QG (by simp;omega) ?_
  refine QF ?_ ?_<;>intro hb
  .exact⟨_,.inl ⟨rfl,by rw[hf.1 hb];rfl,rfl⟩,rfl,rfl,_,QVa,⟨rfl,trivial⟩⟩
  .refine⟨k+1,by omega,by show a.n-(k+1)<a.n-k;omega,λe J h=>by unfold smR at h ⊢;rw[hf.2 hb];exact h,rfl,rfl,_,QYo _ _ _ (k+1),?_⟩
   repeat' first|with_reducible refine QP ?_ ?_|exact tv|exact qRr|exact hw|refine aI ?_ ?_
 .have h:a.n<=k:=by have:=qdf h;omega
  exact⟨_,.inr ⟨rfl,by rw[show a.n-k=0 by omega];rfl,rfl⟩,rfl,rfl,_,QUy,trivial⟩
abbrev sjH(P:Program)(a b:Rw Jn):Hnd:={ hnd (mkE P VH) 1 with loop:=λ_=>JP (a.n=b.n/\a.n<=1000000) (KH 8 [] (smJ a b 0) (smX (sjQ a b) a.n)) }
theorem Qf0(G:Ctx)(hrd:G.rd=none)(hG:G.n=8):Qx (mkE prog VH) G (sjH prog a b) (Ql f45):=by
 refine KO (body:=QI f45 0) (QO Wb) hrd (by kernel_rfl) ?_
 refine Jj λhl=>?_;refine Vq (n0:=8) (QO Wb) (by omega) (λs hs=>Qw (QO Wb) 0 G _ hrd) (λs hs=>qlr _) ?_ (Qe5 a b hl) (s0:=0) (Nat.zero_le _) ?_
 .rintro s e J (⟨_,_,rfl⟩|⟨_,_,rfl⟩)<;>exact qlr _
 .rintro e J (⟨rfl,h,rfl⟩|⟨rfl,h,rfl⟩)
  .exact⟨_,qmc,h,rfl,rfl⟩
  .exact⟨_,List.mem_cons_of_mem _ qmc,h,rfl,rfl⟩
def sjF:WF ((Rw Jn)×(Rw Jn)×Unit):=λ|(a,(b,_))=>(decide (a.n<=1000000/\b.n<=1000000),.bool false (XD a b),[])
def sjC:FC:=wFC sjF
theorem Qc2(a:(Rw Jn))(b:(Rw Jn)):Kn (mkE prog VH) (sjH prog a b) f45 (Qe.vals 0 ((a,b,()):(Rw Jn)×(Rw Jn)×Unit)) (Qe.blks 0 ((a,b,()):(Rw Jn)×(Rw Jn)×Unit)) 8=QC.br ((↑a.n:Int) != (↑b.n:Int)) (QC.leaf (AV.bool true false) ([])) (QC.ask (a.n=b.n/\a.n<=(1000000:Nat)) (QC.ask (0=0) (QC.ask (a.n=a.n) (QC.ask (cO=cO) (QC.ask (0=0) (QC.ask (b.n=b.n) (QC.ask (cO=cO) (QC.ask ((0:Int)=(0:Int)) (QC.ask (a.n<=a.n) (QC.ask (QB (4:Nat) a.n (λi=>QA.enc (a.get i)) λi=>QA.enc (a.get i)) (QC.ask (b.n<=b.n) (QC.ask (QB (4:Nat) b.n (λi=>QA.enc (b.get i)) λi=>QA.enc (b.get i)) (QC.both (QC.asm ((QU (sjQ a b) a.n (0:Nat)).isNone=false) (QC.all (λ(g0:Nat->Value)=>QC.leaf (AV.bool false false) ([])))) (QC.asm ((QU (sjQ a b) a.n (0:Nat)).isNone=true) (QC.all (λ(g1:Nat->Value)=>QC.leaf (AV.bool true true) ([]))))))))))))))))):=by kernel_rfl
theorem QYR:JQ (mkE prog VH) (Ql f45) 8 sjF (λx_=>(sjH prog x_.1 x_.2.1)):=by
 refine⟨?_⟩;rintro⟨a,⟨b,⟨⟩⟩⟩ hp G h1 h2;exact Qf0 a b G h1 h2
theorem Qgl:JR (mkE prog VH) f45 8 sjF (λx_=>(sjH prog x_.1 x_.2.1)):=by
 refine⟨?_⟩;rintro⟨a,⟨b,⟨⟩⟩⟩ hp;refine⟨⟨rfl,by simp[sjF],rfl⟩,⟨?_⟩⟩
 rw[Qc2 a b];simp only[sjF]at hp;have hp:=qdt hp;refine QF (λh=>Kd ?_ rfl) (λh=>?_)
 .have:((a.n:Int)==b.n)=false:=by simpa using h
  show false=XD a b;simp only[XD,this];rfl
 .have hab:a.n=b.n:=by simp only[bne_eq_false_iff_eq]at h;omega
  have e:((a.n:Int)==b.n)=true:=by rw[hab];simp
  refine Qq ⟨hab,hp.1⟩ ?_
  repeat' first|refine Qq (show _=_ by with_reducible rfl) ?_|refine Qq (show _<=_ from qlr _) ?_|refine Qq (show QB _ _ _ _ from qRr) ?_
  refine Kf (Qh λh=>Qj λg=>?_) (Qh λh=>Qj λg=>?_)
  .exact Kd (show _=XD a b by simp only[XD,e,h];rfl) rfl
  .exact Kd (show _=XD a b by simp only[XD,e,h];rfl) rfl
theorem QKy:QS prog 45 sjC:=
 JX (QO Wb) func45 (by kernel_rfl) (by kernel_rfl) (by decide) QYR Qgl
def Yn:Tab:=Qa VH 45 sjC
theorem QAx:Qd Yn:=Wb.add QKy
