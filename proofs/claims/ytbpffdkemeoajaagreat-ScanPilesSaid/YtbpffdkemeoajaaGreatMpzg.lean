/- - -/
import Derived.Test.YtbpffdkemeoajaaGreatMpzf
import Derived.Test.YtbpffdkemeoajaaGreatMpt
import Derived.Test.YtbpffdkemeoajaaGreatMpp
open Go.Proofs.Tryz
open Go.IntKind (i64)
set_option maxRecDepth 100000
set_option linter.unusedVariables false
namespace Go.Proofs.YtbpffdkemeoajaaGreat
open Go.SX
def QRi(b:Nat)(f:Nat->Int)(k:Nat):Nat×Blk:=(b,.rowz true 3 [.int .i64] k λi _=>f i)
variable (f:Nat->Int)(x:QD)(k k' n:Nat)
def XP(k:Nat):JSt:=⟨42,[(2,.slz 440 0 k (.of 0)),(6,.ptr 368 0 0),(27,.int false .i64 n),(28,.int false .i64 k)],[(368,.cells 1 94 (jm f)),QRi 440 f k],448⟩
def QG1:JSt:=⟨42,[(2,.slz 440 0 n (.of 0)),(6,.ptr 368 0 0)],[(368,.cells 1 94 (jm f)),QRi 440 f n],448⟩
def QSp:Ex->List Nat
 | .normal=>[2,6,27,28]
 | .exit _=>[2,6]
 | .ret=>[]
def Wu(f:List Int)(a e:Int):AV := .tup [.slz 0 0 f.length (.of 0),.int false .i64 a,.int false .i64 e]
noncomputable abbrev YW:List AV:=
  [.nilp,.ptr 42 0 0,.slz 520 0 (k+1) cO,.ptr 368 0 0,vi (n:Int),vi (i64.wrap ((k:Int)+1))]
noncomputable abbrev Ju:Nat×Blk:=
  (368,.cells 1 94 [vi (f 0),vi (f 1),vi (f 2),vi (f 3),vi (f 4),vi (f 5),vi (f 6),
  vi (f 7),vi (f 8),vi (f 9),vi (f 10),vi (f 11),vi (f 12)])
noncomputable abbrev QLt:List (Nat×Blk):=
  [(520,.rowz true 3 [.int .i64] (k+1) (Qa k (λi x=>f i) (QU [[vi (f 10)]] 0))),(Ju f)]
noncomputable abbrev QKt:List (Nat×Blk):=
  [(520,.rowz true 3 [.int .i64] (k+1) (Qa k (λi x=>f i) (QU [[vi (f 11)]] 0))),(Ju f)]
theorem QZd(n k:Nat)(g:Nat->Value):exec (mkF prog Qu) (hnd (mkF prog Qu) 3) (QT f8 0) (JSt.inst (XP f n k) g) (KG [] QSp) = .br (decide ((k:Int)<(n:Int))) (.need (decide ((0:Int)<=(k:Int)/\(k:Int)<12)) (.br (decide ((k:Int)=0)) (.need (decide (k<=k)&&(true&&decide ((k+1+(k+1) / 4+192)*8<=281474976710656/\k+1<=9223372036854775807))) (.leaf (.tup (YW k n)) ([(520,.rowz true 3 [.int .i64] (k+1) (Qa k (λi x=>f i) (QU [[vi (f 0)]] 0))),(Ju f)]))) (.br (decide ((k:Int)=1)) (.need (decide (k<=k)&&(true&&decide ((k+1+(k+1) / 4+192)*8<=281474976710656/\k+1<=9223372036854775807))) (.leaf (.tup (YW k n)) ([(520,.rowz true 3 [.int .i64] (k+1) (Qa k (λi x=>f i) (QU [[vi (f 1)]] 0))),(Ju f)]))) (.br (decide ((k:Int)=2)) (.need (decide (k<=k)&&(true&&decide ((k+1+(k+1) / 4+192)*8<=281474976710656/\k+1<=9223372036854775807))) (.leaf (.tup (YW k n)) ([(520,.rowz true 3 [.int .i64] (k+1) (Qa k (λi x=>f i) (QU [[vi (f 2)]] 0))),(Ju f)]))) (.br (decide ((k:Int)=3)) (.need (decide (k<=k)&&(true&&decide ((k+1+(k+1) / 4+192)*8<=281474976710656/\k+1<=9223372036854775807))) (.leaf (.tup (YW k n)) ([(520,.rowz true 3 [.int .i64] (k+1) (Qa k (λi x=>f i) (QU [[vi (f 3)]] 0))),(Ju f)]))) (.br (decide ((k:Int)=4)) (.need (decide (k<=k)&&(true&&decide ((k+1+(k+1) / 4+192)*8<=281474976710656/\k+1<=9223372036854775807))) (.leaf (.tup (YW k n)) ([(520,.rowz true 3 [.int .i64] (k+1) (Qa k (λi x=>f i) (QU [[vi (f 4)]] 0))),(Ju f)]))) (.br (decide ((k:Int)=5)) (.need (decide (k<=k)&&(true&&decide ((k+1+(k+1) / 4+192)*8<=281474976710656/\k+1<=9223372036854775807))) (.leaf (.tup (YW k n)) ([(520,.rowz true 3 [.int .i64] (k+1) (Qa k (λi x=>f i) (QU [[vi (f 5)]] 0))),(Ju f)]))) (.br (decide ((k:Int)=6)) (.need (decide (k<=k)&&(true&&decide ((k+1+(k+1) / 4+192)*8<=281474976710656/\k+1<=9223372036854775807))) (.leaf (.tup (YW k n)) ([(520,.rowz true 3 [.int .i64] (k+1) (Qa k (λi x=>f i) (QU [[vi (f 6)]] 0))),(Ju f)]))) (.br (decide ((k:Int)=7)) (.need (decide (k<=k)&&(true&&decide ((k+1+(k+1) / 4+192)*8<=281474976710656/\k+1<=9223372036854775807))) (.leaf (.tup (YW k n)) ([(520,.rowz true 3 [.int .i64] (k+1) (Qa k (λi x=>f i) (QU [[vi (f 7)]] 0))),(Ju f)]))) (.br (decide ((k:Int)=8)) (.need (decide (k<=k)&&(true&&decide ((k+1+(k+1) / 4+192)*8<=281474976710656/\k+1<=9223372036854775807))) (.leaf (.tup (YW k n)) ([(520,.rowz true 3 [.int .i64] (k+1) (Qa k (λi x=>f i) (QU [[vi (f 8)]] 0))),(Ju f)]))) (.br (decide ((k:Int)=9)) (.need (decide (k<=k)&&(true&&decide ((k+1+(k+1) / 4+192)*8<=281474976710656/\k+1<=9223372036854775807))) (.leaf (.tup (YW k n)) ([(520,.rowz true 3 [.int .i64] (k+1) (Qa k (λi x=>f i) (QU [[vi (f 9)]] 0))),(Ju f)]))) (.br (decide ((k:Int)=10)) (.need (decide (k<=k)&&(true&&decide ((k+1+(k+1) / 4+192)*8<=281474976710656/\k+1<=9223372036854775807))) (.leaf (.tup (YW k n)) ((QLt f k)))) (.need (decide (k<=k)&&(true&&decide ((k+1+(k+1) / 4+192)*8<=281474976710656/\k+1<=9223372036854775807))) (.leaf (.tup (YW k n)) ((QKt f k)))))))))))))))) (.leaf (.tup [.ptr 0 0 0,.ptr 42 0 0,.slz 440 0 k cO,.ptr 368 0 0]) ([(440,.rowz true 3 [.int .i64] k λi x=>f i),(Ju f)])):=by kernel_rfl
theorem Qf0(pb:List Prop->Bool)(x:QD)(e:Int):KI (mkE prog (Kv pb (opE x e))) (hnd (mkE prog (Kv pb (opE x e))) 1) f8 (QW.vals 0 ((x,()):QD×Unit)) (QW.blks 0 ((x,()):QD×Unit)) 8 =
  QE.need (pb ([x.d.pK.length = x.d.pK.length, x.d.pK.aK = x.d.pK.aK, x.d.pK.oK = x.d.pK.oK, x.d.pK.dK.lo = x.d.pK.dK.lo, x.d.pK.dK.hi = x.d.pK.dK.hi, x.d.wide = x.d.wide, x.d.high = x.d.high, x.d.turn = x.d.turn, (0 : Nat) = (0 : Nat), x.d.ps.n = x.d.ps.n, Cap.of (0 : Nat) = Cap.of (0 : Nat), (0 : Nat) = (0 : Nat), x.sK.n = x.sK.n, Cap.of (0 : Nat) = Cap.of (0 : Nat), (0 : Nat) = (0 : Nat), x.hang.n = x.hang.n, Cap.of (0 : Nat) = Cap.of (0 : Nat), x.lost = x.lost, x.fK = x.fK, x.d.ps.n <= x.d.ps.n, QC (28 : Nat) x.d.ps.n (λi=>QA.enc (x.d.ps.get i)) λi=>QA.enc (x.d.ps.get i), x.sK.n <= x.sK.n, QC (28 : Nat) x.sK.n (λi=>QA.enc (x.sK.get i)) λi=>QA.enc (x.sK.get i), x.hang.n <= x.hang.n, QC (4 : Nat) x.hang.n (λi=>QA.enc (x.hang.get i)) λi=>QA.enc (x.hang.get i)])) (QE.br (e != (0 : Int)) (QE.leaf (AV.tup [AV.nils, AV.int true i64 (0 : Int), AV.int false i64 e]) ([])) (QE.fail ("a call without a contract"))) := by kernel_rfl
def G9(pb:List Prop->Bool)(x:QD)(C:List (List QB))(U:UC):Tab:=Qh (Kv pb (opO x C)) 80 (Jj pb U)
abbrev QFx(P:Program)(T:Tab)(f:Nat->Int)(n:Nat):Hnd:={ hnd (mkE P T) 8 with loop:=λ_=>Q4 8 [] (XP f n (0:Nat)) [(True,.exit 0,QG1 f n)] }
theorem QWy(pb:List Prop->Bool)(x:QD)(C:List (List QB))(has':Int->Bool)(many':Int)(f':Nat->Int):KI (mkE prog (G9 pb x C (plU x C (QP f36 0).1 (QP f36 0).2 [] noH 0 (λ_=>0) has' many' f'))) (QFx prog (G9 pb x C (plU x C (QP f36 0).1 (QP f36 0).2 [] noH 0 (λ_=>0) has' many' f')) f' x.sK.n) f8 (QW.vals 0 ((x,()):QD×Unit)) (QW.blks 0 ((x,()):QD×Unit)) 8 = .need (pb (xq x++(xp x))) (.need (pb (rz 12++([([]:List MapEntry)=[],GE (vj 0) noH λi=>vi (QJ [] i),LoopState.ready=LoopState.ready,(none:Option Code)=none,Array.mk [12]=Array.mk [12],(QP f36 0).1=(QP f36 0).1,(QP f36 0).2=(QP f36 0).2,0=0,0=0,(0:Int)=0,(0:Int)=0,(0:Int)=0,(0:Int)=0,(0:Int)=0,(0:Int)=0,(0:Int)=0,(0:Int)=0,(0:Int)=0,(0:Int)=0,(0:Int)=0,(0:Int)=0,(0:Int)=0,Fn.func 37=Fn.func 37,0=0,0=0,0=0,0=0,0=0,0=0, false=false,0=0,0=0,0=0,0=0,Fn.func 79=Fn.func 79,0=0,0=0,(0:Int)=0,(0:Int)=0,(0:Int)=0,(0:Int)=0,(0:Int)=0,(0:Int)=0,(0:Int)=0,(0:Int)=0,(0:Int)=0,(0:Int)=0,(0:Int)=0,(0:Int)=0,(0:Int)=0,(0:Int)=0,Fn.func 80=Fn.func 80]++(rz 12++([Fn.func 37=Fn.func 37]++(xq x++([0=0,C.length=C.length,cO=cO, C.length=C.length,Q1 2 C.length (λi=>(QG C i).length) (λi=>(QG C i).length) (λi j=>QA.enc ((QG C i).getD j ⟨0,0⟩)) λi j=>QA.enc ((QG C i).getD j ⟨0,0⟩)]++(xp x)))))))) (.br (!decide (many'>0)) (.leaf (.tup [.nils,vj 0,vj 6]) ([])) (.ak [0=0,0=0,0=0,(x.sK.n:Int)=(x.sK.n:Int),(0:Int)=0,f' 0=f' 0,f' 1=f' 1,f' 2=f' 2,f' 3=f' 3,f' 4=f' 4,f' 5=f' 5,f' 6=f' 6,f' 7=f' 7,f' 8=f' 8,f' 9=f' 9,f' 10=f' 10,f' 11=f' 11,f' 12=f' 12,0=0] (.asm (True) (.all (λ(g0:Nat->Value)=>.leaf (.tup [.slz 440 0 x.sK.n cO,vi (f' 12),vj 0]) ([(440,.rowz true 3 [.int .i64] x.sK.n λi x=>f' i)]))))))):=by kernel_rfl
noncomputable abbrev Yc:List AV:=
  [.slz 520 0 (k+1) cO,.ptr 368 0 0,vi (n:Int),vi (i64.wrap ((k:Int)+1))]
abbrev Yr:List Prop:=
  [0=0,k+1=k',cO=cO,0=0,0=0,(n:Int)=(n:Int),i64.wrap ((k:Int)+1)=(k':Int),f 0=f 0,f 1=f 1,f 2=f 2,f 3=f 3,f 4=f 4,f
  5=f 5,f 6=f 6,f 7=f 7,f 8=f 8,f 9=f 9,f 10=f 10,f 11=f 11,f 12=f 12]
theorem QVl(n k k':Nat):QI 8 (Yc k n) ([(520,.rowz true 3 [.int .i64] (k+1) (Qa k (λi x=>f i) (QU [[vi (f 0)]] 0))),(Ju f)]) (XP f n k')=(some ((Yr f k k' n)++[k'<=k+1,QC 1 k' (Qa k (λi x=>f i) (QU [[vi (f 0)]] 0)) λi x=>f i])):=by kernel_rfl
theorem QXK(n k k':Nat):QI 8 (Yc k n) ([(520,.rowz true 3 [.int .i64] (k+1) (Qa k (λi x=>f i) (QU [[vi (f 1)]] 0))),(Ju f)]) (XP f n k')=(some ((Yr f k k' n)++[k'<=k+1,QC 1 k' (Qa k (λi x=>f i) (QU [[vi (f 1)]] 0)) λi x=>f i])):=by kernel_rfl
theorem Qey(n k k':Nat):QI 8 (Yc k n) ([(520,.rowz true 3 [.int .i64] (k+1) (Qa k (λi x=>f i) (QU [[vi (f 2)]] 0))),(Ju f)]) (XP f n k')=(some ((Yr f k k' n)++[k'<=k+1,QC 1 k' (Qa k (λi x=>f i) (QU [[vi (f 2)]] 0)) λi x=>f i])):=by kernel_rfl
theorem QUD(n k k':Nat):QI 8 (Yc k n) ([(520,.rowz true 3 [.int .i64] (k+1) (Qa k (λi x=>f i) (QU [[vi (f 3)]] 0))),(Ju f)]) (XP f n k')=(some ((Yr f k k' n)++[k'<=k+1,QC 1 k' (Qa k (λi x=>f i) (QU [[vi (f 3)]] 0)) λi x=>f i])):=by kernel_rfl
theorem Qf3(n k k':Nat):QI 8 (Yc k n) ([(520,.rowz true 3 [.int .i64] (k+1) (Qa k (λi x=>f i) (QU [[vi (f 4)]] 0))),(Ju f)]) (XP f n k')=(some ((Yr f k k' n)++[k'<=k+1,QC 1 k' (Qa k (λi x=>f i) (QU [[vi (f 4)]] 0)) λi x=>f i])):=by kernel_rfl
theorem QbH(n k k':Nat):QI 8 (Yc k n) ([(520,.rowz true 3 [.int .i64] (k+1) (Qa k (λi x=>f i) (QU [[vi (f 5)]] 0))),(Ju f)]) (XP f n k')=(some ((Yr f k k' n)++[k'<=k+1,QC 1 k' (Qa k (λi x=>f i) (QU [[vi (f 5)]] 0)) λi x=>f i])):=by kernel_rfl
theorem QTI(n k k':Nat):QI 8 (Yc k n) ([(520,.rowz true 3 [.int .i64] (k+1) (Qa k (λi x=>f i) (QU [[vi (f 6)]] 0))),(Ju f)]) (XP f n k')=(some ((Yr f k k' n)++[k'<=k+1,QC 1 k' (Qa k (λi x=>f i) (QU [[vi (f 6)]] 0)) λi x=>f i])):=by kernel_rfl
theorem QXd(n k k':Nat):QI 8 (Yc k n) ([(520,.rowz true 3 [.int .i64] (k+1) (Qa k (λi x=>f i) (QU [[vi (f 7)]] 0))),(Ju f)]) (XP f n k')=(some ((Yr f k k' n)++[k'<=k+1,QC 1 k' (Qa k (λi x=>f i) (QU [[vi (f 7)]] 0)) λi x=>f i])):=by kernel_rfl
theorem Qc1(n k k':Nat):QI 8 (Yc k n) ([(520,.rowz true 3 [.int .i64] (k+1) (Qa k (λi x=>f i) (QU [[vi (f 8)]] 0))),(Ju f)]) (XP f n k')=(some ((Yr f k k' n)++[k'<=k+1,QC 1 k' (Qa k (λi x=>f i) (QU [[vi (f 8)]] 0)) λi x=>f i])):=by kernel_rfl
theorem QaC(n k k':Nat):QI 8 (Yc k n) ([(520,.rowz true 3 [.int .i64] (k+1) (Qa k (λi x=>f i) (QU [[vi (f 9)]] 0))),(Ju f)]) (XP f n k')=(some ((Yr f k k' n)++[k'<=k+1,QC 1 k' (Qa k (λi x=>f i) (QU [[vi (f 9)]] 0)) λi x=>f i])):=by kernel_rfl
theorem QY8(n k k':Nat):QI 8 (Yc k n) ((QLt f k)) (XP f n k')=(some ((Yr f k k' n)++[k'<=k+1,QC 1 k' (Qa k (λi x=>f i) (QU [[vi (f 10)]] 0)) λi x=>f i])):=by kernel_rfl
theorem QV1(n k k':Nat):QI 8 (Yc k n) ((QKt f k)) (XP f n k')=(some ((Yr f k k' n)++[k'<=k+1,QC 1 k' (Qa k (λi x=>f i) (QU [[vi (f 11)]] 0)) λi x=>f i])):=by kernel_rfl
theorem Qex(n k:Nat):QI 8 [AV.slz (440:Nat) (0:Nat) k cO,AV.ptr (368:Nat) (0:Nat) (0:Nat)] ([((440:Nat),Blk.rowz true (3:Nat) [CK.int i64] k λi x=>f i),((368:Nat),Blk.cells (1:Nat) (94:Nat) [vi (f (0:Nat)),vi (f (1:Nat)),vi (f (2:Nat)),vi (f (3:Nat)),vi (f (4:Nat)),vi (f (5:Nat)),vi (f (6:Nat)),vi (f (7:Nat)),vi (f (8:Nat)),vi (f (9:Nat)),vi (f (10:Nat)),vi (f (11:Nat)),vi (f (12:Nat))])]) (QG1 f n)=( some [0=0,k=n,cO=cO,0=0,0=0,f (0:Nat)=f (0:Nat),f (1:Nat)=f (1:Nat),f (2:Nat)=f (2:Nat),f (3:Nat)=f (3:Nat),f (4:Nat)=f (4:Nat),f (5:Nat)=f (5:Nat),f (6:Nat)=f (6:Nat),f (7:Nat)=f (7:Nat),f (8:Nat)=f (8:Nat), f (9:Nat)=f (9:Nat),f (10:Nat)=f (10:Nat),f (11:Nat)=f (11:Nat),f (12:Nat)=f (12:Nat),n<=k,QC (1:Nat) n (λi x=>f i) λi x=>f i]):=by kernel_rfl
theorem QgR(e:Int)(f:List Int)(a e':Int):QI 8 [(AV.tup [AV.nils,vj (0:Int),vi e])] ([]) (KY 8 (Wu f a e') [KF 3 0 f 0])=( some [f.length=(0:Nat),(0:Int)=a,e=e',f.length=(0:Nat)]):=by kernel_rfl
theorem QZC(f:List Int)(a e':Int):QI 8 [(AV.tup [AV.nils,vj (0:Int),vj (6:Int)])] ([]) (KY 8 (Wu f a e') [KF 3 0 f 0])=( some [f.length=(0:Nat),(0:Int)=a,(6:Int)=e',f.length=(0:Nat)]):=by kernel_rfl
theorem Qel(x:QD)(f':Nat->Int)(f:List Int)(a e':Int):QI 8 [(AV.tup [AV.slz (440:Nat) (0:Nat) x.sK.n cO,vi (f' (12:Nat)),vj (0:Int)])] ([((440:Nat),Blk.rowz true (3:Nat) [CK.int i64] x.sK.n λi x=>f' i)]) (KY 8 (Wu f a e') [KF 3 0 f 0])=( some [0=0,x.sK.n=f.length,cO=cO,f' (12:Nat)=a,(0:Int)=e',f.length<=x.sK.n,QC (1:Nat) f.length (λi x=>f' i) λi=>QA.enc (f.getD i (0:Int))]):=by kernel_rfl
theorem Yu:QC 1 (k+1) (Qa k (λi _=>f i) (QU [[.int false .i64 (f k)]] 0)) (λi _=>f i):=by
 intro i hi;show eqF 1 0 (Qa k (λi _=>f i) (QU [[.int false .i64 (f k)]] 0) i) (λ_=>f i)
 by_cases h:i<k
 .have e2:Qa k (λi _=>f i) (QU [[.int false .i64 (f k)]] 0) i=λ_=>f i:=by funext j;rw[Vb,if_pos h]
  rw[e2];exact XC _ _ _
 .have q:i=k:=by omega
  subst q;have e2:Qa i (λi _=>f i) (QU [[.int false .i64 (f i)]] 0) i=QU [[.int false .i64 (f i)]] 0 0:=by funext j;rw[Vb,if_neg h,Nat.sub_self]
  rw[e2];exact⟨rfl,trivial⟩
theorem QVe(hn:n<=12):Kk (λk=>XP f n k) (λk=>k<=n) (λk=>n-k) (λ_ e J=>e = .exit 0/\J=QG1 f n) 8 QSp [] (mkF prog Qu) (λ_=>hnd (mkF prog Qu) 3) (QT f8 0):=by
 refine⟨λk g hk=>Qp (QZd f n k g) ?_⟩;refine QH ?_ ?_<;>intro h
 .have h:k<n:=by have:=qdt h;omega
  have hw:=KW h (by omega:n<=1000)
  refine QF (by simp;omega) ?_
  refine QH ?_ ?_<;>intro q
  .refine QF (by simp;omega) ⟨k+1,h,by show n-(k+1)<n-k;omega,λ_ _ h=>h,rfl,rfl,_,QVl f n k (k+1),?_⟩
   obtain rfl:k=0:=by have:=qdt q;omega
   repeat' first|with_reducible refine QK ?_ ?_|exact tv|exact hw|exact Yu f 0|refine aI ?_ ?_
  have q0:¬ (k:Int)=0:=qdf q;clear q;refine QH ?_ ?_<;>intro q
  .refine QF (by simp;omega) ⟨k+1,h,by show n-(k+1)<n-k;omega,λ_ _ h=>h,rfl,rfl,_,QXK f n k (k+1),?_⟩
   obtain rfl:k=1:=by have:=qdt q;omega
   repeat' first|with_reducible refine QK ?_ ?_|exact tv|exact hw|exact Yu f 1|refine aI ?_ ?_
  have q1:¬ (k:Int)=1:=qdf q;clear q;refine QH ?_ ?_<;>intro q
  .refine QF (by simp;omega) ⟨k+1,h,by show n-(k+1)<n-k;omega,λ_ _ h=>h,rfl,rfl,_,Qey f n k (k+1),?_⟩
   obtain rfl:k=2:=by have:=qdt q;omega
   repeat' first|with_reducible refine QK ?_ ?_|exact tv|exact hw|exact Yu f 2|refine aI ?_ ?_
  have q2:¬ (k:Int)=2:=qdf q;clear q;refine QH ?_ ?_<;>intro q
  .refine QF (by simp;omega) ⟨k+1,h,by show n-(k+1)<n-k;omega,λ_ _ h=>h,rfl,rfl,_,QUD f n k (k+1),?_⟩
   obtain rfl:k=3:=by have:=qdt q;omega
   repeat' first|with_reducible refine QK ?_ ?_|exact tv|exact hw|exact Yu f 3|refine aI ?_ ?_
  have q3:¬ (k:Int)=3:=qdf q;clear q;refine QH ?_ ?_<;>intro q
  .refine QF (by simp;omega) ⟨k+1,h,by show n-(k+1)<n-k;omega,λ_ _ h=>h,rfl,rfl,_,Qf3 f n k (k+1),?_⟩
   obtain rfl:k=4:=by have:=qdt q;omega
   repeat' first|with_reducible refine QK ?_ ?_|exact tv|exact hw|exact Yu f 4|refine aI ?_ ?_
  have q4:¬ (k:Int)=4:=qdf q;clear q;refine QH ?_ ?_<;>intro q
  .refine QF (by simp;omega) ⟨k+1,h,by show n-(k+1)<n-k;omega,λ_ _ h=>h,rfl,rfl,_,QbH f n k (k+1),?_⟩
   obtain rfl:k=5:=by have:=qdt q;omega
   repeat' first|with_reducible refine QK ?_ ?_|exact tv|exact hw|exact Yu f 5|refine aI ?_ ?_
  have q5:¬ (k:Int)=5:=qdf q;clear q;refine QH ?_ ?_<;>intro q
  .refine QF (by simp;omega) ⟨k+1,h,by show n-(k+1)<n-k;omega,λ_ _ h=>h,rfl,rfl,_,QTI f n k (k+1),?_⟩
   obtain rfl:k=6:=by have:=qdt q;omega
   repeat' first|with_reducible refine QK ?_ ?_|exact tv|exact hw|exact Yu f 6|refine aI ?_ ?_
  have q6:¬ (k:Int)=6:=qdf q;clear q;refine QH ?_ ?_<;>intro q
  .refine QF (by simp;omega) ⟨k+1,h,by show n-(k+1)<n-k;omega,λ_ _ h=>h,rfl,rfl,_,QXd f n k (k+1),?_⟩
   obtain rfl:k=7:=by have:=qdt q;omega
   repeat' first|with_reducible refine QK ?_ ?_|exact tv|exact hw|exact Yu f 7|refine aI ?_ ?_
  have q7:¬ (k:Int)=7:=qdf q;clear q;refine QH ?_ ?_<;>intro q
  .refine QF (by simp;omega) ⟨k+1,h,by show n-(k+1)<n-k;omega,λ_ _ h=>h,rfl,rfl,_,Qc1 f n k (k+1),?_⟩
   obtain rfl:k=8:=by have:=qdt q;omega
   repeat' first|with_reducible refine QK ?_ ?_|exact tv|exact hw|exact Yu f 8|refine aI ?_ ?_
  have q8:¬ (k:Int)=8:=qdf q;clear q;refine QH ?_ ?_<;>intro q
  .refine QF (by simp;omega) ⟨k+1,h,by show n-(k+1)<n-k;omega,λ_ _ h=>h,rfl,rfl,_,QaC f n k (k+1),?_⟩
   obtain rfl:k=9:=by have:=qdt q;omega
   repeat' first|with_reducible refine QK ?_ ?_|exact tv|exact hw|exact Yu f 9|refine aI ?_ ?_
  have q9:¬ (k:Int)=9:=qdf q;clear q;refine QH ?_ ?_<;>intro q
  .refine QF (by simp;omega) ⟨k+1,h,by show n-(k+1)<n-k;omega,λ_ _ h=>h,rfl,rfl,_,QY8 f n k (k+1),?_⟩
   obtain rfl:k=10:=by have:=qdt q;omega
   repeat' first|with_reducible refine QK ?_ ?_|exact tv|exact hw|exact Yu f 10|refine aI ?_ ?_
  have q10:¬ (k:Int)=10:=qdf q;clear q;refine QF (by simp;omega) ⟨k+1,h,by show n-(k+1)<n-k;omega,λ_ _ h=>h,rfl,rfl,_,QV1 f n k (k+1),?_⟩
  obtain rfl:k=11:=by omega
  repeat' first|with_reducible refine QK ?_ ?_|exact tv|exact hw|exact Yu f 11|refine aI ?_ ?_
 .have:k=n:=by have:=qdf h;omega
  subst this;refine⟨_,⟨rfl,rfl⟩,rfl,rfl,_,Qex f k k,?_⟩
  repeat' first|with_reducible refine QK ?_ ?_|exact tv|refine aI ?_ ?_
theorem QUt{T:Tab}(hT:QZ T)(f:Nat->Int)(n:Nat)(hn:n<=12)(G:Ctx)(hrd:G.rd=none)(hG:G.n=8):Q8 (mkE prog T) G (QFx prog T f n) (Qi f8):=by
 refine Kg (body:=QT f8 0) (QL hT) hrd (by kernel_rfl) ?_
 refine YG (E:=mkF prog Qu) rfl (Kr (n0:=8) (Wk KC) (by omega) (λs hs=>Qw (Wk KC) 3 G _ hrd) (λs hs=>(by decide:8<=448)) ?_ (QVe f n hn) (s0:=0) (Nat.zero_le _) ?_)
 .rintro s e J ⟨_,rfl⟩;exact(by decide:8<=448)
 .rintro e J ⟨rfl,rfl⟩;exact⟨_,qmc,trivial,rfl,rfl⟩
def QH3:Res PlS:=onT x (Qn x x.sK.n) plY x.sK.n [] (0,λ_=>0) noH
def Q2:List Int×Int×Int:=match x.ok with
 | false=>([],0,1)
 | true=>match Ky x with
  | true=>([],0,11)
  | false=>match QH3 x with
   | .stop s _ | .go s _=>match decide (s.1>0)with
    | false=>([],0,6)
    | true=>((List.range x.sK.n).map s.2,s.2 12,0)
def Yw:WF (QD×Unit):=λ|(x,_)=>(decide (x.d.ps.n<=1000/\x.sK.n<=1000/\x.hang.n<=1000),Wu (Q2 x).1 (Q2 x).2.1 (Q2 x).2.2,[KF 3 0 (Q2 x).1 0])
def QOj:FC:=wFC Yw
theorem QQP:WOk (Yw (x,())).2.1 (Yw (x,())).2.2:=⟨rfl,by simp[Yw,KF,Blk.own,Blk.all],rfl⟩
theorem QJs(e:Int)(ht:QO prog 35 (uFC (opE x e)))(he:e≠0)(hv:Q2 x=([],0,e)):QO prog 8 (wFC (JN Yw (x,()))):=by
 have hT:QZ (Kv QV (opE x e)):=KC.add ht;refine Vt (c:=Qi f8) (E:=mkE prog (Kv QV (opE x e))) (H:=hnd (mkE prog (Kv QV (opE x e))) 1) (QL hT) func8 (by kernel_rfl) (by kernel_rfl) (N:=8) (by decide) (x,()) (λG h1 _=>Qw (QL hT) 1 G _ h1) (QQP x) ?_
 refine Qp (Qf0 QV x e) ?_;refine QF (KP.2 ?_) (QH (λ_=>?_) (λh=>by simp at h;exact absurd h he))
 .repeat' first|with_reducible refine QK ?_ ?_|exact tv|refine aI ?_ ?_
 .simp only[Yw,hv];refine⟨rfl,rfl,_,QgR e [] 0 e,?_⟩
  repeat' first|with_reducible refine QK ?_ ?_|exact tv|exact rfl|refine aI ?_ ?_
theorem QUi:QC 1 ((List.range n).map f).length (λi _=>f i) (λi=>QA.enc (((List.range n).map f).getD i (0:Int))):=by
 intro i hi;show eqF 1 0 (λ_=>f i) (QA.enc (((List.range n).map f).getD i (0:Int)));have hi:i<n:=by simpa using hi
 have:((List.range n).map f).getD i (0:Int)=f i:=by simp[List.getD_eq_getElem?_getD,hi]
 rw[this];exact⟨rfl,trivial⟩
theorem QYv(hs:XZ x)(hx:x.ok=true)(hr:Ky x=false):QO prog 8 (wFC (JN Yw (x,()))):=by
 have hg:=Jo hx;have hss:=hg.s;have hC:=QDM (x:=x) hg.d.n9;have hon:=QPb hg hC x.sK.n [] (0,λ_=>0) noH (by simp) (λc hc=>by cases hc) trivial
 obtain⟨s,h,he⟩:=Z8 (C:=Qn x x.sK.n) (x:=x) (Y:=plY) (λ_ _=>rfl) x.sK.n [] (0,λ_=>0) noH;rw[he]at hon;have hT:QZ (G9 QV x (Qn x x.sK.n) (plU x (Qn x x.sK.n) ZU Y2 [] noH 0 (λ_=>0) h s.1 s.2)):=(KC.add (qx x hs hx hr)).add hon
 have hv:Q2 x=match decide (s.1>0)with
   | false=>([],0,6)
   | true=>((List.range x.sK.n).map s.2,s.2 12,0):=by
  simp only[Q2,hx,hr,QH3,he]
 refine Vt (c:=Qi f8) (E:=mkE prog (G9 QV x (Qn x x.sK.n) (plU x (Qn x x.sK.n) ZU Y2 [] noH 0 (λ_=>0) h s.1 s.2))) (H:=QFx prog (G9 QV x (Qn x x.sK.n) (plU x (Qn x x.sK.n) ZU Y2 [] noH 0 (λ_=>0) h s.1 s.2)) s.2 x.sK.n) (QL hT) func8 (by kernel_rfl) (by kernel_rfl) (N:=8) (by decide) (x,()) (λG h1 h2=>QUt hT _ _ hss G h1 h2) (QQP x) ?_
 refine Qp (QWy QV x (Qn x x.sK.n) h s.1 s.2) ?_;refine QF (KP.2 ?_) (QF (KP.2 ?_) (QH (λq=>?_) (λq=>?_)))
 .repeat' first|with_reducible refine QK ?_ ?_|exact trivial|with_reducible rfl|exact qlr _|exact qRr|exact QS _ _ _ _|refine aI ?_ ?_
 .repeat' first|with_reducible refine QK ?_ ?_|exact trivial|with_reducible rfl|exact qlr _|exact qRr|exact QS _ _ _ _|exact QAo _|exact rfl|refine aI ?_ ?_
 .have q:decide (s.1>0)=false:=by simpa using q
  simp only[Yw,hv,q];refine⟨rfl,rfl,_,QZC [] 0 6,?_⟩
  repeat' first|with_reducible refine QK ?_ ?_|exact trivial|with_reducible rfl|exact qlr _|exact qRr|exact QS _ _ _ _|exact rfl|refine aI ?_ ?_
 .have q:decide (s.1>0)=true:=by simpa using q
  repeat' first|refine QX (p:=_=_) rfl ?_|refine QX (p:=_<=_) (qlr _) ?_|refine QX (p:=_<=_) (Nat.zero_le _) ?_|refine QX (p:=QC _ _ _ _) (qRr) ?_|refine QX (p:=QC _ _ _ _) (λi hi=>absurd hi (Nat.not_lt_zero i)) ?_
  refine KB λ_=>Q7 λg=>?_;simp only[Yw,hv,q];refine⟨rfl,rfl,_,Qel x s.2 _ _ 0,?_⟩
  repeat' first|with_reducible refine QK ?_ ?_|exact trivial|with_reducible rfl|exact qlr _|exact qRr|exact QS _ _ _ _|exact(by simp:x.sK.n=((List.range x.sK.n).map s.2).length)|exact(by simp:((List.range x.sK.n).map s.2).length<=x.sK.n)|exact QUi _ _|exact rfl|refine aI ?_ ?_
theorem Qd6(hx:(Yw (x,())).1=true):QO prog 8 (wFC (JN Yw (x,()))):=by
 obtain⟨h1,h2,h3⟩:=qdt hx;have hs:XZ x:=⟨h1,h2,h3⟩;cases ho:x.ok with
 | false=>exact QJs x 1 (QDa x hs ho) (by decide) (by simp only[Q2,ho])
 | true=>cases hr:Ky x with
  | true=>exact QJs x 11 (QCo x hs ho hr) (by decide) (by simp only[Q2,ho,hr])
  | false=>exact QYv x hs ho hr
theorem QYf:QO prog 8 QOj:=WL (by kernel_rfl) λ|(x,()),hx=>Qd6 x hx
structure QJK where
 off:Sp
 wide:Sp
 deep:Sp
instance : Enc QJK where
  enc x := .agg [.int false .i64 x.off.lo,.int false .i64 x.off.hi,.int false .i64 x.wide.lo,.int false .i64 x.wide.hi,.int false .i64 x.deep.lo,.int false .i64 x.deep.hi]
  dec | .agg [.int _ .i64 a0,.int _ .i64 a1,.int _ .i64 a2,.int _ .i64 a3,.int _ .i64 a4,.int _ .i64 a5] => some ⟨⟨a0,a1⟩,⟨a2,a3⟩,⟨a4,a5⟩⟩ | _ => none
  ok v x h := by
    split at h <;> (try (cases h; done))
    simp only[qsI]at h; subst h; exact⟨λ_=>rfl,rfl⟩
theorem QUx{p:Qz}{t h:Edge}(hB:KA.B ⟨p,t,h⟩):((-100000<=(Qt p t h).lo/\(Qt p t h).lo<=100000) /\ -100000<=(Qt p t h).hi/\(Qt p t h).hi<=100000)/\((-100000<=(Qr t h).lo/\(Qr t h).lo<=100000) /\ -100000<=(Qr t h).hi/\(Qr t h).hi<=100000) /\
  ((-100000<=(Qq t h).lo/\(Qq t h).lo<=100000) /\ -100000<=(Qq t h).hi/\(Qq t h).hi<=100000)/\(0<=p.dK.lo/\p.dK.lo<=100)/\0<=p.dK.hi/\p.dK.hi<=100:=by
 obtain⟨h1,h2,h3⟩:=hB;unfold Vc at h1;unfold VT at h2 h3;simp only[Qt,Qr,Qq]at *;omega
def X5(s:Sp)(lo hi:Int)(d:Sp):Bool:=decide ((-100000<=s.lo/\s.lo<=100000)/\(-100000<=s.hi/\s.hi<=100000)/\(-500<=lo/\lo<=500)/\(-500<=hi/\hi<=500)/\0<=d.hi/\d.hi<=100)
def QKg:Int×Int×Int×Unit->Bool×AV:=λ|(n,(a,(b,_)))=>(true,.bool false (Qe n a b))
def QOk:FC:=KM (KN QKg)
theorem Qb6(n:Int)(a:Int)(b:Int):KJ (mkE prog jW) (hnd (mkE prog jW) 0) false f88 (Q3.enc ((n,a,b,()):Int×Int×Int×Unit)) [] 0=QE.br (decide (a<=n)) (QE.leaf (AV.bool false (decide (n<=b))) ([])) (QE.leaf (AV.bool true false) ([])):=by kernel_rfl
theorem QeC:QO prog 88 QOk:=by
 refine KZ QCe 0 func88 (by kernel_rfl) (by kernel_rfl) ?_
 rintro⟨n,a,b,⟨⟩⟩ hp;rw[Qb6 n a b];simp only[QKg,QE.den,AV.same,AV.sameL,and_true,true_and]at hp ⊢
 (repeat' (first|(refine aI ?_ ?_)|(intro _)))<;>simp_all [Qe]<;>omega
def QEI:Tab:=Qh jW 88 QOk
theorem QLL:QZ QEI:=QCe.add QeC
def QMJ:Sp×Int×Int×Unit->Bool×AV:=λ|(s,(a,(b,_)))=>(true,.bool false (s.isIn a b))
def QKw:FC:=KM (KN QMJ)
theorem Qer(s:Sp)(a:Int)(b:Int):KJ (mkE prog QEI) (hnd (mkE prog QEI) 0) false f89 (Q3.enc ((s,a,b,()):Sp×Int×Int×Unit)) [] 0=QE.br (decide (a<=s.lo)) (QE.br (decide (s.lo<=s.hi)) (QE.leaf (AV.bool false (decide (s.hi<=b))) ([])) (QE.leaf (AV.bool true false) ([]))) (QE.leaf (AV.bool true false) ([])):=by kernel_rfl
theorem QZ3:QO prog 89 QKw:=by
 refine KZ QLL 0 func89 (by kernel_rfl) (by kernel_rfl) ?_
 rintro⟨s,a,b,⟨⟩⟩ hp;rw[Qer s a b];simp only[QMJ,QE.den,AV.same,AV.sameL,and_true,true_and]at hp ⊢
 (repeat' (first|(refine aI ?_ ?_)|(intro _)))<;>simp_all [Sp.isIn]<;>omega
def QCX:Tab:=Qh QEI 89 QKw
theorem QKR:QZ QCX:=QLL.add QZ3
def QOs:Edge×Unit->Bool×AV:=λ|(a,_)=>(true,.bool false a.ok)
def QOi:FC:=KM (KN QOs)
theorem QfM(a:Edge):KJ (mkE prog QCX) (hnd (mkE prog QCX) 0) false f55 (Q3.enc ((a,()):Edge×Unit)) [] 0=QE.br (a.kind==(0:Int)) (QE.leaf (AV.bool true true) ([])) (QE.need (true) (QE.br (Qe a.kind (1:Int) (2:Int)) (QE.need (true) (QE.br (a.at_.isIn (0:Int) (10000:Int)) (QE.need (true) (QE.br (a.wide.isIn (1:Int) (3000:Int)) (QE.need (true) (QE.leaf (AV.bool false (a.deep.isIn (1:Int) (3000:Int))) ([]))) (QE.leaf (AV.bool true false) ([])))) (QE.leaf (AV.bool true false) ([])))) (QE.leaf (AV.bool true false) ([])))):=by kernel_rfl
theorem Qb2:QO prog 55 QOi:=by
 refine KZ QKR 0 func55 (by kernel_rfl) (by kernel_rfl) ?_
 rintro⟨a,⟨⟩⟩ hp;rw[QfM a];simp only[QOs,QE.den,AV.same,AV.sameL,and_true,true_and]at hp ⊢
 have hw:Qe a.kind 1 2=((a.kind==1)||(a.kind==2)):=by
  unfold Qe;rw[Bool.eq_iff_iff];simp only[qdE,qbO,beq_iff_eq];omega
 simp only[hw];unfold Edge.ok;cases (a.kind==0)<;>cases ((a.kind==1)||(a.kind==2))<;>cases a.at_.isIn 0 10000<;>cases a.wide.isIn 1 3000<;>simp
def QDJ:Tab:=Qh QCX 55 QOi
theorem QJR:QZ QDJ:=QKR.add Qb2
def QNy:Qz×Unit->Bool×AV:=λ|(p,_)=>(true,.bool false p.ok)
def QJ0:FC:=KM (KN QNy)
theorem QXn(p:Qz):KJ (mkE prog QDJ) (hnd (mkE prog QDJ) 0) false f53 (Q3.enc ((p,()):Qz×Unit)) [] 0=QE.need (true) (QE.br (Qe p.length (1:Int) (10000:Int)) (QE.need (true) (QE.br (Qe p.aK (0:Int) (500:Int)) (QE.need (true) (QE.br (Qe p.oK (0:Int) (500:Int)) (QE.need (true) (QE.leaf (AV.bool false (p.dK.isIn (0:Int) (100:Int))) ([]))) (QE.leaf (AV.bool true false) ([])))) (QE.leaf (AV.bool true false) ([])))) (QE.leaf (AV.bool true false) ([]))):=by kernel_rfl
theorem QTN:QO prog 53 QJ0:=by
 refine KZ QJR 0 func53 (by kernel_rfl) (by kernel_rfl) ?_
 rintro⟨p,⟨⟩⟩ hp;rw[QXn p];simp only[QNy,QE.den,AV.same,AV.sameL,and_true,true_and]at hp ⊢
 (repeat' (first|(refine aI ?_ ?_)|(intro _)))<;>simp_all [Qz.ok]
def QB0:Tab:=Qh QDJ 53 QJ0
theorem QNJ:QZ QB0:=QJR.add QTN
def QKP:Qz×Edge×Edge×Unit->Bool×AV:=λ|(p,(t,(h,_)))=>(decide (KA.B ⟨p,t,h⟩),Enc.enc (⟨Qt p t h,Qr t h,Qq t h⟩:QJK))
def QOS:FC:=KM (KN QKP)
theorem QYL(p:Qz)(t:Edge)(h:Edge):KJ (mkE prog QB0) (hnd (mkE prog QB0) 0) false f161 (Q3.enc ((p,t,h,()):Qz×Edge×Edge×Unit)) [] 0=QE.leaf (AV.agg [vi (i64.wrap (i64.wrap (t.at_.lo+h.at_.lo)-p.length)),vi (i64.wrap (i64.wrap (t.at_.hi+h.at_.hi)-p.length)),vi (i64.wrap (h.wide.lo-t.wide.hi)),vi (i64.wrap (h.wide.hi-t.wide.lo)),vi (i64.wrap (h.deep.lo-t.deep.hi)),vi (i64.wrap (h.deep.hi-t.deep.lo))]) ([]):=by kernel_rfl
theorem Qch:QO prog 161 QOS:=by
 refine KZ QNJ 0 func161 (by kernel_rfl) (by kernel_rfl) ?_
 rintro⟨p,t,h,⟨⟩⟩ hp;rw[QYL p t h];simp only[QKP,QE.den,AV.same,AV.sameL,and_true,true_and]at hp ⊢;have hq:=qdt hp;obtain⟨h1,h2,h3⟩:=hq;unfold Vc at h1;unfold VT at h2 h3;simp only at h1 h2 h3;simp only[Enc.enc,AV.same,AV.sameL,true_and,and_true,Qt,Qr,Qq];rw[w64 (n:=t.at_.lo+h.at_.lo) (by omega) (by omega),w64 (n:=t.at_.hi+h.at_.hi) (by omega) (by omega)]
 rw[w64 (by omega) (by omega),w64 (by omega) (by omega),w64 (by omega) (by omega),w64 (by omega) (by omega),w64 (by omega) (by omega),w64 (by omega) (by omega)]
 refine⟨?_,?_,?_,?_,?_,?_⟩<;>omega
def QCA:Tab:=Qh QB0 161 QOS
theorem QKa:QZ QCA:=QNJ.add Qch
def QN1:Sp×Int×Int×Sp×Unit->Bool×AV:=λ|(s,(lo,(hi,(d,_))))=>(X5 s lo hi d,.bool false (Kt s.lo s.hi lo hi d.hi))
def QSD:FC:=KM (KN QN1)
theorem QfL(s:Sp)(lo:Int)(hi:Int)(d:Sp):KJ (mkE prog QCA) (hnd (mkE prog QCA) 0) false f162 (Q3.enc ((s,lo,hi,d,()):Sp×Int×Int×Sp×Unit)) [] 0=QE.br (decide (i64.wrap (s.lo*i64.wrap ((1000:Int)+d.hi))≥i64.wrap ((1000:Int)*lo))) (QE.leaf (AV.bool false (decide (i64.wrap (s.hi*i64.wrap ((1000:Int)+d.hi))<=i64.wrap ((1000:Int)*hi)))) ([])) (QE.leaf (AV.bool true false) ([])):=by kernel_rfl
theorem QbL:QO prog 162 QSD:=by
 refine KZ QKa 0 func162 (by kernel_rfl) (by kernel_rfl) ?_
 rintro⟨s,lo,hi,d,⟨⟩⟩ hp;rw[QfL s lo hi d];simp only[QN1,QE.den,AV.same,AV.sameL,and_true,true_and]at hp ⊢;have hq:=qdt hp;obtain⟨h1,h2,h3,h4,h5⟩:=hq;exact H5 h1 h2 h3 h4 h5
def Z3:Tab:=Qh QCA 162 QSD
theorem zh:QZ Z3:=QKa.add QbL
structure Kd where
 s:Sp
 d:Sp
 lo:Int
 hi:Int
 n:Int
def Kd.I(x:Kd):JSt:=⟨40,[(1,vi x.lo),(2,vi x.hi),(4,.ptr 0 0 0),(7,.ptr 8 0 0),(9,vi x.n)],[(8,.cells 0 23 (Enc.enc x.d).cells),(0,.cells 0 23 (Enc.enc x.s).cells)],56⟩
def Kd.pre(x:Kd):Prop:=(-100000<=x.s.lo/\x.s.lo<=100000)/\(-100000<=x.s.hi/\x.s.hi<=100000)/\(-500<=x.lo/\x.lo<=0)/\(0<=x.hi/\x.hi<=500)/\(0<=x.d.lo/\x.d.lo<=100) /\ -100000<=x.n/\x.n<=100001
def Kd.good(x:Kd)(n:Int):Prop:=n<=min x.s.hi x.hi/\1000*x.lo<=n*(1000+x.d.lo)/\n*(1000+x.d.lo)<=1000*x.hi
def Kd.yes(x:Kd):Prop:=∃ n,x.n<=n/\x.good n
def Gf(x:Kd)(e:Ex)(J:JSt):Prop:=(e = .ret/\J=⟨40,[(8,.bool true true)],[],0⟩/\x.yes)∨(e = .exit 0/\J=⟨40,[],[],0⟩/\¬ x.yes)
def QDe:Ex->List Nat
 | .normal=>[1,2,4,7,9]
 | .ret=>[8]
 | .exit _=>[]
def Kd.mu(x:Kd):Nat:=(min x.s.hi x.hi+1-x.n).toNat
def Kd.next(x:Kd):Kd:={ x with n:=x.n+1 }
def QEX(x:Kd):QE := .leaf (.tup [.nilp,.ptr 40 0 0,vi x.lo,vi x.hi,.ptr 0 0 0,.ptr 8 0 0,vi (i64.wrap (x.n+1))]) [(8,.cells 0 23 (Enc.enc x.d).cells),(0,.cells 0 23 (Enc.enc x.s).cells)]
theorem Qf6(x:Kd)(g:Nat->Value):exec (mkE prog Z3) (hnd (mkE prog Z3) 0) (QT f163 0) (JSt.inst x.I g) (QCM QDe) =
  .br (decide (x.n <= min x.s.hi x.hi))
    (.br (decide (i64.wrap (x.n * i64.wrap (1000 + x.d.lo)) ≥ i64.wrap (1000 * x.lo)))
      (.br (decide (i64.wrap (x.n * i64.wrap (1000 + x.d.lo)) <= i64.wrap (1000 * x.hi)))
        (.leaf (.tup [.nili,.ptr 40 0 0,.bool true true]) [(8,.cells 0 23 (Enc.enc x.d).cells),(0,.cells 0 23 (Enc.enc x.s).cells)])
        (QEX x)) (QEX x))
    (.leaf (.tup [.ptr 0 0 0,.ptr 40 0 0]) [(8,.cells 0 23 (Enc.enc x.d).cells),(0,.cells 0 23 (Enc.enc x.s).cells)]) := by kernel_rfl
theorem QPp{x:Kd}(h:x.pre):i64.wrap (x.n*i64.wrap (1000+x.d.lo))=x.n*(1000+x.d.lo)/\i64.wrap (1000*x.lo)=1000*x.lo/\i64.wrap (1000*x.hi)=1000*x.hi/\i64.wrap (x.n+1)=x.n+1:=by
 obtain⟨h1,h2,h3,h4,h5,h6,h7⟩:=h;have e:i64.wrap (1000+x.d.lo)=1000+x.d.lo:=w64 (by omega) (by omega)
 have m:=Int.mul_le_mul_of_nonneg_right h6 (show 0<=1000+x.d.lo by omega)
 have m':=Int.mul_le_mul_of_nonneg_right h7 (show 0<=1000+x.d.lo by omega)
 rw[e];exact⟨w64 (by omega) (by omega),w64 (by omega) (by omega),w64 (by omega) (by omega),w64 (by omega) (by omega)⟩
theorem QQa{x:Kd}(hp:x.pre)(hn:x.n<=min x.s.hi x.hi)(hb:¬ (1000*x.lo<=x.n*(1000+x.d.lo)/\x.n*(1000+x.d.lo)<=1000*x.hi)):(QEX x).den (vk (QML Kd.I Kd.pre Kd.mu Gf 0 QDe x) (Go.SX.Leaves Gf 0 QDe x)):=by
 unfold QEX;rw[(QPp hp).2.2.2];refine⟨x.next,λi=>i,?_,?_,?_,?_⟩
 .obtain⟨h1,h2,h3,h4,h5,h6,h7⟩:=hp;refine⟨h1,h2,h3,h4,h5,?_,?_⟩<;>simp only[Kd.next]<;>omega
 .simp only[Kd.mu,Kd.next];omega
 .intro e J hR
  have hy:x.next.yes↔x.yes:=by
   constructor
   .rintro⟨n,h1,h2⟩;simp only[Kd.next]at h1;exact⟨n,by omega,h2⟩
   .rintro⟨n,h1,h2⟩;rcases(show n=x.n∨x.n+1<=n by omega)with rfl|h3
    .exact absurd h2.2 hb
    .exact⟨n,h3,h2⟩
  unfold Gf at *;rw[hy]at hR;exact hR
 .refine X6.same rfl rfl ?_ ?_ rfl rfl
  .exact⟨⟨rfl,rfl⟩,⟨rfl,rfl⟩,⟨rfl,rfl,rfl⟩,⟨rfl,rfl,rfl⟩,⟨rfl,rfl⟩,trivial⟩
  .exact⟨⟨_,rfl,rfl,rfl,⟨rfl,rfl⟩,⟨rfl,rfl⟩,trivial⟩,⟨_,rfl,rfl,rfl,⟨rfl,rfl⟩,⟨rfl,rfl⟩,trivial⟩,trivial⟩
theorem QU3:QFe Kd.I Kd.pre Kd.mu Gf 0 QDe (mkE prog Z3) (hnd (mkE prog Z3) 0) (QT f163 0):=by
 intro x g hp;rw[Qf6];obtain⟨e1,e2,e3,_⟩:=QPp hp;simp only[QE.den,e1,e2,e3,qdE,decide_eq_false_iff_not];refine⟨λhn=>⟨λh1=>⟨λh2=>?_,λh2=>?_⟩,λh1=>?_⟩,λhn=>?_⟩
 .exact⟨⟨40,[(8,.bool true true)],[],0⟩,λi=>i,.inl ⟨rfl,rfl,x.n,Int.le_refl _,hn,h1,h2⟩,X6.same rfl rfl ⟨rfl,trivial⟩ trivial rfl rfl⟩
 .exact QQa hp hn (λh=>h2 h.2)
 .exact QQa hp hn (λh=>h1 h.1)
 .refine⟨⟨40,[],[],0⟩,λi=>i,.inr ⟨rfl,rfl,?_⟩,X6.same rfl rfl trivial trivial rfl rfl⟩;rintro⟨n,h1,h2,_⟩;omega
instance (x : Kd) : Decidable x.pre := by unfold Kd.pre; infer_instance
def Zs:Code->St->(Ex->St->QE)->QE:=λ_ st K=>match st.tm.length==40&&Xc st.hp,QM st.tm 1,QM st.tm 2,QM st.tm 4,QM st.tm 7,QM st.tm 9,Go.SX.look st.hp 8,Go.SX.look st.hp 0 with
 | true,.int _ .i64 lo,.int _ .i64 hi,.ptr 0 0 0,.ptr 8 0 0,.int _ .i64 n,some (.cells 0 23 [.int _ .i64 dlo,.int _ .i64 dhi]),some (.cells 0 23 [.int _ .i64 slo,.int _ .i64 shi])=>
  .need (decide (Kd.pre ⟨⟨slo,shi⟩,⟨dlo,dhi⟩,lo,hi,n⟩)) (.both (.asm (Kd.yes ⟨⟨slo,shi⟩,⟨dlo,dhi⟩,lo,hi,n⟩) (.all λg=>K .ret (JSt.inst ⟨40,[(8,.bool true true)],[],0⟩ g)))
   (.asm (¬ Kd.yes ⟨⟨slo,shi⟩,⟨dlo,dhi⟩,lo,hi,n⟩) (.all λg=>K (.exit 0) (JSt.inst ⟨40,[],[],0⟩ g))))
 | _, _, _, _, _, _, _, _ => .fail "some"
theorem Qgm(body:Code)(st:St)(K:Ex->St->QE)(T:AV->List (Nat×Blk)->Prop)(h:(Zs body st K).den T):∃ s q ls',Kd.pre s/\X6 0 q ls' st.tm.length (ls'.map (QM st.tm)) st.hp (Kd.I s)/\∀ e J g,Gf s e J->(K e (J.inst g)).den T:=by
 unfold Zs at h;split at h<;>(try (exact h.elim))
 rename_i k1 lo k2 hi k9 n kd dlo ke dhi ks slo kt shi c1 e1 e2 e4 e7 e9 h8 h0;simp only[QE.den,qdE]at h;rw[qbA]at c1;refine⟨⟨⟨slo,shi⟩,⟨dlo,dhi⟩,lo,hi,n⟩,λi=>i,[1,2,4,7,9],h.1,X6.same rfl ?_ ?_ ?_ rfl rfl ?_,?_⟩
 .exact beq_iff_eq.1 c1.1
 .simp only[List.map_cons,List.map_nil, *];exact⟨⟨rfl,rfl⟩,⟨rfl,rfl⟩,⟨rfl,rfl,rfl⟩,⟨rfl,rfl,rfl⟩,⟨rfl,rfl⟩,trivial⟩
 .exact⟨⟨_,h8,rfl,rfl,⟨rfl,rfl⟩,⟨rfl,rfl⟩,trivial⟩,⟨_,h0,rfl,rfl,⟨rfl,rfl⟩,⟨rfl,rfl⟩,trivial⟩,trivial⟩
 .exact c1.2
 .rintro e J g (⟨rfl,rfl,hy⟩|⟨rfl,rfl,hy⟩)
  .exact h.2.1 hy g
  .exact h.2.2 hy g
theorem Qfi(G:Ctx)(hG:G.n=0)(hrd:G.rd=none):Q8 (mkE prog Z3) G { hnd (mkE prog Z3) 0 with loop:=Zs } (Qi f163):=
 ⟨λb hb=>by
  have e:JB (Qi f163)=[.loop (QT f163 0)]:=by kernel_rfl
  rw[e,List.mem_singleton]at hb;subst hb;exact QUG (QL zh) (by omega) (Qw (QL zh) 0 G _ hrd) (λ_=>Nat.zero_le _) QU3 (λst K T h=>Qgm (QT f163 0) st K T h),(Qw (QL zh) 0 G (Qi f163) hrd).call,(Qw (QL zh) 0 G (Qi f163) hrd).yield⟩
def Kz(s:Sp)(lo hi:Int)(d:Sp):Bool:=decide (s.lo<=s.hi/\(-100000<=s.lo/\s.lo<=100000)/\(-100000<=s.hi/\s.hi<=100000)/\(-500<=lo/\lo<=0)/\(0<=hi/\hi<=500)/\0<=d.lo/\d.lo<=100)
def QJn:Sp×Int×Int×Sp×Unit->Bool×AV:=λ|(s,(lo,(hi,(d,_))))=>(Kz s lo hi d,.bool false (Q6 s.lo s.hi lo hi d.lo))
def QNc:FC:=KM (KN QJn)
theorem QVq(s:Sp)(lo:Int)(hi:Int)(d:Sp):KJ (mkE prog Z3) { hnd (mkE prog Z3) 0 with loop:=Zs } false f163 (Q3.enc ((s,lo,hi,d,()):Sp×Int×Int×Sp×Unit)) [] 0=QE.need (decide (Kd.mk s d lo hi (max s.lo lo)).pre) (QE.both (QE.asm ((Kd.mk s d lo hi (max s.lo lo)).yes) (QE.all (λ(g0:Nat->Value)=>QE.leaf (AV.bool true true) ([])))) (QE.asm (¬(Kd.mk s d lo hi (max s.lo lo)).yes) (QE.all (λ(g1:Nat->Value)=>QE.leaf (AV.bool true false) ([]))))):=by kernel_rfl
theorem Qfg:QO prog 163 QNc:=by
 refine QH8 (QL zh) func163 (by kernel_rfl) (by kernel_rfl) Qfi ?_
 rintro⟨s,lo,hi,d,⟨⟩⟩ hp;rw[QVq s lo hi d];simp only[QJn,QE.den,AV.same,AV.sameL,and_true,true_and]at hp ⊢;have hq:=qdt hp;obtain⟨h0,h1,h2,h3,h4,h5⟩:=hq;unfold Kd.yes Kd.good;refine⟨qde ⟨h1,h2,h3,h4,h5,?_,?_⟩,?_,?_⟩
 .show -100000<=max s.lo lo;omega
 .show max s.lo lo<=100001;omega
 .rintro⟨n,g1,g2,g3,g4⟩ _
  dsimp only at g1 g2 g3 g4
  exact(Qd7 (n:=n) (by omega) (by omega) (by omega) (by omega) (by omega) g3 g4).symm
 .intro hn _
  dsimp only at hn
  refine(QUh (by omega) (by omega) (by omega) h0 λn g1 g2 g3=>hn ⟨n,g1,g2,g3⟩).symm
def QBa:Tab:=Qh Z3 163 QNc
theorem QKX:QZ QBa:=zh.add Qfg
theorem QMg{p:Qz}{t h:Edge}(h1:p.ok=true)(h2:t.ok=true)(h3:h.ok=true)(ht:t.kind=1)(hh:h.kind=2):(KA.B ⟨p,t,h⟩/\i64.wrap (0-p.aK) = -p.aK)/\(X5 (Qt p t h) (-p.aK) p.aK p.dK=true/\X5 (Qr t h) 0 p.oK p.dK=true/\X5 (Qq t h) 0 p.oK p.dK=true) /\
  Kz (Qt p t h) (-p.aK) p.aK p.dK=true/\Kz (Qr t h) 0 p.oK p.dK=true/\Kz (Qq t h) 0 p.oK p.dK=true:=by
 have hB:=QId h1 h2 h3 ht hh;have hb:=QUx hB;have h1':=hB.1;unfold Vc at h1'
 have s2:(t.at_.lo<=t.at_.hi/\t.wide.lo<=t.wide.hi/\t.deep.lo<=t.deep.hi):=by
  unfold Edge.ok Sp.isIn at h2;simp[ht]at h2;omega
 have s3:(h.at_.lo<=h.at_.hi/\h.wide.lo<=h.wide.hi/\h.deep.lo<=h.deep.hi):=by
  unfold Edge.ok Sp.isIn at h3;simp[hh]at h3;omega
 obtain⟨o1,o2,o3,o4⟩:=hb;simp only at h1';have n1:(Qt p t h).lo<=(Qt p t h).hi:=by simp only[Qt];omega
 have n2:(Qr t h).lo<=(Qr t h).hi:=by simp only[Qr];omega
 have n3:(Qq t h).lo<=(Qq t h).hi:=by simp only[Qq];omega
 unfold X5 Kz;refine⟨⟨hB,?_⟩,⟨qde ?_,qde ?_,qde ?_⟩,qde ?_,qde ?_,qde ?_⟩
 .rw[w64 (by omega) (by omega)];omega
 all_goals omega
def QNo:Qz×Edge×Edge×Unit->Bool×AV:=λ|(p,(a,(b,_)))=>(okP p a b,.int false .i64 (Wa p a b))
def QJ1:FC:=KM (KN QNo)
theorem Qcx(p:Qz)(a:Edge)(b:Edge):KJ (mkE prog QBa) (hnd (mkE prog QBa) 4) false f140 (Q3.enc ((p,a,b,()):Qz×Edge×Edge×Unit)) [] 0 = .br (a.kind==1) (.br (b.kind==2) (.need (decide (KA.mk p a b).B) (.need (X5 (Qt p a b) (i64.wrap ((0:Int)-p.aK)) p.aK p.dK) (.br (Kt (Qt p a b).lo (Qt p a b).hi (i64.wrap ((0:Int)-p.aK)) p.aK p.dK.hi) (.need (X5 (Qr a b) (0:Int) p.oK p.dK) (.br (Kt (Qr a b).lo (Qr a b).hi (0:Int) p.oK p.dK.hi) (.need (X5 (Qq a b) (0:Int) p.oK p.dK) (.br (Kt (Qq a b).lo (Qq a b).hi (0:Int) p.oK p.dK.hi) (.leaf (vj 2) ([])) (.need (Kz (Qt p a b) (i64.wrap ((0:Int)-p.aK)) p.aK p.dK) (.br (Q6 (Qt p a b).lo (Qt p a b).hi (i64.wrap ((0:Int)-p.aK)) p.aK p.dK.lo) (.need (Kz (Qr a b) (0:Int) p.oK p.dK) (.br (Q6 (Qr a b).lo (Qr a b).hi (0:Int) p.oK p.dK.lo) (.need (Kz (Qq a b) (0:Int) p.oK p.dK) (.br (Q6 (Qq a b).lo (Qq a b).hi (0:Int) p.oK p.dK.lo) (.leaf (vj 1) ([])) (.leaf (vj 0) ([])))) (.leaf (vj 0) ([])))) (.leaf (vj 0) ([])))))) (.need (Kz (Qt p a b) (i64.wrap ((0:Int)-p.aK)) p.aK p.dK) (.br (Q6 (Qt p a b).lo (Qt p a b).hi (i64.wrap ((0:Int)-p.aK)) p.aK p.dK.lo) (.need (Kz (Qr a b) (0:Int) p.oK p.dK) (.br (Q6 (Qr a b).lo (Qr a b).hi (0:Int) p.oK p.dK.lo) (.need (Kz (Qq a b) (0:Int) p.oK p.dK) (.br (Q6 (Qq a b).lo (Qq a b).hi (0:Int) p.oK p.dK.lo) (.leaf (vj 1) ([])) (.leaf (vj 0) ([])))) (.leaf (vj 0) ([])))) (.leaf (vj 0) ([])))))) (.need (Kz (Qt p a b) (i64.wrap ((0:Int)-p.aK)) p.aK p.dK) (.br (Q6 (Qt p a b).lo (Qt p a b).hi (i64.wrap ((0:Int)-p.aK)) p.aK p.dK.lo) (.need (Kz (Qr a b) (0:Int) p.oK p.dK) (.br (Q6 (Qr a b).lo (Qr a b).hi (0:Int) p.oK p.dK.lo) (.need (Kz (Qq a b) (0:Int) p.oK p.dK) (.br (Q6 (Qq a b).lo (Qq a b).hi (0:Int) p.oK p.dK.lo) (.leaf (vj 1) ([])) (.leaf (vj 0) ([])))) (.leaf (vj 0) ([])))) (.leaf (vj 0) ([]))))))) (.br (b.kind==1) (.br (a.kind==2) (.need (decide (KA.mk p b a).B) (.need (X5 (Qt p b a) (i64.wrap ((0:Int)-p.aK)) p.aK p.dK) (.br (Kt (Qt p b a).lo (Qt p b a).hi (i64.wrap ((0:Int)-p.aK)) p.aK p.dK.hi) (.need (X5 (Qr b a) (0:Int) p.oK p.dK) (.br (Kt (Qr b a).lo (Qr b a).hi (0:Int) p.oK p.dK.hi) (.need (X5 (Qq b a) (0:Int) p.oK p.dK) (.br (Kt (Qq b a).lo (Qq b a).hi (0:Int) p.oK p.dK.hi) (.leaf (vj 2) ([])) (.need (Kz (Qt p b a) (i64.wrap ((0:Int)-p.aK)) p.aK p.dK) (.br (Q6 (Qt p b a).lo (Qt p b a).hi (i64.wrap ((0:Int)-p.aK)) p.aK p.dK.lo) (.need (Kz (Qr b a) (0:Int) p.oK p.dK) (.br (Q6 (Qr b a).lo (Qr b a).hi (0:Int) p.oK p.dK.lo) (.need (Kz (Qq b a) (0:Int) p.oK p.dK) (.br (Q6 (Qq b a).lo (Qq b a).hi (0:Int) p.oK p.dK.lo) (.leaf (vj 1) ([])) (.leaf (vj 0) ([])))) (.leaf (vj 0) ([])))) (.leaf (vj 0) ([])))))) (.need (Kz (Qt p b a) (i64.wrap ((0:Int)-p.aK)) p.aK p.dK) (.br (Q6 (Qt p b a).lo (Qt p b a).hi (i64.wrap ((0:Int)-p.aK)) p.aK p.dK.lo) (.need (Kz (Qr b a) (0:Int) p.oK p.dK) (.br (Q6 (Qr b a).lo (Qr b a).hi (0:Int) p.oK p.dK.lo) (.need (Kz (Qq b a) (0:Int) p.oK p.dK) (.br (Q6 (Qq b a).lo (Qq b a).hi (0:Int) p.oK p.dK.lo) (.leaf (vj 1) ([])) (.leaf (vj 0) ([])))) (.leaf (vj 0) ([])))) (.leaf (vj 0) ([])))))) (.need (Kz (Qt p b a) (i64.wrap ((0:Int)-p.aK)) p.aK p.dK) (.br (Q6 (Qt p b a).lo (Qt p b a).hi (i64.wrap ((0:Int)-p.aK)) p.aK p.dK.lo) (.need (Kz (Qr b a) (0:Int) p.oK p.dK) (.br (Q6 (Qr b a).lo (Qr b a).hi (0:Int) p.oK p.dK.lo) (.need (Kz (Qq b a) (0:Int) p.oK p.dK) (.br (Q6 (Qq b a).lo (Qq b a).hi (0:Int) p.oK p.dK.lo) (.leaf (vj 1) ([])) (.leaf (vj 0) ([])))) (.leaf (vj 0) ([])))) (.leaf (vj 0) ([]))))))) (.leaf (vj 0) ([]))) (.leaf (vj 0) ([])))) (.br (b.kind==1) (.br (a.kind==2) (.need (decide (KA.mk p b a).B) (.need (X5 (Qt p b a) (i64.wrap ((0:Int)-p.aK)) p.aK p.dK) (.br (Kt (Qt p b a).lo (Qt p b a).hi (i64.wrap ((0:Int)-p.aK)) p.aK p.dK.hi) (.need (X5 (Qr b a) (0:Int) p.oK p.dK) (.br (Kt (Qr b a).lo (Qr b a).hi (0:Int) p.oK p.dK.hi) (.need (X5 (Qq b a) (0:Int) p.oK p.dK) (.br (Kt (Qq b a).lo (Qq b a).hi (0:Int) p.oK p.dK.hi) (.leaf (vj 2) ([])) (.need (Kz (Qt p b a) (i64.wrap ((0:Int)-p.aK)) p.aK p.dK) (.br (Q6 (Qt p b a).lo (Qt p b a).hi (i64.wrap ((0:Int)-p.aK)) p.aK p.dK.lo) (.need (Kz (Qr b a) (0:Int) p.oK p.dK) (.br (Q6 (Qr b a).lo (Qr b a).hi (0:Int) p.oK p.dK.lo) (.need (Kz (Qq b a) (0:Int) p.oK p.dK) (.br (Q6 (Qq b a).lo (Qq b a).hi (0:Int) p.oK p.dK.lo) (.leaf (vj 1) ([])) (.leaf (vj 0) ([])))) (.leaf (vj 0) ([])))) (.leaf (vj 0) ([])))))) (.need (Kz (Qt p b a) (i64.wrap ((0:Int)-p.aK)) p.aK p.dK) (.br (Q6 (Qt p b a).lo (Qt p b a).hi (i64.wrap ((0:Int)-p.aK)) p.aK p.dK.lo) (.need (Kz (Qr b a) (0:Int) p.oK p.dK) (.br (Q6 (Qr b a).lo (Qr b a).hi (0:Int) p.oK p.dK.lo) (.need (Kz (Qq b a) (0:Int) p.oK p.dK) (.br (Q6 (Qq b a).lo (Qq b a).hi (0:Int) p.oK p.dK.lo) (.leaf (vj 1) ([])) (.leaf (vj 0) ([])))) (.leaf (vj 0) ([])))) (.leaf (vj 0) ([])))))) (.need (Kz (Qt p b a) (i64.wrap ((0:Int)-p.aK)) p.aK p.dK) (.br (Q6 (Qt p b a).lo (Qt p b a).hi (i64.wrap ((0:Int)-p.aK)) p.aK p.dK.lo) (.need (Kz (Qr b a) (0:Int) p.oK p.dK) (.br (Q6 (Qr b a).lo (Qr b a).hi (0:Int) p.oK p.dK.lo) (.need (Kz (Qq b a) (0:Int) p.oK p.dK) (.br (Q6 (Qq b a).lo (Qq b a).hi (0:Int) p.oK p.dK.lo) (.leaf (vj 1) ([])) (.leaf (vj 0) ([])))) (.leaf (vj 0) ([])))) (.leaf (vj 0) ([]))))))) (.leaf (vj 0) ([]))) (.leaf (vj 0) ([]))):=by kernel_rfl
theorem QeH:QO prog 140 QJ1:=by
 refine KZ QKX 4 func140 (by kernel_rfl) (by kernel_rfl) ?_
 rintro⟨p,a,b,⟨⟩⟩ hp;rw[Qcx p a b];simp only[QNo,QE.den,AV.same,AV.sameL,and_true,true_and]at hp ⊢;unfold okP at hp;simp only[qbA]at hp;obtain⟨h1,h2,h3⟩:=hp;unfold Wa
 by_cases c1:a.kind=1/\b.kind=2
 .obtain⟨ha,hb⟩:=c1;obtain⟨⟨q1,q2⟩,⟨q3,q4,q5⟩,q6,q7,q8⟩:=QMg h1 h2 h3 ha hb;rw[if_neg (by omega),if_pos ⟨ha,hb⟩,QEq]
  simp only[ha,hb,q1,q2,q3,q4,q5,q6,q7,q8,alw,may,beq_self_eq_true,decide_true];generalize Kt (Qt p a b).lo (Qt p a b).hi (-p.aK) p.aK p.dK.hi=b1;generalize Kt (Qr a b).lo (Qr a b).hi 0 p.oK p.dK.hi=b2;generalize Kt (Qq a b).lo (Qq a b).hi 0 p.oK p.dK.hi=b3;generalize Q6 (Qt p a b).lo (Qt p a b).hi (-p.aK) p.aK p.dK.lo=b4;generalize Q6 (Qr a b).lo (Qr a b).hi 0 p.oK p.dK.lo=b5;generalize Q6 (Qq a b).lo (Qq a b).hi 0 p.oK p.dK.lo=b6;cases b1<;>cases b2<;>cases b3<;>cases b4<;>cases b5<;>cases b6<;>simp
 by_cases c2:b.kind=1/\a.kind=2
 .obtain⟨hb,ha⟩:=c2;obtain⟨⟨q1,q2⟩,⟨q3,q4,q5⟩,q6,q7,q8⟩:=QMg h1 h3 h2 hb ha;rw[if_pos ha,if_pos hb,QEq];simp only[ha,hb,q1,q2,q3,q4,q5,q6,q7,q8,alw,may,beq_self_eq_true,decide_true];generalize Kt (Qt p b a).lo (Qt p b a).hi (-p.aK) p.aK p.dK.hi=b1;generalize Kt (Qr b a).lo (Qr b a).hi 0 p.oK p.dK.hi=b2;generalize Kt (Qq b a).lo (Qq b a).hi 0 p.oK p.dK.hi=b3;generalize Q6 (Qt p b a).lo (Qt p b a).hi (-p.aK) p.aK p.dK.lo=b4;generalize Q6 (Qr b a).lo (Qr b a).hi 0 p.oK p.dK.lo=b5;generalize Q6 (Qq b a).lo (Qq b a).hi 0 p.oK p.dK.lo=b6
  cases b1<;>cases b2<;>cases b3<;>cases b4<;>cases b5<;>cases b6<;>simp
 have e0:(if a.kind=2 then (if b.kind=1 then Wi p b a else 0)else if a.kind=1/\b.kind=2 then Wi p a b else 0)=0:=by
  split
  .rename_i ha;rw[if_neg (λh=>c2 ⟨h,ha⟩)]
  .rfl
 rw[e0];simp only[beq_iff_eq,beq_eq_false_iff_ne];refine⟨λha=>⟨λhb=>absurd ⟨ha,hb⟩ c1,λ_=>⟨λhb=>⟨λh=>absurd ⟨hb,h⟩ c2,λ_=>trivial⟩,λ_=>trivial⟩⟩,λ_=>⟨λhb=>⟨λh=>absurd ⟨hb,h⟩ c2,λ_=>trivial⟩,λ_=>trivial⟩⟩
def QBX:Tab:=Qh QBa 140 QJ1
theorem QMa:QZ QBX:=QKX.add QeH
def QJD:Qz×Edge×Edge×Unit->Bool×AV:=λ|(p,(a,(b,_)))=>(true,.tup [.int false .i64 (KE p a b).1,.int false .i64 (KE p a b).2])
def QRX:FC:=KM (KN QJD)
theorem Qcv(p:Qz)(a:Edge)(b:Edge):KJ (mkE prog QBX) (hnd (mkE prog QBX) 4) false f111 (Q3.enc ((p,a,b,()):Qz×Edge×Edge×Unit)) [] 0=QE.need (true) (QE.br (!p.ok) (QE.leaf (AV.tup [vj (0:Int),vj (1:Int)]) ([])) (QE.need (true) (QE.br (!a.ok) (QE.leaf (AV.tup [vj (0:Int),vj (1:Int)]) ([])) (QE.need (true) (QE.br (!b.ok) (QE.leaf (AV.tup [vj (0:Int), vj (1:Int)]) ([])) (QE.need (okP p a b) (QE.leaf (AV.tup [vi (Wa p a b),vj (0:Int)]) ([])))))))):=by kernel_rfl
theorem QZD:QO prog 111 QRX:=by
 refine KZ QMa 4 func111 (by kernel_rfl) (by kernel_rfl) ?_
 rintro⟨p,a,b,⟨⟩⟩ hp;rw[Qcv p a b];simp only[QJD,QE.den,AV.same,AV.sameL,and_true,true_and]at hp ⊢;unfold KE okP;cases p.ok<;>cases a.ok<;>cases b.ok<;>simp
def QES:Tab:=Qh QBX 111 QRX
theorem QOl:QZ QES:=QMa.add QZD
