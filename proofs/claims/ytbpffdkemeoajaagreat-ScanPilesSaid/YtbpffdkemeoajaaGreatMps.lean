/- - -/
import Derived.Test.YtbpffdkemeoajaaGreatMpr
open Go.Proofs.Tryz
open Go.IntKind (i64)
set_option maxRecDepth 100000
namespace Go.Proofs.YtbpffdkemeoajaaGreat
open Go.SX
variable (d:Puz)(c:Nat)(g:Nat->Value)
def QFR:List AV:=[.int false .i64 d.pK.length,.int false .i64 d.pK.aK,.int false .i64 d.pK.oK,.int false .i64 d.pK.dK.lo,.int false .i64 d.pK.dK.hi,.int false .i64 d.wide,.int false .i64 d.high,.bool false d.turn,.slz 0 0 d.ps.n (.of 0)]
def QBh:JSt:=⟨62,[(1,.ptr 8 0 0),(16,.slz 0 0 d.ps.n (.of 0)),(17,.int false .i64 d.ps.n),(18,.int false .i64 c)],[(8,.cells 0 28 (QFR d))]++KD.blk 0 d.ps,96⟩
def QPQ:Ex->List Nat
 | .normal=>[1,16,17,18]
 | .exit _=>[]
 | .ret=>[2,3,4]
noncomputable abbrev QSj:List AV:=
  [.nili,.ptr 62 0 0,vi (c:Int),vj 0,vj 0]
noncomputable abbrev QB2:List AV:=
  [.nili,.ptr 62 0 0,vi (c:Int),vj 1,vj 0]
noncomputable abbrev qG:List AV:=
  [.nili,.ptr 62 0 0,vi (c:Int),vj 2,vj 0]
noncomputable abbrev XB:List AV:=
  [.nili,.ptr 62 0 0,vi (c:Int),vj 3,vj 0]
noncomputable abbrev Vw(d:Puz):List AV:=
  [.nilp,.ptr 62 0 0,.ptr 8 0 0,.slz 0 0 d.ps.n cO,vi (d.ps.n:Int),vi (i64.wrap ((c:Int)+1))]
noncomputable abbrev Vh:List (Nat×Blk):=
  [(8,.cells 0 28 [vi d.pK.length,vi d.pK.aK,vi d.pK.oK,vi d.pK.dK.lo,vi d.pK.dK.hi,.int
  false .i64 d.wide,vi d.high,.bool false d.turn,.slz 0 0 d.ps.n cO]),(0,.frz [.int .i64,.int .i64,.int .i64,.int .i64,.int .i64,.int .i64,.int .i64,
  .int .i64,.int .i64,.int .i64,.int .i64,.int .i64,.int .i64,.int .i64,.int .i64,.int .i64,.int .i64,.int .i64,.int .i64,.int .i64,.int .i64,.int .i64,.int .i64,.int
  .i64,.int .i64,.int .i64,.int .i64,.int .i64] d.ps.n λi=>QA.enc (d.ps.get i))]
theorem Qfe :exec (mkE prog Y6) (hnd (mkE prog Y6) 6) (QT f28 0) (JSt.inst (QBh d c) g) (KG [] QPQ) = .br (decide ((c:Int)<(d.ps.n:Int))) (.need (decide ((0:Int)<=(c:Int)/\(c:Int)<(d.ps.n:Int))&&decide (d.ps.n<=d.ps.n)) (.need (decide (c<d.ps.n)) (.need (decide (d.ps.n<=d.ps.n)&&(true&&(true&&true))&&decide (((1:Int)<=d.wide/\d.wide<=100)/\((1:Int)<=d.high/\d.high<=100)/\(0:Int)<=(c:Int)/\(c:Int)<=100)) (.br (Qj d.wide d.high (c:Int) (0:Int) == -1) (.br ((d.ps.get c).up.kind != 0) (.leaf (.tup (QSj c)) ([])) (.need (decide (d.ps.n<=d.ps.n)&&(true&&(true&&true))&&decide (((1:Int)<=d.wide/\d.wide<=100)/\((1:Int)<=d.high/\d.high<=100)/\(0:Int)<=(c:Int)/\(c:Int)<=100)) (.br (Qj d.wide d.high (c:Int) (1:Int) == -1) (.br ((d.ps.get c).right.kind != 0) (.leaf (.tup (QB2 c)) ([])) (.need (decide (d.ps.n<=d.ps.n)&&(true&&(true&&true))&&decide (((1:Int)<=d.wide/\d.wide<=100)/\((1:Int)<=d.high/\d.high<=100)/\(0:Int)<=(c:Int)/\(c:Int)<=100)) (.br (Qj d.wide d.high (c:Int) (2:Int) == -1) (.br ((d.ps.get c).down.kind != 0) (.leaf (.tup (qG c)) ([])) (.need (decide (d.ps.n<=d.ps.n)&&(true&&(true&&true))&&decide (((1:Int)<=d.wide/\d.wide<=100)/\((1:Int)<=d.high/\d.high<=100)/\(0:Int)<=(c:Int)/\(c:Int)<=100)) (.br (Qj d.wide d.high (c:Int) (3:Int) == -1) (.br ((d.ps.get c).left.kind != 0) (.leaf (.tup (XB c)) ([])) (.leaf (.tup (Vw c d)) ((Vh d)))) (.need (decide ((0:Int)<=Qj d.wide d.high (c:Int) (3:Int)/\Qj d.wide d.high (c:Int) (3:Int)<(d.ps.n:Int))&&decide (d.ps.n<=d.ps.n)) (.need (decide ((Qj d.wide d.high (c:Int) (3:Int)).toNat<d.ps.n)) (.need (true) (.br ((KE d.pK (d.ps.get c).left (d.ps.get (Qj d.wide d.high (c:Int) (3:Int)).toNat).right).1 != 2) (.leaf (.tup (XB c)) ([])) (.leaf (.tup (Vw c d)) ((Vh d)))))))))) (.need (decide ((0:Int)<=Qj d.wide d.high (c:Int) (2:Int)/\Qj d.wide d.high (c:Int) (2:Int)<(d.ps.n:Int))&&decide (d.ps.n<=d.ps.n)) (.need (decide ((Qj d.wide d.high (c:Int) (2:Int)).toNat<d.ps.n)) (.need (true) (.br ((KE d.pK (d.ps.get c).down (d.ps.get (Qj d.wide d.high (c:Int) (2:Int)).toNat).up).1 != 2) (.leaf (.tup (qG c)) ([])) (.need (decide (d.ps.n<=d.ps.n)&&(true&&(true&&true))&&decide (((1:Int)<=d.wide/\d.wide<=100)/\((1:Int)<=d.high/\d.high<=100)/\(0:Int)<=(c:Int)/\(c:Int)<=100)) (.br (Qj d.wide d.high (c:Int) (3:Int) == -1) (.br ((d.ps.get c).left.kind != 0) (.leaf (.tup (XB c)) ([])) (.leaf (.tup (Vw c d)) ((Vh d)))) (.need (decide ((0:Int)<=Qj d.wide d.high (c:Int) (3:Int)/\Qj d.wide d.high (c:Int) (3:Int)<(d.ps.n:Int))&&decide (d.ps.n<=d.ps.n)) (.need (decide ((Qj d.wide d.high (c:Int) (3:Int)).toNat<d.ps.n)) (.need (true) (.br ((KE d.pK (d.ps.get c).left (d.ps.get (Qj d.wide d.high (c:Int) (3:Int)).toNat).right).1 != 2) (.leaf (.tup (XB c)) ([])) (.leaf (.tup (Vw c d)) ((Vh d)))))))))))))))) (.need (decide ((0:Int)<=Qj d.wide d.high (c:Int) (1:Int)/\Qj d.wide d.high (c:Int) (1:Int)<(d.ps.n:Int))&&decide (d.ps.n<=d.ps.n)) (.need (decide ((Qj d.wide d.high (c:Int) (1:Int)).toNat<d.ps.n)) (.need (true) (.br ((KE d.pK (d.ps.get c).right (d.ps.get (Qj d.wide d.high (c:Int) (1:Int)).toNat).left).1 != 2) (.leaf (.tup (QB2 c)) ([])) (.need (decide (d.ps.n<=d.ps.n)&&(true&&(true&&true))&&decide (((1:Int)<=d.wide/\d.wide<=100)/\((1:Int)<=d.high/\d.high<=100)/\(0:Int)<=(c:Int)/\(c:Int)<=100)) (.br (Qj d.wide d.high (c:Int) (2:Int) == -1) (.br ((d.ps.get c).down.kind != 0) (.leaf (.tup (qG c)) ([])) (.need (decide (d.ps.n<=d.ps.n)&&(true&&(true&&true))&&decide (((1:Int)<=d.wide/\d.wide<=100)/\((1:Int)<=d.high/\d.high<=100)/\(0:Int)<=(c:Int)/\(c:Int)<=100)) (.br (Qj d.wide d.high (c:Int) (3:Int) == -1) (.br ((d.ps.get c).left.kind != 0) (.leaf (.tup (XB c)) ([])) (.leaf (.tup (Vw c d)) ((Vh d)))) (.need (decide ((0:Int)<=Qj d.wide d.high (c:Int) (3:Int)/\Qj d.wide d.high (c:Int) (3:Int)<(d.ps.n:Int))&&decide (d.ps.n<=d.ps.n)) (.need (decide ((Qj d.wide d.high (c:Int) (3:Int)).toNat<d.ps.n)) (.need (true) (.br ((KE d.pK (d.ps.get c).left (d.ps.get (Qj d.wide d.high (c:Int) (3:Int)).toNat).right).1 != 2) (.leaf (.tup (XB c)) ([])) (.leaf (.tup (Vw c d)) ((Vh d)))))))))) (.need (decide ((0:Int)<=Qj d.wide d.high (c:Int) (2:Int)/\Qj d.wide d.high (c:Int) (2:Int)<(d.ps.n:Int))&&decide (d.ps.n<=d.ps.n)) (.need (decide ((Qj d.wide d.high (c:Int) (2:Int)).toNat<d.ps.n)) (.need (true) (.br ((KE d.pK (d.ps.get c).down (d.ps.get (Qj d.wide d.high (c:Int) (2:Int)).toNat).up).1 != 2) (.leaf (.tup (qG c)) ([])) (.need (decide (d.ps.n<=d.ps.n)&&(true&&(true&&true))&&decide (((1:Int)<=d.wide/\d.wide<=100)/\((1:Int)<=d.high/\d.high<=100)/\(0:Int)<=(c:Int)/\(c:Int)<=100)) (.br (Qj d.wide d.high (c:Int) (3:Int) == -1) (.br ((d.ps.get c).left.kind != 0) (.leaf (.tup (XB c)) ([])) (.leaf (.tup (Vw c d)) ((Vh d)))) (.need (decide ((0:Int)<=Qj d.wide d.high (c:Int) (3:Int)/\Qj d.wide d.high (c:Int) (3:Int)<(d.ps.n:Int))&&decide (d.ps.n<=d.ps.n)) (.need (decide ((Qj d.wide d.high (c:Int) (3:Int)).toNat<d.ps.n)) (.need (true) (.br ((KE d.pK (d.ps.get c).left (d.ps.get (Qj d.wide d.high (c:Int) (3:Int)).toNat).right).1 != 2) (.leaf (.tup (XB c)) ([])) (.leaf (.tup (Vw c d)) ((Vh d)))))))))))))))))))))) (.need (decide ((0:Int)<=Qj d.wide d.high (c:Int) (0:Int)/\Qj d.wide d.high (c:Int) (0:Int)<(d.ps.n:Int))&&decide (d.ps.n<=d.ps.n)) (.need (decide ((Qj d.wide d.high (c:Int) (0:Int)).toNat<d.ps.n)) (.need (true) (.br ((KE d.pK (d.ps.get c).up (d.ps.get (Qj d.wide d.high (c:Int) (0:Int)).toNat).down).1 != 2) (.leaf (.tup (QSj c)) ([])) (.need (decide (d.ps.n<=d.ps.n)&&(true&&(true&&true))&&decide (((1:Int)<=d.wide/\d.wide<=100)/\((1:Int)<=d.high/\d.high<=100)/\(0:Int)<=(c:Int)/\(c:Int)<=100)) (.br (Qj d.wide d.high (c:Int) (1:Int) == -1) (.br ((d.ps.get c).right.kind != 0) (.leaf (.tup (QB2 c)) ([])) (.need (decide (d.ps.n<=d.ps.n)&&(true&&(true&&true))&&decide (((1:Int)<=d.wide/\d.wide<=100)/\((1:Int)<=d.high/\d.high<=100)/\(0:Int)<=(c:Int)/\(c:Int)<=100)) (.br (Qj d.wide d.high (c:Int) (2:Int) == -1) (.br ((d.ps.get c).down.kind != 0) (.leaf (.tup (qG c)) ([])) (.need (decide (d.ps.n<=d.ps.n)&&(true&&(true&&true))&&decide (((1:Int)<=d.wide/\d.wide<=100)/\((1:Int)<=d.high/\d.high<=100)/\(0:Int)<=(c:Int)/\(c:Int)<=100)) (.br (Qj d.wide d.high (c:Int) (3:Int) == -1) (.br ((d.ps.get c).left.kind != 0) (.leaf (.tup (XB c)) ([])) (.leaf (.tup (Vw c d)) ((Vh d)))) (.need (decide ((0:Int)<=Qj d.wide d.high (c:Int) (3:Int)/\Qj d.wide d.high (c:Int) (3:Int)<(d.ps.n:Int))&&decide (d.ps.n<=d.ps.n)) (.need (decide ((Qj d.wide d.high (c:Int) (3:Int)).toNat<d.ps.n)) (.need (true) (.br ((KE d.pK (d.ps.get c).left (d.ps.get (Qj d.wide d.high (c:Int) (3:Int)).toNat).right).1 != 2) (.leaf (.tup (XB c)) ([])) (.leaf (.tup (Vw c d)) ((Vh d)))))))))) (.need (decide ((0:Int)<=Qj d.wide d.high (c:Int) (2:Int)/\Qj d.wide d.high (c:Int) (2:Int)<(d.ps.n:Int))&&decide (d.ps.n<=d.ps.n)) (.need (decide ((Qj d.wide d.high (c:Int) (2:Int)).toNat<d.ps.n)) (.need (true) (.br ((KE d.pK (d.ps.get c).down (d.ps.get (Qj d.wide d.high (c:Int) (2:Int)).toNat).up).1 != 2) (.leaf (.tup (qG c)) ([])) (.need (decide (d.ps.n<=d.ps.n)&&(true&&(true&&true))&&decide (((1:Int)<=d.wide/\d.wide<=100)/\((1:Int)<=d.high/\d.high<=100)/\(0:Int)<=(c:Int)/\(c:Int)<=100)) (.br (Qj d.wide d.high (c:Int) (3:Int) == -1) (.br ((d.ps.get c).left.kind != 0) (.leaf (.tup (XB c)) ([])) (.leaf (.tup (Vw c d)) ((Vh d)))) (.need (decide ((0:Int)<=Qj d.wide d.high (c:Int) (3:Int)/\Qj d.wide d.high (c:Int) (3:Int)<(d.ps.n:Int))&&decide (d.ps.n<=d.ps.n)) (.need (decide ((Qj d.wide d.high (c:Int) (3:Int)).toNat<d.ps.n)) (.need (true) (.br ((KE d.pK (d.ps.get c).left (d.ps.get (Qj d.wide d.high (c:Int) (3:Int)).toNat).right).1 != 2) (.leaf (.tup (XB c)) ([])) (.leaf (.tup (Vw c d)) ((Vh d)))))))))))))))) (.need (decide ((0:Int)<=Qj d.wide d.high (c:Int) (1:Int)/\Qj d.wide d.high (c:Int) (1:Int)<(d.ps.n:Int))&&decide (d.ps.n<=d.ps.n)) (.need (decide ((Qj d.wide d.high (c:Int) (1:Int)).toNat<d.ps.n)) (.need (true) (.br ((KE d.pK (d.ps.get c).right (d.ps.get (Qj d.wide d.high (c:Int) (1:Int)).toNat).left).1 != 2) (.leaf (.tup (QB2 c)) ([])) (.need (decide (d.ps.n<=d.ps.n)&&(true&&(true&&true))&&decide (((1:Int)<=d.wide/\d.wide<=100)/\((1:Int)<=d.high/\d.high<=100)/\(0:Int)<=(c:Int)/\(c:Int)<=100)) (.br (Qj d.wide d.high (c:Int) (2:Int) == -1) (.br ((d.ps.get c).down.kind != 0) (.leaf (.tup (qG c)) ([])) (.need (decide (d.ps.n<=d.ps.n)&&(true&&(true&&true))&&decide (((1:Int)<=d.wide/\d.wide<=100)/\((1:Int)<=d.high/\d.high<=100)/\(0:Int)<=(c:Int)/\(c:Int)<=100)) (.br (Qj d.wide d.high (c:Int) (3:Int) == -1) (.br ((d.ps.get c).left.kind != 0) (.leaf (.tup (XB c)) ([])) (.leaf (.tup (Vw c d)) ((Vh d)))) (.need (decide ((0:Int)<=Qj d.wide d.high (c:Int) (3:Int)/\Qj d.wide d.high (c:Int) (3:Int)<(d.ps.n:Int))&&decide (d.ps.n<=d.ps.n)) (.need (decide ((Qj d.wide d.high (c:Int) (3:Int)).toNat<d.ps.n)) (.need (true) (.br ((KE d.pK (d.ps.get c).left (d.ps.get (Qj d.wide d.high (c:Int) (3:Int)).toNat).right).1 != 2) (.leaf (.tup (XB c)) ([])) (.leaf (.tup (Vw c d)) ((Vh d)))))))))) (.need (decide ((0:Int)<=Qj d.wide d.high (c:Int) (2:Int)/\Qj d.wide d.high (c:Int) (2:Int)<(d.ps.n:Int))&&decide (d.ps.n<=d.ps.n)) (.need (decide ((Qj d.wide d.high (c:Int) (2:Int)).toNat<d.ps.n)) (.need (true) (.br ((KE d.pK (d.ps.get c).down (d.ps.get (Qj d.wide d.high (c:Int) (2:Int)).toNat).up).1 != 2) (.leaf (.tup (qG c)) ([])) (.need (decide (d.ps.n<=d.ps.n)&&(true&&(true&&true))&&decide (((1:Int)<=d.wide/\d.wide<=100)/\((1:Int)<=d.high/\d.high<=100)/\(0:Int)<=(c:Int)/\(c:Int)<=100)) (.br (Qj d.wide d.high (c:Int) (3:Int) == -1) (.br ((d.ps.get c).left.kind != 0) (.leaf (.tup (XB c)) ([])) (.leaf (.tup (Vw c d)) ((Vh d)))) (.need (decide ((0:Int)<=Qj d.wide d.high (c:Int) (3:Int)/\Qj d.wide d.high (c:Int) (3:Int)<(d.ps.n:Int))&&decide (d.ps.n<=d.ps.n)) (.need (decide ((Qj d.wide d.high (c:Int) (3:Int)).toNat<d.ps.n)) (.need (true) (.br ((KE d.pK (d.ps.get c).left (d.ps.get (Qj d.wide d.high (c:Int) (3:Int)).toNat).right).1 != 2) (.leaf (.tup (XB c)) ([])) (.leaf (.tup (Vw c d)) ((Vh d))))))))))))))))))))))))))))) (.leaf (.tup [.ptr 0 0 0,.ptr 62 0 0]) ([])):=by kernel_rfl
def vq(c s:Nat):JSt:=⟨62,[(2,.int false .i64 c),(3,.int false .i64 s),(4,.int false .i64 0)],[],96⟩
def QGl:JSt:=⟨62,[],[],96⟩
theorem QZM(c c' s':Nat):QI 8 [vi (↑c:Int),vj (0:Int),vj (0:Int)] ([]) (vq c' s')=( some [(↑c:Int)=(↑c':Int),(0:Int)=(↑s':Int),(0:Int)=(0:Int)]):=by kernel_rfl
theorem QWm(c c' s':Nat):QI 8 [vi (↑c:Int),vj (1:Int),vj (0:Int)] ([]) (vq c' s')=( some [(↑c:Int)=(↑c':Int),(1:Int)=(↑s':Int),(0:Int)=(0:Int)]):=by kernel_rfl
theorem QZL(c c' s':Nat):QI 8 [vi (↑c:Int),vj (2:Int),vj (0:Int)] ([]) (vq c' s')=( some [(↑c:Int)=(↑c':Int),(2:Int)=(↑s':Int),(0:Int)=(0:Int)]):=by kernel_rfl
theorem QbI(c c' s':Nat):QI 8 [vi (↑c:Int),vj (3:Int),vj (0:Int)] ([]) (vq c' s')=( some [(↑c:Int)=(↑c':Int),(3:Int)=(↑s':Int),(0:Int)=(0:Int)]):=by kernel_rfl
theorem Qav(c c':Nat):QI 8 [.ptr 8 0 0,.slz 0 0 d.ps.n cO,vi (d.ps.n:Int),vi (i64.wrap ((c:Int)+1))] ((Vh d)) (QBh d c')=(some [0=0,0=0,0=0,d.ps.n=d.ps.n,cO=cO,(d.ps.n:Int)=(d.ps.n:Int),i64.wrap ((c:Int)+1)=(c':Int),d.pK.length=d.pK.length,d.pK.aK=d.pK.aK,d.pK.oK=d.pK.oK,d.pK.dK.lo=d.pK.dK.lo,d.pK.dK.hi=d.pK.dK.hi,d.wide=d.wide,d.high=d.high,d.turn=d.turn,0=0,d.ps.n=d.ps.n,cO=cO,d.ps.n<=d.ps.n,QC 28 d.ps.n (λi=>QA.enc (d.ps.get i)) λi=>QA.enc (d.ps.get i)]):=by kernel_rfl
theorem QeK :QI 8 [] ([]) QGl=( some []):=by kernel_rfl
end Go.Proofs.YtbpffdkemeoajaaGreat
namespace Go.SX
open Go Go.RowKit Go.Proofs.YtbpffdkemeoajaaGreat
variable {Q:AV->List (Nat×Blk)->Prop}
theorem QBU{A b1 b2 b3 n1 n2 x:Bool}{L K:QE}(hA:A=true)(hn:b1=false->n1=true/\n2=true)(hx:x=cond b1 b2 b3)(hr:x=true->L.den Q)(hk:x=false->K.den Q):
  (QE.need A (.br b1 (.br b2 L K) (.need n1 (.need n2 (.need true (.br b3 L K)))))).den Q:=by
 refine QF hA (QH (λh1=>?_) (λh1=>?_))
 .rw[h1]at hx;exact QH (λh=>hr (by rw[hx,h];rfl)) (λh=>hk (by rw[hx,h];rfl))
 .rw[h1]at hx;exact QF (hn h1).1 (QF (hn h1).2 (QF rfl (QH (λh=>hr (by rw[hx,h];rfl)) (λh=>hk (by rw[hx,h];rfl)))))
end Go.SX
namespace Go.Proofs.YtbpffdkemeoajaaGreat
open Go.SX
def ZN(x:QQ):Nat->Edge
 | 0=>x.up
 | 1=>x.right
 | 2=>x.down
 | _=>x.left
variable (d:Puz)(c:Nat)
def WC(c s:Nat):Bool:=cond (Qj d.wide d.high c s == -1) ((ZN (d.ps.get c) s).kind != 0) ((KE d.pK (ZN (d.ps.get c) s) (ZN (d.ps.get (Qj d.wide d.high c s).toNat) ((s+2) % 4))).1 != 2)
def YT(i:Nat):Bool:=WC d (i / 4) (i % 4)
structure jM (d:Puz):Prop where
 n9:d.ps.n<=9
 w1:1<=d.wide
 wn:d.wide<=d.ps.n
 h1:1<=d.high
 hn:d.high<=d.ps.n
 wh:d.wide*d.high=d.ps.n
theorem QJH{d:Puz}(h:d.ok=true):jM d:=by
 simp only[Puz.ok,Puz.okN,Qe,qbA,qdE,beq_iff_eq]at h;obtain⟨⟨⟨a1,a2⟩,⟨b1,b2⟩,⟨c1,c2⟩,e⟩,_⟩:=h;have hw:d.wide<=9:=by omega
 have hh:d.high<=9:=by omega
 have hm:d.wide*d.high<=9*9:=Int.mul_le_mul hw hh (by omega) (by omega)
 have hm0:0<=d.wide*d.high:=Int.mul_nonneg (by omega) (by omega)
 rw[w64 (by omega) (by omega)]at e
 exact⟨by omega,b1,b2,c1,c2,e⟩
theorem QXO{d:Puz}(h:jM d){c s:Nat}(hc:c<d.ps.n)(hb:(Qj d.wide d.high c s == -1)=false):0<=Qj d.wide d.high c s/\Qj d.wide d.high c s<d.ps.n:=by
 have w1:=h.w1;have m0:0<=(c:Int).tmod d.wide:=Int.tmod_nonneg _ (by omega)
 have m1:(c:Int).tmod d.wide<d.wide:=Int.tmod_lt_of_pos _ (by omega)
 have q0:0<=(c:Int).tdiv d.wide:=Int.tdiv_nonneg (by omega) (by omega)
 have e:=Int.tmod_def (c:Int) d.wide;have wh:=h.wh;simp only[Qj]at hb ⊢;generalize (c:Int).tdiv d.wide=q at *;generalize (c:Int).tmod d.wide=m at *
 have hq:q<d.high:=by
  rcases Int.lt_or_le q d.high with g|g
  .exact g
  .have:=Int.mul_le_mul_of_nonneg_left g (show 0<=d.wide by omega)
   omega
 have p0:0<=d.wide*q:=Int.mul_nonneg (by omega) q0
 have a1:d.wide*(q+1)<=d.wide*d.high:=Int.mul_le_mul_of_nonneg_left (by omega) (by omega)
 have e1:d.wide*(q+1)=d.wide*q+d.wide:=by rw[Int.mul_add,Int.mul_one]
 cases x0:((s:Int)==0&&decide (0<q))with
 | true=>
  simp only[cond_true];simp only[qbA,qdE]at x0;have:=Int.mul_le_mul_of_nonneg_left (show 1<=q by omega) (show 0<=d.wide by omega)
  omega
 | false=>
  simp only[x0,cond_false]at hb ⊢;cases x1:((s:Int)==1&&decide (m<d.wide-1))with
  | true=>
   simp only[cond_true];simp only[qbA,qdE]at x1;omega
  | false=>
   simp only[x1,cond_false]at hb ⊢;cases x2:((s:Int)==2&&decide (q<d.high-1))with
   | true=>
    simp only[cond_true];simp only[qbA,qdE]at x2;have a2:d.wide*(q+2)<=d.wide*d.high:=Int.mul_le_mul_of_nonneg_left (by omega) (by omega)
    have e2:d.wide*(q+2)=d.wide*q+d.wide*2:=by rw[Int.mul_add]
    omega
   | false=>
    simp only[x2,cond_false]at hb ⊢;cases x3:((s:Int)==3&&decide (0<m))with
    | true=>
     simp only[cond_true];simp only[qbA,qdE]at x3;omega
    | false=>
     simp only[x3,cond_false]at hb;exact absurd hb (by decide)
def QKn(e:Ex)(J:JSt):Prop:=(∃ i,e = .ret/\QN (YT d) (4*(d.ps.n-c)) (4*c)=some i/\J=vq (i / 4) (i % 4))∨(e = .exit 0/\QN (YT d) (4*(d.ps.n-c)) (4*c)=none/\J=QGl)
theorem QWt(hd:jM d):Kk (QBh d) (λc=>c<=d.ps.n) (λc=>d.ps.n-c) (QKn d) 8 QPQ [] (mkE prog Y6) (λ_=>hnd (mkE prog Y6) 6) (QT f28 0):=by
 refine⟨λc g hk=>⟨QAz (Qfe d c g) ?_⟩⟩;have n9:=hd.n9;refine QH ?_ ?_<;>intro h
 .have h:c<d.ps.n:=by have:=qdt h;omega
  have hw:=hd.w1;have hwn:=hd.wn;have hh:=hd.h1;have hhn:=hd.hn
  have hA:(decide (d.ps.n<=d.ps.n)&&(true&&(true&&true))&&decide (((1:Int)<=d.wide/\d.wide<=(100:Int))/\((1:Int)<=d.high/\d.high<=(100:Int))/\(0:Int)<=(c:Int)/\(c:Int)<=(100:Int)))=true:=by
   simp only[qlr,decide_true,Bool.true_and,qdE];omega
  have hn:∀ s:Nat,(Qj d.wide d.high c s == -1)=false->(decide (0<=Qj d.wide d.high c s/\Qj d.wide d.high c s<(d.ps.n:Int))&&decide (d.ps.n<=d.ps.n))=true/\decide ((Qj d.wide d.high c s).toNat<d.ps.n)=true:=λs hb=>by
   have:=QXO hd h hb;simp only[qlr,decide_true,Bool.and_true,qdE];omega
  obtain⟨m,hm⟩:∃ m,4*(d.ps.n-c)=m+1+1+1+1:=⟨4*(d.ps.n-c)-4,by omega⟩
  have hm':4*(d.ps.n-(c+1))=m:=by omega
  have q0:YT d (4*c)=WC d c 0:=by unfold YT;rw[show 4*c / 4=c by omega,show 4*c % 4=0 by omega]
  have q1:YT d (4*c+1)=WC d c 1:=by unfold YT;rw[show(4*c+1) / 4=c by omega,show(4*c+1) % 4=1 by omega]
  have q2:YT d (4*c+1+1)=WC d c 2:=by unfold YT;rw[show(4*c+1+1) / 4=c by omega,show(4*c+1+1) % 4=2 by omega]
  have q3:YT d (4*c+1+1+1)=WC d c 3:=by unfold YT;rw[show(4*c+1+1+1) / 4=c by omega,show(4*c+1+1+1) % 4=3 by omega]
  refine QF (by simp;omega) (QF (by simp;omega) ?_)
  refine QBU (x:=WC d c 0) hA (hn 0) rfl (λb0=>?_) (λb0=>?_)
  .refine⟨_,.inl ⟨4*c,rfl,by rw[hm,QN,q0,b0],rfl⟩,rfl,rfl,_,QZM c _ _,?_⟩
   exact⟨by omega,by omega,rfl,trivial⟩
  refine QBU (x:=WC d c 1) hA (hn 1) rfl (λb1=>?_) (λb1=>?_)
  .refine⟨_,.inl ⟨4*c+1,rfl,by rw[hm,QN,q0,b0,QN,q1,b1],rfl⟩,rfl,rfl,_,QWm c _ _,?_⟩
   exact⟨by omega,by omega,rfl,trivial⟩
  refine QBU (x:=WC d c 2) hA (hn 2) rfl (λb2=>?_) (λb2=>?_)
  .refine⟨_,.inl ⟨4*c+1+1,rfl,by rw[hm,QN,q0,b0,QN,q1,b1,QN,q2,b2],rfl⟩,rfl,rfl,_,QZL c _ _,?_⟩
   exact⟨by omega,by omega,rfl,trivial⟩
  refine QBU (x:=WC d c 3) hA (hn 3) rfl (λb3=>?_) (λb3=>?_)
  .refine⟨_,.inl ⟨4*c+1+1+1,rfl,by rw[hm,QN,q0,b0,QN,q1,b1,QN,q2,b2,QN,q3,b3],rfl⟩,rfl,rfl,_,QbI c _ _,?_⟩
   exact⟨by omega,by omega,rfl,trivial⟩
  have hf:QN (YT d) (4*(d.ps.n-c)) (4*c)=QN (YT d) (4*(d.ps.n-(c+1))) (4*(c+1)):=by
   rw[hm,hm',QN,q0,b0,QN,q1,b1,QN,q2,b2,QN,q3,b3,show 4*(c+1)=4*c+1+1+1+1 by omega]
  refine⟨c+1,h,by show d.ps.n-(c+1)<d.ps.n-c;omega,λe J h=>by unfold QKn at h ⊢;rw[hf];exact h,rfl,rfl,_,Qav d c (c+1),?_⟩
  have hw:i64.wrap ((c:Int)+1)=((c+1:Nat):Int):=(w64 (by omega) (by omega)).trans (by omega)
  repeat' first|exact tv|exact hw|exact qRr|refine aI ?_ ?_
 .have h:d.ps.n<=c:=by have:=qdf h;omega
  exact⟨_,.inr ⟨rfl,by rw[show 4*(d.ps.n-c)=0 by omega];rfl,rfl⟩,rfl,rfl,_,QeK,trivial⟩
end Go.Proofs.YtbpffdkemeoajaaGreat
namespace Go.SX
open Go Go.RowKit Go.Proofs.YtbpffdkemeoajaaGreat
def Jp(p:Prop)(L:St->(Ex->St->QE)->QE)(st:St)(K:Ex->St->QE):QE := .ask p (L st K)
theorem Vv{E:Env}{G:Ctx}{c:Code}{p:Prop}{L:St->(Ex->St->QE)->QE}(h:p->Vf E G c L):Vf E G c (Jp p L):=by
 intro st K T Q a w hn hd hr hQ;obtain⟨h1,h2⟩:=(show p/\(L st K).den T from hd);exact h h1 st K T Q a w hn h2 hr hQ
end Go.SX
namespace Go.Proofs.YtbpffdkemeoajaaGreat
open Go.SX
variable (d:Puz)
def jr:Option Nat:=QN (YT d) (4*d.ps.n) 0
def vh:Nat:=(jr d).getD 0
def QcI:List (Prop×Ex×JSt):=[((jr d).isSome=true,.ret,vq (vh d / 4) (vh d % 4)),(jr d=none,.exit 0,QGl)]
abbrev QBw(P:Program)(d:Puz):Hnd:={ hnd (mkE P Y6) 1 with loop:=λ_=>Jp (jM d) (Q4 8 [] (QBh d 0) (QcI d)) }
theorem QeW(G:Ctx)(hrd:G.rd=none)(hG:G.n=8):Q8 (mkE prog Y6) G (QBw prog d) (Qi f28):=by
 refine Kg (body:=QT f28 0) (QL Gr) hrd (by kernel_rfl) ?_
 refine Vv λhd=>?_;refine Kr (n0:=8) (QL Gr) (by omega) (λs hs=>Qw (QL Gr) 6 G _ hrd) (λs hs=>(by decide:8<=96)) ?_ (QWt d hd) (s0:=0) (Nat.zero_le _) ?_
 .rintro s e J (⟨_,_,_,rfl⟩|⟨_,_,rfl⟩)<;>exact(by decide:8<=96)
 .rintro e J (⟨i,rfl,h,rfl⟩|⟨rfl,h,rfl⟩)
  .have h:jr d=some i:=h;refine⟨_,qmc,by simp only[h];rfl,rfl,?_⟩
   simp only[vh,h];rfl
  .exact⟨_,List.mem_cons_of_mem _ qmc,h,rfl,rfl⟩
def GO:Int×Int×Int:=match d.ok with
 | false=>(0,0,1)
 | true=>(match jr d with
  | some i=>(((i / 4:Nat):Int),((i % 4:Nat):Int),0)
  | none=>(0,0,4))
def qb:WF (Puz×Unit):=λ|(d,_)=>(decide (d.ps.n<=1000),.tup [.int false .i64 (GO d).1,.int false .i64 (GO d).2.1,.int false .i64 (GO d).2.2],[])
def QL0:FC:=wFC qb
theorem QWF :KI (mkE prog Y6) (QBw prog d) f28 (QW.vals 0 ((d,()):Puz×Unit)) (QW.blks 0 ((d,()):Puz×Unit)) 8 = .need (decide (d.ps.n<=d.ps.n)&&true&&decide (d.ps.n<=1000)) (.br (!d.ok) (.leaf (.tup [vj 0,vj 0,vj 1]) ([])) (.ak [jM d,0=0,0=0,0=0,d.ps.n=d.ps.n,cO=cO,(d.ps.n:Int)=(d.ps.n:Int),(0:Int)=0,d.pK.length=d.pK.length,d.pK.aK=d.pK.aK,d.pK.oK=d.pK.oK,d.pK.dK.lo=d.pK.dK.lo,d.pK.dK.hi=d.pK.dK.hi,d.wide=d.wide,d.high=d.high,d.turn=d.turn,0=0,d.ps.n=d.ps.n,cO=cO,d.ps.n<=d.ps.n,QC 28 d.ps.n (λi=>QA.enc (d.ps.get i)) λi=>QA.enc (d.ps.get i)] (.both (.asm ((jr d).isSome=true) (.all (λ(g0:Nat->Value)=>.leaf (.tup [vi (↑(vh d / 4):Int),vi (↑(vh d % 4):Int),vi 0]) ([])))) (.asm (jr d=none) (.all (λ(g1:Nat->Value)=>.leaf (.tup [vj 0,vj 0,vj 4]) ([]))))))):=by kernel_rfl
theorem QgB:JG (mkE prog Y6) (Qi f28) 8 qb (λx_=>(QBw prog x_.1)):=by
 refine⟨?_⟩;rintro⟨d,⟨⟩⟩ hp G h1 h2;exact QeW d G h1 h2
theorem Qaq:JF (mkE prog Y6) f28 8 qb (λx_=>(QBw prog x_.1)):=by
 refine⟨?_⟩;rintro⟨d,⟨⟩⟩ hp;refine⟨⟨rfl,by simp[qb],rfl⟩,⟨?_⟩⟩
 rw[QWF d];simp only[qb]at hp;refine QF (by simpa using hp) (QH (λh=>KT ?_ rfl) (λh=>?_))
 .have h:d.ok=false:=by simpa using h
  simp only[qb,GO,h];exact⟨⟨rfl,rfl⟩,⟨rfl,rfl⟩,⟨rfl,rfl⟩,trivial⟩
 .have h:d.ok=true:=by simpa using h
  refine QX (QJH h) ?_
  repeat' first|refine QX (show _=_ by with_reducible rfl) ?_|refine QX (show _<=_ from qlr _) ?_|refine QX (show QC _ _ _ _ from qRr) ?_
  refine Vx (KB λho=>Q7 λg=>?_) (KB λho=>Q7 λg=>?_)
  .obtain⟨i,hi⟩:=Option.isSome_iff_exists.1 ho;exact KT (by simp only[qb,GO,vh,h,hi];exact⟨⟨rfl,rfl⟩,⟨rfl,rfl⟩,⟨rfl,rfl⟩,trivial⟩) rfl
  .exact KT (by simp only[qb,GO,h,ho];exact⟨⟨rfl,rfl⟩,⟨rfl,rfl⟩,⟨rfl,rfl⟩,trivial⟩) rfl
theorem QZV:QO prog 28 QL0:=
 JI (QL Gr) func28 (by kernel_rfl) (by kernel_rfl) (by decide) QgB Qaq
def QC9:Tab:=Qh Y6 28 QL0
theorem QN6:QZ QC9:=Gr.add QZV
structure Fl where
instance : Enc Fl where
  enc _ := .agg []
  dec | .agg [] => some ⟨⟩ | _ => none
  ok v x h := by
    split at h <;> (try (cases h; done))
    exact⟨λ_=>rfl,rfl⟩
def QRF:Fl×Edge×Unit->Bool×AV:=λ|(b,(s,_))=>(true,.bool false (s.kind==0))
def QLF:FC:=KM (KN QRF)
theorem QTE(b:Fl)(s:Edge):KJ (mkE prog QC9) (hnd (mkE prog QC9) 2) false f181 (Q3.enc ((b,s,()):Fl×Edge×Unit)) [] 0=QE.leaf (AV.bool false (s.kind==(0:Int))) ([]):=by kernel_rfl
theorem QVY:QO prog 181 QLF:=by
 refine KZ QN6 2 func181 (by kernel_rfl) (by kernel_rfl) ?_
 rintro⟨b,s,⟨⟩⟩ hp;rw[QTE b s];simp only[QRF,QE.den,AV.same,AV.sameL,and_true,true_and]at hp ⊢
def QCL:Tab:=Qh QC9 181 QLF
theorem QH9:QZ QCL:=QN6.add QVY
def QIK:Edge×Unit->Bool×AV:=λ|(s,_)=>(true,.alt (s.kind==0) (.ifc 215 (.agg [])) (.ifc 216 (Enc.enc s)))
def QRa:FC:=KM (KN QIK)
theorem QZ9(s:Edge):KJ (mkE prog QCL) (hnd (mkE prog QCL) 2) false f107 (Q3.enc ((s,()):Edge×Unit)) [] 0=QE.br (s.kind==(0:Int)) (QE.leaf (AV.ifc (215:Nat) (AV.agg [])) ([])) (QE.leaf (AV.ifc (216:Nat) (AV.agg [vi s.kind,vi s.at_.lo,vi s.at_.hi,vi s.wide.lo,vi s.wide.hi,vi s.deep.lo,vi s.deep.hi])) ([])):=by kernel_rfl
theorem QZY:QO prog 107 QRa:=by
 refine QeA (c:=Qi f107) (QL QH9) func107 (by kernel_rfl) (by kernel_rfl) (λG _ hG=>Qw (QL QH9) 2 G _ hG) ?_
 rintro⟨s,⟨⟩⟩ _;refine QAz (QZ9 s) ?_;refine⟨λh r r'=>?_,λh r r'=>?_⟩
 .simp only[QIK,h];rfl
 .simp only[QIK,h];rfl
def JH:Tab:=Qh QCL 107 QRa
theorem jT:QZ JH:=QH9.add QZY
end Go.Proofs.YtbpffdkemeoajaaGreat
namespace Go.SX
open Go Go.RowKit Go.Proofs.YtbpffdkemeoajaaGreat
def Kl(c:Code):Code:=match JB c with
 | .loop b::_=>b
 | _ => .skip
end Go.SX
namespace Go.Proofs.YtbpffdkemeoajaaGreat
open Go.SX
structure QB where
 cell:Int
 turn:Int
instance : QA QB where
  ks := [.int .i64,.int .i64]
  enc p j := match j with
    | 0 => p.cell
    | _ => p.turn
  dec f := ⟨f 0,f 1⟩
  ok _ := rfl
variable (d:Puz)(s:QQ)(c:Nat)
def qy(o:List QB)(c:Nat):JSt:=⟨49,[(3,.ptr 16 0 0),(4,.slz 24 0 o.length (.of 0)),(11,.slz 0 0 d.ps.n (.of 0)),(12,.int false .i64 d.ps.n),(13,.int false .i64 c)],[(16,.cells 7 69 (Enc.enc s).cells),KF 80 24 o ⟨0,0⟩]++KD.blk 0 d.ps,32⟩
def Vi(o:List QB)(c t:Nat):JSt:=⟨49,[(3,.ptr 16 0 0),(4,.slz 24 0 o.length (.of 0)),(5,.int false .i64 c),(6,.ptr 32 0 0),(11,.slz 0 0 d.ps.n (.of 0)),(12,.int false .i64 d.ps.n),(13,.int false .i64 c),(18,.int true .i64 t)],[(16,.cells 7 69 (Enc.enc s).cells),KF 80 24 o ⟨0,0⟩,(32,.cells 7 69 (Enc.enc (d.ps.get c)).cells)]++KD.blk 0 d.ps,40⟩
def zp:Ex->List Nat
 | .normal=>[3,4,5,6,11,12,13,18]
 | .exit _=>[3,4,11,12,13]
 | .ret=>[]
noncomputable abbrev QBN(d:Puz)(o:List QB):List AV:=
  [.nilp,.ptr 49 0 0,.ptr 16 0 0,.slz 24 0 o.length cO,vi (c:Int),.ptr 32 0 0,.slz 0 0 d.ps.n cO,vi (d.ps.n:Int),.int false .i64
  (c:Int),vj 1]
noncomputable abbrev ZS:Nat×Blk:=
  (16,.cells 7 69 ((Enc.enc (s:QQ)).cells))
noncomputable abbrev QIs(o:List QB):Nat×Blk:=
  (24,.rowz true 80 kB o.length λi=>QA.enc (o.getD i ⟨0,0⟩))
noncomputable abbrev WD(d:Puz):Nat×Blk:=
  (32,.cells 7 69 ((Enc.enc ((d.ps.get c):QQ)).cells))
noncomputable abbrev ZI:Nat×Blk:=
  (0,.frz [.int .i64,.int .i64,.int .i64,.int .i64,.int .i64,.int .i64,.int .i64,.int .i64,.int .i64,.int .i64,.int .i64,.int .i64,.int .i64,.int .i64,.int .i64,.int
  .i64,.int .i64,.int .i64,.int .i64,.int .i64,.int .i64,.int .i64,.int .i64,.int .i64,.int .i64,.int .i64,.int .i64,.int .i64] d.ps.n λi=>QA.enc (d.ps.get i))
noncomputable abbrev J8(d:Puz)(o:List QB)(s:QQ):List (Nat×Blk):=
  [(ZS s),(QIs o),(WD c d),(ZI d)]
noncomputable abbrev QJX(o:List QB):Nat×Blk:=
  (776,.rowz true 80 kB (o.length+1) (Qa o.length (λi=>QA.enc (o.getD i ⟨0,0⟩)) (QU [[vi (c:Int),vj 0]] 0)))
theorem QUC(o:List QB)(c:Nat)(g:Nat->Value):exec (mkE prog JH) (hnd (mkE prog JH) 6) (Kl (QT f71 0)) (JSt.inst (Vi d s o c 0) g) (KG [] zp) = .need (true) (.need (bif s.up.kind==0 then true else true) (.br (!bif s.up.kind==0 then (d.ps.get c).up.kind==0 else isF s.up (d.ps.get c).up) (.leaf (.tup (QBN c d o)) ((J8 c d o s))) (.need (true) (.need (bif s.right.kind==0 then true else true) (.br (!bif s.right.kind==0 then (d.ps.get c).right.kind==0 else isF s.right (d.ps.get c).right) (.leaf (.tup (QBN c d o)) ((J8 c d o s))) (.need (true) (.need (bif s.down.kind==0 then true else true) (.br (!bif s.down.kind==0 then (d.ps.get c).down.kind==0 else isF s.down (d.ps.get c).down) (.leaf (.tup (QBN c d o)) ((J8 c d o s))) (.need (true) (.need (bif s.left.kind==0 then true else true) (.br (!bif s.left.kind==0 then (d.ps.get c).left.kind==0 else isF s.left (d.ps.get c).left) (.leaf (.tup (QBN c d o)) ((J8 c d o s))) (.need (decide (o.length<=o.length)&&(true&&decide ((o.length+1+(o.length+1) / 4+192)*16<=281474976710656/\o.length+1<=9223372036854775807))) (.leaf (.tup [.nilp,.ptr 49 0 0,.ptr 16 0 0,.slz 776 0 (o.length+1) cO,vi (c:Int),.ptr 32 0 0, .slz 0 0 d.ps.n cO,vi (d.ps.n:Int),vi (c:Int),vj 1]) ([(ZS s),(QJX c o),(WD c d),(ZI d)])))))))))))))):=by kernel_rfl
noncomputable abbrev QBb(d:Puz)(o:List QB):List AV:=
  [.nilp,.ptr 49 0 0,.ptr 16 0 0,.slz 24 0 o.length cO,vi (c:Int),.ptr 32 0 0,.slz 0 0 d.ps.n cO,vi (d.ps.n:Int),.int false .i64
  (c:Int),vj 2]
noncomputable abbrev QMo(o:List QB):Nat×Blk:=
  (776,.rowz true 80 kB (o.length+1) (Qa o.length (λi=>QA.enc (o.getD i ⟨0,0⟩)) (QU [[vi (c:Int),vj 1]] 0)))
theorem QZB(o:List QB)(c:Nat)(g:Nat->Value):exec (mkE prog JH) (hnd (mkE prog JH) 6) (Kl (QT f71 0)) (JSt.inst (Vi d s o c 1) g) (KG [] zp) = .need (true) (.need (bif s.left.kind==0 then true else true) (.br (!bif s.left.kind==0 then (d.ps.get c).up.kind==0 else isF s.left (d.ps.get c).up) (.leaf (.tup (QBb c d o)) ((J8 c d o s))) (.need (true) (.need (bif s.up.kind==0 then true else true) (.br (!bif s.up.kind==0 then (d.ps.get c).right.kind==0 else isF s.up (d.ps.get c).right) (.leaf (.tup (QBb c d o)) ((J8 c d o s))) (.need (true) (.need (bif s.right.kind==0 then true else true) (.br (!bif s.right.kind==0 then (d.ps.get c).down.kind==0 else isF s.right (d.ps.get c).down) (.leaf (.tup (QBb c d o)) ((J8 c d o s))) (.need (true) (.need (bif s.down.kind==0 then true else true) (.br (!bif s.down.kind==0 then (d.ps.get c).left.kind==0 else isF s.down (d.ps.get c).left) (.leaf (.tup (QBb c d o)) ((J8 c d o s))) (.need (decide (o.length<=o.length)&&(true&&decide ((o.length+1+(o.length+1) / 4+192)*16<=281474976710656/\o.length+1<=9223372036854775807))) (.leaf (.tup [.nilp,.ptr 49 0 0,.ptr 16 0 0,.slz 776 0 (o.length+1) cO,vi (c:Int),.ptr 32 0 0,.slz 0 0 d.ps.n cO,vi (d.ps.n:Int),vi (c:Int),vj 2]) ([(ZS s),(QMo c o),(WD c d),(ZI d)])))))))))))))):=by kernel_rfl
noncomputable abbrev QB4(d:Puz)(o:List QB):List AV:=
  [.nilp,.ptr 49 0 0,.ptr 16 0 0,.slz 24 0 o.length cO,vi (c:Int),.ptr 32 0 0,.slz 0 0 d.ps.n cO,vi (d.ps.n:Int),.int false .i64
  (c:Int),vj 3]
noncomputable abbrev QLP(o:List QB):Nat×Blk:=
  (776,.rowz true 80 kB (o.length+1) (Qa o.length (λi=>QA.enc (o.getD i ⟨0,0⟩)) (QU [[vi (c:Int),vj 2]] 0)))
theorem Qe8(o:List QB)(c:Nat)(g:Nat->Value):exec (mkE prog JH) (hnd (mkE prog JH) 6) (Kl (QT f71 0)) (JSt.inst (Vi d s o c 2) g) (KG [] zp) = .need (true) (.need (bif s.down.kind==0 then true else true) (.br (!bif s.down.kind==0 then (d.ps.get c).up.kind==0 else isF s.down (d.ps.get c).up) (.leaf (.tup (QB4 c d o)) ((J8 c d o s))) (.need (true) (.need (bif s.left.kind==0 then true else true) (.br (!bif s.left.kind==0 then (d.ps.get c).right.kind==0 else isF s.left (d.ps.get c).right) (.leaf (.tup (QB4 c d o)) ((J8 c d o s))) (.need (true) (.need (bif s.up.kind==0 then true else true) (.br (!bif s.up.kind==0 then (d.ps.get c).down.kind==0 else isF s.up (d.ps.get c).down) (.leaf (.tup (QB4 c d o)) ((J8 c d o s))) (.need (true) (.need (bif s.right.kind==0 then true else true) (.br (!bif s.right.kind==0 then (d.ps.get c).left.kind==0 else isF s.right (d.ps.get c).left) (.leaf (.tup (QB4 c d o)) ((J8 c d o s))) (.need (decide (o.length<=o.length)&&(true&&decide ((o.length+1+(o.length+1) / 4+192)*16<=281474976710656/\o.length+1<=9223372036854775807))) (.leaf (.tup [.nilp,.ptr 49 0 0,.ptr 16 0 0,.slz 776 0 (o.length+1) cO,vi (c:Int),.ptr 32 0 0,.slz 0 0 d.ps.n cO,vi (d.ps.n:Int),vi (c:Int),vj 3]) ([(ZS s),(QLP c o),(WD c d),(ZI d)])))))))))))))):=by kernel_rfl
noncomputable abbrev QD7(d:Puz)(o:List QB):List AV:=
  [.nilp,.ptr 49 0 0,.ptr 16 0 0,.slz 24 0 o.length cO,vi (c:Int),.ptr 32 0 0,.slz 0 0 d.ps.n cO,vi (d.ps.n:Int),.int false .i64
  (c:Int),vj 4]
noncomputable abbrev QPF(o:List QB):Nat×Blk:=
  (776,.rowz true 80 kB (o.length+1) (Qa o.length (λi=>QA.enc (o.getD i ⟨0,0⟩)) (QU [[vi (c:Int),vj 3]] 0)))
theorem QfE(o:List QB)(c:Nat)(g:Nat->Value):exec (mkE prog JH) (hnd (mkE prog JH) 6) (Kl (QT f71 0)) (JSt.inst (Vi d s o c 3) g) (KG [] zp) = .need (true) (.need (bif s.right.kind==0 then true else true) (.br (!bif s.right.kind==0 then (d.ps.get c).up.kind==0 else isF s.right (d.ps.get c).up) (.leaf (.tup (QD7 c d o)) ((J8 c d o s))) (.need (true) (.need (bif s.down.kind==0 then true else true) (.br (!bif s.down.kind==0 then (d.ps.get c).right.kind==0 else isF s.down (d.ps.get c).right) (.leaf (.tup (QD7 c d o)) ((J8 c d o s))) (.need (true) (.need (bif s.left.kind==0 then true else true) (.br (!bif s.left.kind==0 then (d.ps.get c).down.kind==0 else isF s.left (d.ps.get c).down) (.leaf (.tup (QD7 c d o)) ((J8 c d o s))) (.need (true) (.need (bif s.up.kind==0 then true else true) (.br (!bif s.up.kind==0 then (d.ps.get c).left.kind==0 else isF s.up (d.ps.get c).left) (.leaf (.tup (QD7 c d o)) ((J8 c d o s))) (.need (decide (o.length<=o.length)&&(true&&decide ((o.length+1+(o.length+1) / 4+192)*16<=281474976710656/\o.length+1<=9223372036854775807))) (.leaf (.tup [.nilp,.ptr 49 0 0,.ptr 16 0 0,.slz 776 0 (o.length+1) cO,vi (c:Int),.ptr 32 0 0,.slz 0 0 d.ps.n cO,vi (d.ps.n:Int),vi (c:Int),vj 4]) ([(ZS s),(QPF c o),(WD c d),(ZI d)])))))))))))))):=by kernel_rfl
theorem QVr(o:List QB)(c:Nat)(g:Nat->Value):exec (mkE prog JH) (hnd (mkE prog JH) 6) (Kl (QT f71 0)) (JSt.inst (Vi d s o c 4) g) (KG [] zp) = .leaf (.tup [.ptr 2 0 0,.ptr 49 0 0,.ptr 16 0 0,.slz 24 0 o.length cO,.slz 0 0 d.ps.n cO,vi (d.ps.n:Int),vi (c:Int)]) ([(ZS s),(QIs o),(ZI d)]):=by kernel_rfl
def Hi(o:List QB)(c:Nat):JSt:=⟨49,[(3,.ptr 16 0 0),(4,.slz 24 0 o.length (.of 0)),(11,.slz 0 0 d.ps.n (.of 0)),(12,.int false .i64 d.ps.n),(13,.int false .i64 c)],[(16,.cells 7 69 (Enc.enc s).cells),KF 80 24 o ⟨0,0⟩]++KD.blk 0 d.ps,40⟩
abbrev Gw(o:List QB)(o':List QB):List Prop:=
  [0=0,0=0,0=0,o.length=o'.length]
abbrev Wy(d:Puz):List Prop:=
  [cO=cO,(c:Int)=(c:Int),0=0,0=0,0=0,d.ps.n=d.ps.n,cO=cO,(d.ps.n:Int)=(d.ps.n:Int)]
abbrev Wd:List Prop:=
  [s.up.kind=s.up.kind,s.up.at_.lo=s.up.at_.lo,s.up.at_.hi=s.up.at_.hi,s.up.wide.lo=s.up.wide.lo]
abbrev WU:List Prop:=
  [s.up.wide.hi=s.up.wide.hi,s.up.deep.lo=s.up.deep.lo,s.up.deep.hi=s.up.deep.hi,s.right.kind=s.right.kind,s.right.at_.lo=s.right.at_.lo,s.right.at_.hi =
  s.right.at_.hi,s.right.wide.lo=s.right.wide.lo,s.right.wide.hi=s.right.wide.hi,s.right.deep.lo=s.right.deep.lo,s.right.deep.hi=s.right.deep.hi,s.down.kind =
  s.down.kind,s.down.at_.lo=s.down.at_.lo,s.down.at_.hi=s.down.at_.hi,s.down.wide.lo=s.down.wide.lo,s.down.wide.hi=s.down.wide.hi,s.down.deep.lo=s.down.deep.lo,
  s.down.deep.hi=s.down.deep.hi,s.left.kind=s.left.kind,s.left.at_.lo=s.left.at_.lo,s.left.at_.hi=s.left.at_.hi,s.left.wide.lo=s.left.wide.lo,s.left.wide.hi =
  s.left.wide.hi,s.left.deep.lo=s.left.deep.lo,s.left.deep.hi=s.left.deep.hi]
abbrev Wp(d:Puz):List Prop:=
  [(d.ps.get c).up.kind=(d.ps.get c).up.kind,(d.ps.get c).up.at_.lo=(d.ps.get c).up.at_.lo,(d.ps.get c).up.at_.hi=(d.ps.get c).up.at_.hi,(d.ps.get c).up.wide.lo=(d.ps.get
  c).up.wide.lo,(d.ps.get c).up.wide.hi=(d.ps.get c).up.wide.hi,(d.ps.get c).up.deep.lo=(d.ps.get c).up.deep.lo,(d.ps.get c).up.deep.hi=(d.ps.get c).up.deep.hi,(d.ps.get
  c).right.kind=(d.ps.get c).right.kind,(d.ps.get c).right.at_.lo=(d.ps.get c).right.at_.lo,(d.ps.get c).right.at_.hi=(d.ps.get c).right.at_.hi,(d.ps.get c).right.wide.lo =
  (d.ps.get c).right.wide.lo,(d.ps.get c).right.wide.hi=(d.ps.get c).right.wide.hi,(d.ps.get c).right.deep.lo=(d.ps.get c).right.deep.lo,(d.ps.get c).right.deep.hi=(d.ps.get
  c).right.deep.hi,(d.ps.get c).down.kind=(d.ps.get c).down.kind,(d.ps.get c).down.at_.lo=(d.ps.get c).down.at_.lo,(d.ps.get c).down.at_.hi=(d.ps.get c).down.at_.hi,
  (d.ps.get c).down.wide.lo=(d.ps.get c).down.wide.lo,(d.ps.get c).down.wide.hi=(d.ps.get c).down.wide.hi,(d.ps.get c).down.deep.lo=(d.ps.get c).down.deep.lo,(d.ps.get
  c).down.deep.hi=(d.ps.get c).down.deep.hi,(d.ps.get c).left.kind=(d.ps.get c).left.kind,(d.ps.get c).left.at_.lo=(d.ps.get c).left.at_.lo,(d.ps.get c).left.at_.hi =
  (d.ps.get c).left.at_.hi,(d.ps.get c).left.wide.lo=(d.ps.get c).left.wide.lo,(d.ps.get c).left.wide.hi=(d.ps.get c).left.wide.hi,(d.ps.get c).left.deep.lo=(d.ps.get
  c).left.deep.lo,(d.ps.get c).left.deep.hi=(d.ps.get c).left.deep.hi,d.ps.n<=d.ps.n,QC 28 d.ps.n (λi=>QA.enc (d.ps.get i)) λi=>QA.enc (d.ps.get i)]
theorem QfO(o o':List QB)(c:Nat):QI 8 [.ptr 16 0 0,.slz 24 0 o.length cO,vi (c:Int),.ptr 32 0 0,.slz 0 0 d.ps.n cO,vi (d.ps.n:Int),vi (c:Int), vj 1] ((J8 c d o s)) (Vi d s o' c 1)=(some ((Gw o o')++(Wy c d)++[(c:Int)=(c:Int),(1:Int)=1]++(Wd s)++(WU s)++[o'.length<=o.length,QC 2 o'.length (λi=>QA.enc (o.getD i ⟨0,0⟩)) λi=>QA.enc (o'.getD i ⟨0,0⟩)]++(Wp c d))):=by kernel_rfl
abbrev QCG(o:List QB)(o':List QB):List Prop:=
  [0=0,0=0,0=0,o.length+1=o'.length]
theorem QS2(o o':List QB)(c:Nat):QI 8 [.ptr 16 0 0,.slz 776 0 (o.length+1) cO,vi (c:Int),.ptr 32 0 0,.slz 0 0 d.ps.n cO,vi (d.ps.n:Int),vi (c:Int),vj 1] ([(ZS s),(QJX c o),(WD c d),(ZI d)]) (Vi d s o' c 1)=(some ((QCG o o')++(Wy c d)++[(c:Int)=(c:Int),(1:Int)=1]++(Wd s) ++ (WU s)++[o'.length<=o.length+1,QC 2 o'.length (Qa o.length (λi=>QA.enc (o.getD i ⟨0,0⟩)) (QU [[vi (c:Int),vj 0]] 0)) λi=>QA.enc (o'.getD i ⟨0,0⟩)]++(Wp c d))):=by kernel_rfl
theorem Qa1(o o':List QB)(c:Nat):QI 8 [.ptr 16 0 0,.slz 24 0 o.length cO,vi (c:Int),.ptr 32 0 0,.slz 0 0 d.ps.n cO,vi (d.ps.n:Int),vi (c:Int), vj 2] ((J8 c d o s)) (Vi d s o' c 2)=(some ((Gw o o')++(Wy c d)++[(c:Int)=(c:Int),(2:Int)=2]++(Wd s)++(WU s)++[o'.length<=o.length,QC 2 o'.length (λi=>QA.enc (o.getD i ⟨0,0⟩)) λi=>QA.enc (o'.getD i ⟨0,0⟩)]++(Wp c d))):=by kernel_rfl
theorem QYr(o o':List QB)(c:Nat):QI 8 [.ptr 16 0 0,.slz 776 0 (o.length+1) cO,vi (c:Int),.ptr 32 0 0,.slz 0 0 d.ps.n cO,vi (d.ps.n:Int),vi (c:Int),vj 2] ([(ZS s),(QMo c o),(WD c d),(ZI d)]) (Vi d s o' c 2)=(some ((QCG o o')++(Wy c d)++[(c:Int)=(c:Int),(2:Int)=2]++(Wd s)++(WU s)++[o'.length<=o.length+1,QC 2 o'.length (Qa o.length (λi=>QA.enc (o.getD i ⟨0,0⟩)) (QU [[vi (c:Int),vj 1]] 0)) λi=>QA.enc (o'.getD i ⟨0,0⟩)]++(Wp c d))):=by kernel_rfl
theorem QYd(o o':List QB)(c:Nat):QI 8 [.ptr 16 0 0,.slz 24 0 o.length cO,vi (c:Int),.ptr 32 0 0,.slz 0 0 d.ps.n cO,vi (d.ps.n:Int),vi (c:Int), vj 3] ((J8 c d o s)) (Vi d s o' c 3)=(some ((Gw o o')++(Wy c d)++[(c:Int)=(c:Int),(3:Int)=3]++(Wd s)++(WU s)++[o'.length<=o.length,QC 2 o'.length (λi=>QA.enc (o.getD i ⟨0,0⟩)) λi=>QA.enc (o'.getD i ⟨0,0⟩)]++(Wp c d))):=by kernel_rfl
theorem QZr(o o':List QB)(c:Nat):QI 8 [.ptr 16 0 0,.slz 776 0 (o.length+1) cO,vi (c:Int),.ptr 32 0 0,.slz 0 0 d.ps.n cO,vi (d.ps.n:Int),vi (c:Int),vj 3] ([(ZS s),(QLP c o),(WD c d),(ZI d)]) (Vi d s o' c 3)=(some ((QCG o o')++(Wy c d)++[(c:Int)=(c:Int),(3:Int)=3]++(Wd s)++(WU s)++[o'.length<=o.length+1,QC 2 o'.length (Qa o.length (λi=>QA.enc (o.getD i ⟨0,0⟩)) (QU [[vi (c:Int),vj 2]] 0)) λi=>QA.enc (o'.getD i ⟨0,0⟩)]++(Wp c d))):=by kernel_rfl
theorem Qdm(o o':List QB)(c:Nat):QI 8 [.ptr 16 0 0,.slz 24 0 o.length cO,vi (c:Int),.ptr 32 0 0,.slz 0 0 d.ps.n cO,vi (d.ps.n:Int),vi (c:Int), vj 4] ((J8 c d o s)) (Vi d s o' c 4)=(some ((Gw o o')++(Wy c d)++[(c:Int)=(c:Int),(4:Int)=4]++(Wd s)++(WU s)++[o'.length<=o.length,QC 2 o'.length (λi=>QA.enc (o.getD i ⟨0,0⟩)) λi=>QA.enc (o'.getD i ⟨0,0⟩)]++(Wp c d))):=by kernel_rfl
theorem Qgh(o o':List QB)(c:Nat):QI 8 [.ptr 16 0 0,.slz 776 0 (o.length+1) cO,vi (c:Int),.ptr 32 0 0,.slz 0 0 d.ps.n cO,vi (d.ps.n:Int),vi (c:Int),vj 4] ([(ZS s),(QPF c o),(WD c d),(ZI d)]) (Vi d s o' c 4)=(some ((QCG o o')++(Wy c d)++[(c:Int)=(c:Int),(4:Int)=4]++(Wd s)++(WU s)++[o'.length<=o.length+1,QC 2 o'.length (Qa o.length (λi=>QA.enc (o.getD i ⟨0,0⟩)) (QU [[vi (c:Int),vj 3]] 0)) λi=>QA.enc (o'.getD i ⟨0,0⟩)]++(Wp c d))):=by kernel_rfl
theorem Qej(o o':List QB)(c:Nat):QI 8 [.ptr 16 0 0,.slz 24 0 o.length cO,.slz 0 0 d.ps.n cO,vi (d.ps.n:Int),vi (c:Int)] ([(ZS s),(QIs o),(ZI d)]) (Hi d s o' c)=(some ((Gw o o')++[cO=cO,0=0,d.ps.n=d.ps.n,cO=cO,(d.ps.n:Int)=(d.ps.n:Int),(c:Int)=(c:Int)]++(Wd s)++(WU s) ++ [o'.length<=o.length,QC 2 o'.length (λi=>QA.enc (o.getD i ⟨0,0⟩)) λi=>QA.enc (o'.getD i ⟨0,0⟩),d.ps.n<=d.ps.n,QC 28 d.ps.n (λi=>QA.enc (d.ps.get i)) λi=>QA.enc (d.ps.get i)])):=by kernel_rfl
end Go.Proofs.YtbpffdkemeoajaaGreat
namespace Go.SX
open Go Go.RowKit Go.Proofs.YtbpffdkemeoajaaGreat
variable {Q:AV->List (Nat×Blk)->Prop}
theorem QBV{q0 q1 q2 q3 m0 m1 m2 m3 n0 n1 n2 n3:Bool}{L0 L1 L2 L3 K:QE}(hm0:m0=true)(hm1:m1=true)(hm2:m2=true)(hm3:m3=true)(h0:n0=true)(h1:n1=true)(h2:n2=true)(h3:n3=true)(hno:(q0&&(q1&&(q2&&q3)))=false->L0.den Q/\L1.den Q/\L2.den Q/\L3.den Q)(hyes:(q0&&(q1&&(q2&&q3)))=true->K.den Q):
  (QE.need m0 (.need n0 (.br (!q0) L0 (.need m1 (.need n1 (.br (!q1) L1 (.need m2 (.need n2 (.br (!q2) L2 (.need m3 (.need n3 (.br (!q3) L3 K)))))))))))).den Q:=by
 subst hm0 hm1 hm2 hm3 h0 h1 h2 h3;refine QF rfl (QF rfl (QH (λh=>?_) (λh=>QF rfl (QF rfl (QH (λh'=>?_) (λh'=>QF rfl (QF rfl (QH (λh''=>?_) (λh''=>QF rfl (QF rfl (QH (λh'''=>?_) (λh'''=>?_))))))))))))
 .exact(hno (by cases q0<;>simp_all)).1
 .exact(hno (by cases q0<;>cases q1<;>simp_all)).2.1
 .exact(hno (by cases q0<;>cases q1<;>cases q2<;>simp_all)).2.2.1
 .exact(hno (by cases q0<;>cases q1<;>cases q2<;>cases q3<;>simp_all)).2.2.2
 .exact hyes (by cases q0<;>cases q1<;>cases q2<;>cases q3<;>simp_all)
theorem YA{t t':QE}(e:t=t')(h:t'.den Q):XU Q t:=⟨e ▸ h⟩
end Go.SX
namespace Go.Proofs.YtbpffdkemeoajaaGreat
open Go.SX
def isS(x y:Edge):Bool:=cond (x.kind==0) (y.kind==0) (isF x y)
variable (d:Puz)(s:QQ)
def K5(c t:Nat):Bool:=isS (ZN s ((0+4-t) % 4)) (ZN (d.ps.get c) 0)&&(isS (ZN s ((1+4-t) % 4)) (ZN (d.ps.get c) 1)&&(isS (ZN s ((2+4-t) % 4)) (ZN (d.ps.get c) 2)&&isS (ZN s ((3+4-t) % 4)) (ZN (d.ps.get c) 3)))
def J3(q:Bool)(l:List QB)(c t:Nat):List QB:=match q with
 | true=>l++[⟨c,t⟩]
 | false=>l
def Q0(d:Puz)(s:QQ)(l:List QB)(c:Nat):Nat->List QB
 | 0=>l
 | t+1=>J3 (K5 d s c t) (Q0 d s l c t) c t
def Qy(d:Puz)(s:QQ):Nat->List QB
 | 0=>[]
 | c+1=>Q0 d s (Qy d s c) c 4
theorem QbR(q:Bool)(l:List QB)(c t:Nat):(J3 q l c t).length<=l.length+1:=by
 cases q<;>simp[J3]
theorem QCi(d:Puz)(s:QQ)(l:List QB)(c:Nat):∀ t,(Q0 d s l c t).length<=l.length+t
 | 0=>qlr _
 | t+1=>by
  have:=QCi d s l c t;have:=QbR (K5 d s c t) (Q0 d s l c t) c t;simp only[Q0];omega
theorem Z9(d:Puz)(s:QQ):∀ c,(Qy d s c).length<=4*c
 | 0=>qlr _
 | c+1=>by
  have:=Z9 d s c;have:=QCi d s (Qy d s c) c 4;simp only[Qy];omega
theorem Wv(o:List QB)(c t:Nat):QC 2 (o++[(⟨c,t⟩:QB)]).length (Qa o.length (λi=>QA.enc (o.getD i ⟨0,0⟩)) (QU [[AV.int false i64 c,AV.int true i64 t]] 0)) (λi=>QA.enc ((o++[(⟨c,t⟩:QB)]).getD i ⟨0,0⟩)):=by
 intro i hi;rw[List.length_append,List.length_singleton]at hi
 have key:∀ j,Qa o.length (λi=>QA.enc (o.getD i ⟨0,0⟩)) (QU [[AV.int false i64 c,AV.int true i64 t]] 0) i j=if i<o.length then QA.enc (o.getD i ⟨0,0⟩) j else WJ [AV.int false i64 c,AV.int true i64 t] j:=by
  intro j;rw[Vb];split
  .rfl
  .rename_i h;have:i=o.length:=by omega
   subst this;simp[QU]
 have e:i<o.length->(o++[(⟨c,t⟩:QB)]).getD i ⟨0,0⟩=o.getD i ⟨0,0⟩:=λh=>by rw[List.getD_eq_getElem?_getD,List.getD_eq_getElem?_getD,List.getElem?_append_left h]
 have e2:¬ i<o.length->(o++[(⟨c,t⟩:QB)]).getD i ⟨0,0⟩=⟨c,t⟩:=λh=>by
  have:i=o.length:=by omega
  subst this;simp
 refine⟨?_,?_,trivial⟩
 .show Qa _ _ _ i 0=QA.enc ((o++[(⟨c,t⟩:QB)]).getD i ⟨0,0⟩) 0;rw[key 0];split
  .rename_i h;rw[e h]
  .rename_i h;rw[e2 h];rfl
 .show Qa _ _ _ i 1=QA.enc ((o++[(⟨c,t⟩:QB)]).getD i ⟨0,0⟩) 1;rw[key 1];split
  .rename_i h;rw[e h]
  .rename_i h;rw[e2 h];rfl
theorem QgJ(o:List QB)(c:Nat)(ho:o.length<=4000):Kk (λt=>Vi d s (Q0 d s o c t) c t) (λt=>t<=4) (λt=>4-t) (λ_ e J=>e = .exit 2/\J=Hi d s (Q0 d s o c 4) c) 8 zp [] (mkE prog JH) (λ_=>hnd (mkE prog JH) 6) (Kl (QT f71 0)):=by
 refine⟨λt g ht=>?_⟩;have nd:∀ b:Bool,(cond b true true)=true:=λb=>by cases b<;>rfl
 have hlen:=QCi d s o c t;rcases(by have:=ht;omega:t=0∨t=1∨t=2∨t=3∨t=4)with rfl|rfl|rfl|rfl|rfl
 .refine YA (QUC d s _ c g) (QBV rfl rfl rfl rfl (nd _) (nd _) (nd _) (nd _) (λhq=>?_) (λhq=>?_))
  .have hq:K5 d s c 0=false:=hq;have e:Q0 d s o c 1=Q0 d s o c 0:=by simp only[Q0,hq,J3]
   refine⟨?_,?_,?_,?_⟩<;>(
    refine⟨1,by decide,by decide,λ_ _ h=>h,rfl,rfl,_,QfO _ _ _ _ _,?_⟩
    rw[e]
    repeat' first|exact tv|refine aI ?_ ?_)
  .have hq:K5 d s c 0=true:=hq;have e:Q0 d s o c 1=Q0 d s o c 0++[⟨(c:Nat),(0:Nat)⟩]:=by simp only[Q0,hq,J3]
   refine QF (by simp;omega) ⟨1,by decide,by decide,λ_ _ h=>h,rfl,rfl,_,QS2 _ _ _ _ _,?_⟩
   rw[e]
   repeat' first|exact tv|refine aI ?_ ?_
   .simp
   .simp
   .exact Wv _ c 0
 .refine YA (QZB d s _ c g) (QBV rfl rfl rfl rfl (nd _) (nd _) (nd _) (nd _) (λhq=>?_) (λhq=>?_))
  .have hq:K5 d s c 1=false:=hq;have e:Q0 d s o c 2=Q0 d s o c 1:=by simp only[Q0,hq,J3]
   refine⟨?_,?_,?_,?_⟩<;>(
    refine⟨2,by decide,by decide,λ_ _ h=>h,rfl,rfl,_,Qa1 _ _ _ _ _,?_⟩
    rw[e]
    repeat' first|exact tv|refine aI ?_ ?_)
  .have hq:K5 d s c 1=true:=hq;have e:Q0 d s o c 2=Q0 d s o c 1++[⟨(c:Nat),(1:Nat)⟩]:=by simp only[Q0,hq,J3]
   refine QF (by simp;omega) ⟨2,by decide,by decide,λ_ _ h=>h,rfl,rfl,_,QYr _ _ _ _ _,?_⟩
   rw[e]
   repeat' first|exact tv|refine aI ?_ ?_
   .simp
   .simp
   .exact Wv _ c 1
 .refine YA (Qe8 d s _ c g) (QBV rfl rfl rfl rfl (nd _) (nd _) (nd _) (nd _) (λhq=>?_) (λhq=>?_))
  .have hq:K5 d s c 2=false:=hq;have e:Q0 d s o c 3=Q0 d s o c 2:=by simp only[Q0,hq,J3]
   refine⟨?_,?_,?_,?_⟩<;>(
    refine⟨3,by decide,by decide,λ_ _ h=>h,rfl,rfl,_,QYd _ _ _ _ _,?_⟩
    rw[e]
    repeat' first|exact tv|refine aI ?_ ?_)
  .have hq:K5 d s c 2=true:=hq;have e:Q0 d s o c 3=Q0 d s o c 2++[⟨(c:Nat),(2:Nat)⟩]:=by simp only[Q0,hq,J3]
   refine QF (by simp;omega) ⟨3,by decide,by decide,λ_ _ h=>h,rfl,rfl,_,QZr _ _ _ _ _,?_⟩
   rw[e]
   repeat' first|exact tv|refine aI ?_ ?_
   .simp
   .simp
   .exact Wv _ c 2
 .refine YA (QfE d s _ c g) (QBV rfl rfl rfl rfl (nd _) (nd _) (nd _) (nd _) (λhq=>?_) (λhq=>?_))
  .have hq:K5 d s c 3=false:=hq;have e:Q0 d s o c 4=Q0 d s o c 3:=by simp only[Q0,hq,J3]
   refine⟨?_,?_,?_,?_⟩<;>(
    refine⟨4,by decide,by decide,λ_ _ h=>h,rfl,rfl,_,Qdm _ _ _ _ _,?_⟩
    rw[e]
    repeat' first|exact tv|refine aI ?_ ?_)
  .have hq:K5 d s c 3=true:=hq;have e:Q0 d s o c 4=Q0 d s o c 3++[⟨(c:Nat),(3:Nat)⟩]:=by simp only[Q0,hq,J3]
   refine QF (by simp;omega) ⟨4,by decide,by decide,λ_ _ h=>h,rfl,rfl,_,Qgh _ _ _ _ _,?_⟩
   rw[e]
   repeat' first|exact tv|refine aI ?_ ?_
   .simp
   .simp
   .exact Wv _ c 3
 .refine YA (QVr d s _ c g) ?_;refine⟨_,⟨rfl,rfl⟩,rfl,rfl,_,Qej _ _ _ _ _,?_⟩
  repeat' first|exact tv|refine aI ?_ ?_
