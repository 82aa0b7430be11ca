/- - -/
import Derived.Test.YtekbmehgcofnkaaGreatJzo
import Derived.Test.YtekbmehgcofnkaaGreatJzn
set_option linter.all false
noncomputable section
open Go.Proofs.Tryz
open Go.IntKind (i64)
set_option maxRecDepth 100000
namespace Go.Proofs.YtekbmehgcofnkaaGreat
open Go.SX
def QIh:Tab:=QZ (QZ (QZ (QZ (QZ QRz 24 QJ5) 43 QHH) 17 QJI) 19 QQa) 21 QLl
theorem QY7:Qc QIh:=((((QXP.add QFv).add QIQ).add QF4).add Qc5).add Qde
theorem QhQ:KN (mkG prog (ZD prog QIh [] 12)) (hnd (mkG prog (ZD prog QIh [] 12)) 100) false f16 [] [] 0 = .leaf (.bool true true) []:=by kernel_rfl
theorem Qda:QQ prog 16 QJb:=Qg4 (QSY QY7 [] 12) 100 func16 (by kernel_rfl) (by kernel_rfl) QhQ
open Go.SX Go.SX.Told
variable (d:Puz)(l:Rw Lay)(x:Lay)(i:Nat)(C R:Int)(q:Nat->Bool)(g:Nat->Value)
def rmB:List (Nat×Blk):=[(16,.cells 0 49 [vi x.piece,vi x.turn]),(8,.cells 0 28 (Kb d))]++Qo.blk 0 d.ps++Qo.blk 1 l
def rmS:List (Nat×AV):=[(1,.slz 1 0 l.n (.of 0)),(3,.ptr 8 0 0),(5,.ptr 16 0 0)]
def QB0:JSt:=⟨103,rmS l++[(7,.int false .i64 i)],rmB d l x,40⟩
def QHz:JSt:=⟨103,rmS l,rmB d l x,40⟩
def G5(n:Nat):JSt:=⟨103,[(6,.bool false false)],[],n⟩
def QR5(R C:Int):List (Nat×AV):=rmS l++[(8,.int false .i64 l.n),(9,.int false .i64 R),(10,.int false .i64 C)]
def Yv(R C:Int)(q:Nat->Bool)(k:Nat):JSt:=⟨103,QR5 l R C++[(11,.ptr 264 0 0),(12,.int true .i64 k)],(264,.cells 1 59 [.bool false (q 0),.bool false (q 1),.bool false (q 2),.bool false (q 3)])::rmB d l x,288⟩
def QGQ(R C:Int):JSt:=⟨103,QR5 l R C,rmB d l x,288⟩
def QK9:Ex->List Nat
 | .normal=>[1,3,5,7]
 | .exit _=>[1,3,5]
 | .ret=>[6]
def zE:Ex->List Nat
 | .normal=>[1,3,5,8,9,10,11,12]
 | .exit _=>[1,3,5,8,9,10]
 | .ret=>[6]
abbrev QH2:Nat×Blk:=(8,.cells 0 28 (waf d))
abbrev QHI:Nat×Blk:=(16,.cells 0 49 [vi x.piece,vi x.turn])
abbrev QGj:List CK:=(wae)
abbrev QHR(i:Nat)(l:Rw Lay)(x:Lay):List (Nat×Blk):=[(1,.frz kB l.n λi=>QA.enc (l.get i)),(QH2 d),(QHI x),(0,.frz QGj d.ps.n λi=>QA.enc (d.ps.get i))]
abbrev wbX:List AV:=[.nili,.ptr 103 0 0,.bool true false]
theorem QU1 :exec (mkF prog JH) (hnd (mkF prog JH) 0) (QJ f71 0) (JSt.inst (QB0 d l x i) g) (KD [] QK9) = .br (decide ((i:Int)<(l.n:Int))) (.need (decide ((0:Int)<=(i:Int)/\(i:Int)<(l.n:Int))&&decide (l.n<=l.n)) (.need (decide (i<l.n)) (.br ((l.get i).piece==x.piece) (.leaf (.tup (wbX)) ([])) (.leaf (.tup [.nilp,.ptr 103 0 0,.slz 1 0 l.n cO,.ptr 8 0 0,.ptr 16 0 0,vi (i64.wrap ((i:Int)+1))]) ((QHR d i l x)))))) (.leaf (.tup [.ptr 0 0 0,.ptr 103 0 0,.slz 1 0 l.n cO,.ptr 8 0 0,.ptr 16 0 0]) ((QHR d i l x))):=by kernel_rfl
theorem QgJ :QF 8 [AV.bool true false] ([]) (G5 40)=( some [false=false]):=by kernel_rfl
abbrev jZ:List Prop:=[0=0,l.n=l.n,cO=cO,0=0,0=0,0=0]
theorem QV4(i i':Nat):QF 8 [.slz 1 0 l.n cO,.ptr 8 0 0,.ptr 16 0 0,vi (i64.wrap ((i:Int)+1))] ((QHR d i l x)) (QB0 d l x i')=(some ((jZ l)++(([0=0,i64.wrap ((i:Int)+1)=(i':Int)]++wbe x)++waa d++([cO=cO]++wad d++[l.n<=l.n,QB 2 l.n (λi=>QA.enc (l.get i)) λi=>QA.enc (l.get i)])))):=by kernel_rfl
abbrev QIT:List (Nat×Blk):=[(1,.frz kB l.n λi=>QA.enc (l.get i)),(QH2 d),(QHI x),(0,.frz QGj d.ps.n λi=>QA.enc (d.ps.get i))]
abbrev GY:List Prop:=([x.turn=x.turn]++waa d++([cO=cO]++wad d++[l.n<=l.n,QB 2 l.n (λi=>QA.enc (l.get i)) λi=>QA.enc (l.get i)]))
theorem QbO :QF 8 [.slz 1 0 l.n cO,.ptr 8 0 0,.ptr 16 0 0] ((QIT d l x)) (QHz d l x)=(some ((jZ l)++[0=0,x.piece=x.piece]++(GY d l x))):=by kernel_rfl
abbrev waL(C:Int)(R:Int)(l:Rw Lay):List AV:=[.slz 1 0 l.n cO,.ptr 8 0 0,.ptr 16 0 0,vi (l.n:Int),vi R,vi C]
abbrev QPp(l:Rw Lay):List AV:=(.nilp::.ptr 103 0 0::List.append (waL C R l) ([.ptr 264 0 0,vj 1]))
abbrev YI(x:Lay):List (Nat×Blk):=[(1,.frz kB l.n λi=>QA.enc (l.get i)),(QH2 d),(QHI x),(264,.cells 1 59 [.bool false (q 0),.bool false (q 1),.bool false (q 2),.bool false (q 3)]),(0,.frz QGj d.ps.n λi=>QA.enc (d.ps.get i))]
theorem QXU(R C:Int)(q:Nat->Bool)(g:Nat->Value):exec (mkF prog JH) (hnd (mkF prog JH) 0) (QJ f71 1) (JSt.inst (Yv d l x R C q 0) g) (KD [] zE) = .br (q (0)) (.need (decide (d.ps.n<=d.ps.n)&&(true&&(true&&true))&&decide ((0:Int)<=x.piece/\x.piece<(d.ps.n:Int)/\(0:Int)<=x.turn/\x.turn<4/\(0:Int)<=0/\(0:Int)<4)) (.br ((Kq (d.ps.get x.piece.toNat) (onS x (0:Int)).toNat).kind != 0) (.leaf (.tup (wbX)) ([])) (.leaf (.tup (QPp C R l)) ((YI d l q x))))) (.leaf (.tup (QPp C R l)) ((YI d l q x))):=by kernel_rfl
theorem QDu :QF 8 [AV.bool true false] ([]) (G5 288)=( some [false=false]):=by kernel_rfl
abbrev QEN(l:Rw Lay):List Prop:=[0=0,(l.n:Int)=(l.n:Int),R=R,C=C,0=0,0=0]
abbrev QCk(x:Lay):List Prop:=[q 0=q 0,q 1=q 1,q 2=q 2,q 3=q 3,x.piece=x.piece]
theorem QKt(R C:Int)(q:Nat->Bool):QF 8 (List.append (waL C R l) ([.ptr 264 0 0,vj 1])) ((YI d l q x)) (Yv d l x R C q 1)=(some ((jZ l)++(QEN C R l)++[(1:Int)=1]++(QCk q x)++(GY d l x))):=by kernel_rfl
abbrev QUI(l:Rw Lay):List AV:=(.nilp::.ptr 103 0 0::List.append (waL C R l) ([.ptr 264 0 0,vj 2]))
theorem Qag(R C:Int)(q:Nat->Bool)(g:Nat->Value):exec (mkF prog JH) (hnd (mkF prog JH) 0) (QJ f71 1) (JSt.inst (Yv d l x R C q 1) g) (KD [] zE) = .br (q (1)) (.need (decide (d.ps.n<=d.ps.n)&&(true&&(true&&true))&&decide ((0:Int)<=x.piece/\x.piece<(d.ps.n:Int)/\(0:Int)<=x.turn/\x.turn<4/\(0:Int)<=1/\(1:Int)<4)) (.br ((Kq (d.ps.get x.piece.toNat) (onS x (1:Int)).toNat).kind != 0) (.leaf (.tup (wbX)) ([])) (.leaf (.tup (QUI C R l)) ((YI d l q x))))) (.leaf (.tup (QUI C R l)) ((YI d l q x))):=by kernel_rfl
theorem QKp(R C:Int)(q:Nat->Bool):QF 8 (List.append (waL C R l) ([.ptr 264 0 0,vj 2])) ((YI d l q x)) (Yv d l x R C q 2)=(some ((jZ l)++(QEN C R l)++[(2:Int)=2]++(QCk q x)++(GY d l x))):=by kernel_rfl
abbrev QKx(l:Rw Lay):List AV:=(.nilp::.ptr 103 0 0::List.append (waL C R l) ([.ptr 264 0 0,vj 3]))
theorem QaI(R C:Int)(q:Nat->Bool)(g:Nat->Value):exec (mkF prog JH) (hnd (mkF prog JH) 0) (QJ f71 1) (JSt.inst (Yv d l x R C q 2) g) (KD [] zE) = .br (q (2)) (.need (decide (d.ps.n<=d.ps.n)&&(true&&(true&&true))&&decide ((0:Int)<=x.piece/\x.piece<(d.ps.n:Int)/\(0:Int)<=x.turn/\x.turn<4/\(0:Int)<=2/\(2:Int)<4)) (.br ((Kq (d.ps.get x.piece.toNat) (onS x (2:Int)).toNat).kind != 0) (.leaf (.tup (wbX)) ([])) (.leaf (.tup (QKx C R l)) ((YI d l q x))))) (.leaf (.tup (QKx C R l)) ((YI d l q x))):=by kernel_rfl
theorem QOx(R C:Int)(q:Nat->Bool):QF 8 (List.append (waL C R l) ([.ptr 264 0 0,vj 3])) ((YI d l q x)) (Yv d l x R C q 3)=(some ((jZ l)++(QEN C R l)++[(3:Int)=3]++(QCk q x)++(GY d l x))):=by kernel_rfl
abbrev QKE(l:Rw Lay):List AV:=(.nilp::.ptr 103 0 0::List.append (waL C R l) ([.ptr 264 0 0,vj 4]))
theorem QiE(R C:Int)(q:Nat->Bool)(g:Nat->Value):exec (mkF prog JH) (hnd (mkF prog JH) 0) (QJ f71 1) (JSt.inst (Yv d l x R C q 3) g) (KD [] zE) = .br (q (3)) (.need (decide (d.ps.n<=d.ps.n)&&(true&&(true&&true))&&decide ((0:Int)<=x.piece/\x.piece<(d.ps.n:Int)/\(0:Int)<=x.turn/\x.turn<4/\(0:Int)<=3/\(3:Int)<4)) (.br ((Kq (d.ps.get x.piece.toNat) (onS x (3:Int)).toNat).kind != 0) (.leaf (.tup (wbX)) ([])) (.leaf (.tup (QKE C R l)) ((YI d l q x))))) (.leaf (.tup (QKE C R l)) ((YI d l q x))):=by kernel_rfl
theorem QKL(R C:Int)(q:Nat->Bool):QF 8 (List.append (waL C R l) ([.ptr 264 0 0,vj 4])) ((YI d l q x)) (Yv d l x R C q 4)=(some ((jZ l)++(QEN C R l)++[(4:Int)=4]++(QCk q x)++(GY d l x))):=by kernel_rfl
theorem QVe(R C:Int)(q:Nat->Bool)(g:Nat->Value):exec (mkF prog JH) (hnd (mkF prog JH) 0) (QJ f71 1) (JSt.inst (Yv d l x R C q 4) g) (KD [] zE) = .leaf (.tup (.ptr 2 0 0::.ptr 103 0 0::waL C R l)) ((QIT d l x)):=by kernel_rfl
theorem QdE(R C:Int)(q:Nat->Bool):QF 8 (waL C R l) ((QIT d l x)) (QGQ d l x R C)=(some ((jZ l) ++ [0=0,(l.n:Int)=(l.n:Int),R=R,C=C,x.piece=x.piece]++(GY d l x))):=by kernel_rfl
def rmQ:Bool:=(l.get i).piece==x.piece
def rmW(n:Nat):Nat->Bool
 | 0=>i64.wrap ((n:Int).tdiv d.wide)==0
 | 1=>(n:Int).tmod d.wide==i64.wrap (d.wide-1)
 | 2=>i64.wrap ((n:Int).tdiv d.wide)==i64.wrap (d.high-1)
 | _=>(n:Int).tmod d.wide==0
def JK(k:Nat):Bool:=q k&&((Kq (d.ps.get x.piece.toNat) (onS x k).toNat).kind != 0)
def Qh9:List (Prop×Ex×JSt):=[((QR (rmQ l x) l.n 0).isNone=false,.ret,G5 40),((QR (rmQ l x) l.n 0).isNone=true,.exit 0,QHz d l x)]
def QVj(R C:Int)(q:Nat->Bool):List (Prop×Ex×JSt):=[((QR (JK d x q) 4 0).isNone=false,.ret,G5 288),((QR (JK d x q) 4 0).isNone=true,.exit 2,QGQ d l x R C)]
abbrev QRo:St->(Ex->St->QC)->QC:=KJ 8 [] (QB0 d l x (0:Nat)) (Qh9 d l x)
abbrev QOl:St->(Ex->St->QC)->QC:=KJ 8 [] (Yv d l x (i64.wrap ((l.n:Int).tdiv d.wide)) ((l.n:Int).tmod d.wide) (rmW d l.n) 0) (QVj d l x (i64.wrap ((l.n:Int).tdiv d.wide)) ((l.n:Int).tmod d.wide) (rmW d l.n))
abbrev rmL:Code->St->(Ex->St->QC)->QC:=QRQ [(2,QRo d l x),(10,QOl d l x)]
def sdR(y:Lay)(s:Int):Edge:=Kq (d.ps.get y.piece.toNat) (onS y s).toNat
def rmV:Bool:=(QR (rmQ l x) l.n 0).isNone&&((QR (JK d x (rmW d l.n)) 4 0).isNone&&((!decide (i64.wrap ((l.n:Int).tdiv d.wide)>0) || !((KG d.pK (sdR d (l.get (i64.wrap ((l.n:Int)-d.wide)).toNat) 2) (sdR d x 0)).1==0))&&((l.n:Int).tmod d.wide==0||(KG d.pK (sdR d (l.get (i64.wrap ((l.n:Int)-1)).toNat) 1) (sdR d x 3)).1 != 0)))
def QEY:Bool:=decide (0<=x.piece/\x.piece<d.ps.n/\0<=x.turn/\x.turn<4)
def QAU:Bool:=decide (d.ps.n<=1000/\l.n<=1000/\1<=d.wide/\d.wide<=1000)&&(QEY d x&&(List.range l.n).all λi=>QEY d (l.get i))
def QM6(k:Nat)(e:Ex)(J:JSt):Prop:=(e = .ret/\(QR (rmQ l x) (l.n-k) k).isNone=false/\J=G5 40)∨(e = .exit 0/\(QR (rmQ l x) (l.n-k) k).isNone=true/\J=QHz d l x)
theorem Qc2(hl:l.n<=1000):J1 (QB0 d l x) (λk=>k<=l.n) (λk=>l.n-k) (QM6 d l x) 8 QK9 [] (mkF prog JH) (λ_=>hnd (mkF prog JH) 0) (QJ f71 0):=by
 refine⟨λk g hk=>Qe (QU1 d l x k g) ?_⟩;refine QE ?_ ?_<;>intro h
 .have h:k<l.n:=by have:=qdt h;omega
  have hf:=JU (p:=rmQ l x) h;have hw:i64.wrap ((k:Int)+1)=((k+1:Nat):Int):=VJ h hl
  repeat' refine QG (by simp;omega) ?_
  refine QE ?_ ?_<;>intro hb
  .exact⟨_,.inl ⟨rfl,by rw[hf.1 hb];rfl,rfl⟩,rfl,rfl,_,QgJ,⟨rfl,trivial⟩⟩
  .refine⟨k+1,by omega,by show l.n-(k+1)<l.n-k;omega,λe J h=>by unfold QM6 at h ⊢;rw[hf.2 hb];exact h,rfl,rfl,_,QV4 d l x k (k+1),?_⟩
   repeat' first|with_reducible refine QN ?_ ?_|exact tv|exact qRr|exact hw|refine aI ?_ ?_
 .have h:l.n<=k:=by have:=qdf h;omega
  refine⟨_,.inr ⟨rfl,by rw[show l.n-k=0 by omega];rfl,rfl⟩,rfl,rfl,_,QbO d l x,?_⟩
  repeat' first|with_reducible refine QN ?_ ?_|exact tv|exact qRr|refine aI ?_ ?_
def WB(R C:Int)(q:Nat->Bool)(k:Nat)(e:Ex)(J:JSt):Prop:=(e = .ret/\(QR (JK d x q) (4-k) k).isNone=false/\J=G5 288)∨(e = .exit 2/\(QR (JK d x q) (4-k) k).isNone=true/\J=QGQ d l x R C)
structure vI (d:Puz) (x:Lay):Prop where
 p:0<=x.piece/\x.piece<d.ps.n
 t:0<=x.turn/\x.turn<4
theorem QJ4{d:Puz}{x:Lay}:QEY d x=true↔vI d x:=by
 unfold QEY;rw[qdE];exact⟨λh=>⟨⟨h.1,h.2.1⟩,h.2.2⟩,λh=>⟨h.p.1,h.p.2,h.t⟩⟩
theorem QUs(R C:Int)(q:Nat->Bool)(hx:vI d x):J1 (Yv d l x R C q) (λk=>k<=4) (λk=>4-k) (WB d l x R C q) 8 zE [] (mkF prog JH) (λ_=>hnd (mkF prog JH) 0) (QJ f71 1):=by
 have h1:=hx.p;have h2:=hx.t;refine⟨λk g hk=>?_⟩
 match k,hk with
 | 0,_=>
  have et:=QXU d l x R C q g;refine Qe et ?_;clear et;have hf:=JU (p:=JK d x q) (show 0<4 by decide)
  refine QE (λb=>QG (by simp;omega) (QE (λb1=>?_) (λb1=>?_))) (λb=>?_)
  .exact⟨_,.inl ⟨rfl,by rw[hf.1 (by unfold JK;rw[b];exact b1)];rfl,rfl⟩,rfl,rfl,_,QDu,⟨rfl,trivial⟩⟩
  .refine⟨1,by decide,by decide,λe J h=>by unfold WB at h ⊢;rw[hf.2 (by unfold JK;rw[b];exact b1)];exact h,rfl,rfl,_,QKt d l x R C q,?_⟩
   repeat' first|with_reducible refine QN ?_ ?_|exact tv|exact qRr|exact rfl|refine aI ?_ ?_
  .refine⟨1,by decide,by decide,λe J h=>by unfold WB at h ⊢;rw[hf.2 (by unfold JK;rw[b];rfl)];exact h,rfl,rfl,_,QKt d l x R C q,?_⟩
   repeat' first|with_reducible refine QN ?_ ?_|exact tv|exact qRr|exact rfl|refine aI ?_ ?_
 | 1,_=>
  have et:=Qag d l x R C q g;refine Qe et ?_;clear et;have hf:=JU (p:=JK d x q) (show 1<4 by decide)
  refine QE (λb=>QG (by simp;omega) (QE (λb1=>?_) (λb1=>?_))) (λb=>?_)
  .exact⟨_,.inl ⟨rfl,by rw[hf.1 (by unfold JK;rw[b];exact b1)];rfl,rfl⟩,rfl,rfl,_,QDu,⟨rfl,trivial⟩⟩
  .refine⟨2,by decide,by decide,λe J h=>by unfold WB at h ⊢;rw[hf.2 (by unfold JK;rw[b];exact b1)];exact h,rfl,rfl,_,QKp d l x R C q,?_⟩
   repeat' first|with_reducible refine QN ?_ ?_|exact tv|exact qRr|exact rfl|refine aI ?_ ?_
  .refine⟨2,by decide,by decide,λe J h=>by unfold WB at h ⊢;rw[hf.2 (by unfold JK;rw[b];rfl)];exact h,rfl,rfl,_,QKp d l x R C q,?_⟩
   repeat' first|with_reducible refine QN ?_ ?_|exact tv|exact qRr|exact rfl|refine aI ?_ ?_
 | 2,_=>
  have et:=QaI d l x R C q g;refine Qe et ?_;clear et;have hf:=JU (p:=JK d x q) (show 2<4 by decide)
  refine QE (λb=>QG (by simp;omega) (QE (λb1=>?_) (λb1=>?_))) (λb=>?_)
  .exact⟨_,.inl ⟨rfl,by rw[hf.1 (by unfold JK;rw[b];exact b1)];rfl,rfl⟩,rfl,rfl,_,QDu,⟨rfl,trivial⟩⟩
  .refine⟨3,by decide,by decide,λe J h=>by unfold WB at h ⊢;rw[hf.2 (by unfold JK;rw[b];exact b1)];exact h,rfl,rfl,_,QOx d l x R C q,?_⟩
   repeat' first|with_reducible refine QN ?_ ?_|exact tv|exact qRr|exact rfl|refine aI ?_ ?_
  .refine⟨3,by decide,by decide,λe J h=>by unfold WB at h ⊢;rw[hf.2 (by unfold JK;rw[b];rfl)];exact h,rfl,rfl,_,QOx d l x R C q,?_⟩
   repeat' first|with_reducible refine QN ?_ ?_|exact tv|exact qRr|exact rfl|refine aI ?_ ?_
 | 3,_=>
  have et:=QiE d l x R C q g;refine Qe et ?_;clear et;have hf:=JU (p:=JK d x q) (show 3<4 by decide)
  refine QE (λb=>QG (by simp;omega) (QE (λb1=>?_) (λb1=>?_))) (λb=>?_)
  .exact⟨_,.inl ⟨rfl,by rw[hf.1 (by unfold JK;rw[b];exact b1)];rfl,rfl⟩,rfl,rfl,_,QDu,⟨rfl,trivial⟩⟩
  .refine⟨4,by decide,by decide,λe J h=>by unfold WB at h ⊢;rw[hf.2 (by unfold JK;rw[b];exact b1)];exact h,rfl,rfl,_,QKL d l x R C q,?_⟩
   repeat' first|with_reducible refine QN ?_ ?_|exact tv|exact qRr|exact rfl|refine aI ?_ ?_
  .refine⟨4,by decide,by decide,λe J h=>by unfold WB at h ⊢;rw[hf.2 (by unfold JK;rw[b];rfl)];exact h,rfl,rfl,_,QKL d l x R C q,?_⟩
   repeat' first|with_reducible refine QN ?_ ?_|exact tv|exact qRr|exact rfl|refine aI ?_ ?_
 | 4,_=>
  have et:=QVe d l x R C q g;refine Qe et ?_;clear et;refine⟨_,.inr ⟨rfl,rfl,rfl⟩,rfl,rfl,_,QdE d l x R C q,?_⟩
  repeat' first|with_reducible refine QN ?_ ?_|exact tv|exact qRr|exact rfl|refine aI ?_ ?_
 | k+5,hk=>exact absurd hk (by omega)
structure QPE (d:Puz) (l:Rw Lay) (x:Lay):Prop where
 n:d.ps.n<=1000/\l.n<=1000/\1<=d.wide/\d.wide<=1000
 x:vI d x
 l:∀ i,i<l.n->vI d (l.get i)
theorem QJF{d:Puz}{l:Rw Lay}{x:Lay}:QAU d l x=true↔QPE d l x:=by
 unfold QAU;rw[qbA,qbA,qdE,QJ4,List.all_eq_true];constructor
 .rintro⟨h1,h2,h3⟩;exact⟨h1,h2,λi hi=>QJ4.1 (h3 i (List.mem_range.2 hi))⟩
 .intro h;exact⟨h.n,h.x,λi hi=>QJ4.2 (h.l i (List.mem_range.1 hi))⟩
theorem Qhk{d:Puz}{l:Rw Lay}{x:Lay}(ho:QPE d l x)(G:Ctx)(hrd:G.rd=none)(hG:G.n=8):Q1 (mkF prog JH) G { hnd (mkF prog JH) 1 with loop:=rmL d l x } (Qk f71):=by
 refine QRJ (Kl ja) hrd λc hc=>?_;have e:K5 (Qk f71)=[.loop (QJ f71 0),.loop (QJ f71 1)]:=by kernel_rfl
 rw[e]at hc;simp only[List.mem_cons,List.not_mem_nil,or_false]at hc;rcases hc with rfl|rfl
 .have e1:rmL d l x (.loop (QJ f71 0))=QRo d l x:=by kernel_rfl
  show Jq _ G _ (rmL d l x (.loop (QJ f71 0)));rw[e1];refine V7 (n0:=8) (Kl ja) (by omega) (λs hs=>Qw (Kl ja) 0 G _ hrd) (λs hs=>(by decide:8<=40)) ?_ (Qc2 d l x ho.n.2.1) (s0:=0) (Nat.zero_le _) ?_
  .rintro s e J (⟨_,_,rfl⟩|⟨_,_,rfl⟩)<;>exact(by decide:8<=40)
  .rintro e J (⟨rfl,h,rfl⟩|⟨rfl,h,rfl⟩)
   .exact⟨_,qmc,h,rfl,rfl⟩
   .exact⟨_,List.mem_cons_of_mem _ qmc,h,rfl,rfl⟩
 .have e1:rmL d l x (.loop (QJ f71 1))=QOl d l x:=by kernel_rfl
  show Jq _ G _ (rmL d l x (.loop (QJ f71 1)));rw[e1];refine V7 (n0:=8) (Kl ja) (by omega) (λs hs=>Qw (Kl ja) 0 G _ hrd) (λs hs=>(by decide:8<=288)) ?_ (QUs d l x _ _ (rmW d l.n) ho.x) (s0:=0) (Nat.zero_le _) ?_
  .rintro s e J (⟨_,_,rfl⟩|⟨_,_,rfl⟩)<;>exact(by decide:8<=288)
  .rintro e J (⟨rfl,h,rfl⟩|⟨rfl,h,rfl⟩)
   .exact⟨_,qmc,h,rfl,rfl⟩
   .exact⟨_,List.mem_cons_of_mem _ qmc,h,rfl,rfl⟩
def j8:WF (Puz×(Rw Lay)×Lay×Unit):=λ|(d,(l,(x,_)))=>(QAU d l x,.bool false (rmV d l x),[])
def QLA:FC:=wFC j8
theorem QdK(l:(Rw Lay))(x:Lay):Kf (mkF prog JH) { hnd (mkF prog JH) 1 with loop:=rmL d l x } f71 (QX.vals 0 ((d,l,x,()):Puz×(Rw Lay)×Lay×Unit)) (QX.blks 0 ((d,l,x, ()):Puz×(Rw Lay)×Lay×Unit)) 8 = .ak (([0=0,l.n=l.n,cO=cO,0=0,0=0,0=0,0=0,(0:Int)=0]++wbe x)++waa d++([cO=cO]++wad d++[l.n<=l.n,QB 2 l.n (λi=>QA.enc (l.get i)) λi=>QA.enc (l.get i)])) (.both (.asm ((QR (rmQ l x) l.n 0).isNone=false) (.all (λ(g0:Nat->Value)=>.leaf (.bool false false) ([])))) (.asm ((QR (rmQ l x) l.n 0).isNone=true) (.all (λ(g1:Nat->Value)=>.need (!decide (d.wide=0)) (.need (!decide (d.wide=0)) (.ak (([0=0,l.n=l.n,cO=cO,0=0,0=0,0=0,0=0,(l.n:Int)=(l.n:Int),i64.wrap ((l.n:Int).tdiv d.wide)=i64.wrap ((l.n:Int).tdiv d.wide),(l.n:Int).tmod d.wide=(l.n:Int).tmod d.wide,0=0,0=0,(0:Int)=0,(i64.wrap ((l.n:Int).tdiv d.wide)==0)=rmW d l.n 0,((l.n:Int).tmod d.wide==i64.wrap (d.wide-1))=rmW d l.n 1,(i64.wrap ((l.n:Int).tdiv d.wide)==i64.wrap (d.high-1))=rmW d l.n 2,((l.n:Int).tmod d.wide==0)=rmW d l.n 3]++wbe x)++waa d++([cO=cO]++wad d++[l.n<=l.n,QB 2 l.n (λi=>QA.enc (l.get i)) λi=>QA.enc (l.get i)])) (.both (.asm ((QR (JK d x (rmW d l.n)) 4 0).isNone=false) (.all (λ(g2:Nat->Value)=>.leaf (.bool false false) ([])))) (.asm ((QR (JK d x (rmW d l.n)) 4 0).isNone=true) (.all (λ(g3:Nat->Value)=>.br (decide (i64.wrap ((l.n:Int).tdiv d.wide)>0)) (.need (decide ((0:Int)<=i64.wrap ((l.n:Int)-d.wide)/\i64.wrap ((l.n:Int)-d.wide)<(l.n:Int))&&decide (l.n<=l.n)) (.need (decide ((i64.wrap ((l.n:Int)-d.wide)).toNat<l.n)) (.need (decide (d.ps.n<=d.ps.n)&&(true&&(true&&true))&&decide ((0:Int)<=(l.get (i64.wrap ((l.n:Int)-d.wide)).toNat).piece/\(l.get (i64.wrap ((l.n:Int)-d.wide)).toNat).piece<(d.ps.n:Int)/\(0:Int)<=(l.get (i64.wrap ((l.n:Int)-d.wide)).toNat).turn/\(l.get (i64.wrap ((l.n:Int)-d.wide)).toNat).turn<4/\(0:Int)<=2/\(2:Int)<4)) (.need (decide (d.ps.n<=d.ps.n)&&(true&&(true&&true))&&decide ((0:Int)<=x.piece/\x.piece<(d.ps.n:Int)/\(0:Int)<=x.turn/\x.turn<4/\(0:Int)<=0/\(0:Int)<4)) (.need (decide (d.ps.n<=d.ps.n)&&(true&&(true&&true))&&decide (d.ps.n<=1000)) (.br ((KG d.pK (Kq (d.ps.get (l.get (i64.wrap ((l.n:Int)-d.wide)).toNat).piece.toNat) (onS (l.get (i64.wrap ((l.n:Int)-d.wide)).toNat) (2:Int)).toNat) (Kq (d.ps.get x.piece.toNat) (onS x (0:Int)).toNat)).1==0) (.leaf (.bool true false) ([])) (.br ((l.n:Int).tmod d.wide==0) (.leaf (.bool true true) ([])) (.need (decide ((0:Int)<=i64.wrap ((l.n:Int)-1)/\i64.wrap ((l.n:Int)-1)<(l.n:Int))&&decide (l.n<=l.n)) (.need (decide ((i64.wrap ((l.n:Int)-1)).toNat<l.n)) (.need (decide (d.ps.n<=d.ps.n)&&(true&&(true&&true))&&decide ((0:Int)<=(l.get (i64.wrap ((l.n:Int)-1)).toNat).piece/\(l.get (i64.wrap ((l.n:Int)-1)).toNat).piece<(d.ps.n:Int)/\(0:Int)<=(l.get (i64.wrap ((l.n:Int)-1)).toNat).turn/\(l.get (i64.wrap ((l.n:Int)-1)).toNat).turn<4/\(0:Int)<=1/\(1:Int)<4)) (.need (decide (d.ps.n<=d.ps.n)&&(true&&(true&&true))&&decide ((0:Int)<=x.piece/\x.piece<(d.ps.n:Int)/\(0:Int)<=x.turn/\x.turn<4/\(0:Int)<=3/\(3:Int)<4)) (.need (decide (d.ps.n<=d.ps.n)&&(true&&(true&&true))&&decide (d.ps.n<=1000)) (.leaf (.bool false ((KG d.pK (Kq (d.ps.get (l.get (i64.wrap ((l.n:Int)-1)).toNat).piece.toNat) (onS (l.get (i64.wrap ((l.n:Int)-1)).toNat) (1:Int)).toNat) (Kq (d.ps.get x.piece.toNat) (onS x (3:Int)).toNat)).1 != 0)) ([])))))))))))))) (.br ((l.n:Int).tmod d.wide==0) (.leaf (.bool true true) ([])) (.need (decide ((0:Int)<=i64.wrap ((l.n:Int)-1)/\i64.wrap ((l.n:Int)-1)<(l.n:Int))&&decide (l.n<=l.n)) (.need (decide ((i64.wrap ((l.n:Int)-1)).toNat<l.n)) (.need (decide (d.ps.n<=d.ps.n)&&(true&&(true&&true))&&decide ((0:Int)<=(l.get (i64.wrap ((l.n:Int)-1)).toNat).piece/\(l.get (i64.wrap ((l.n:Int)-1)).toNat).piece<(d.ps.n:Int)/\(0:Int)<=(l.get (i64.wrap ((l.n:Int)-1)).toNat).turn/\(l.get (i64.wrap ((l.n:Int)-1)).toNat).turn<4/\(0:Int)<=1/\(1:Int)<4)) (.need (decide (d.ps.n<=d.ps.n)&&(true&&(true&&true))&&decide ((0:Int)<=x.piece/\x.piece<(d.ps.n:Int)/\(0:Int)<=x.turn/\x.turn<4/\(0:Int)<=3/\(3:Int)<4)) (.need (decide (d.ps.n<=d.ps.n)&&(true&&(true&&true))&&decide (d.ps.n<=1000)) (.leaf (.bool false ((KG d.pK (Kq (d.ps.get (l.get (i64.wrap ((l.n:Int)-1)).toNat).piece.toNat) (onS (l.get (i64.wrap ((l.n:Int)-1)).toNat) (1:Int)).toNat) (Kq (d.ps.get x.piece.toNat) (onS x (3:Int)).toNat)).1 != 0)) ([])))))))))))))))))):=by kernel_rfl
theorem QhG:JP (mkF prog JH) (Qk f71) 8 j8 (λx_=>{ hnd (mkF prog JH) 1 with loop:=rmL x_.1 x_.2.1 x_.2.2.1 }):=by
 refine⟨?_⟩;rintro⟨d,⟨l,⟨x,⟨⟩⟩⟩⟩ hp G h1 h2;exact Qhk (QJF.1 hp) G h1 h2
theorem Qaz:JN (mkF prog JH) f71 8 j8 (λx_=>{ hnd (mkF prog JH) 1 with loop:=rmL x_.1 x_.2.1 x_.2.2.1 }):=by
 refine⟨?_⟩;rintro⟨d,⟨l,⟨x,⟨⟩⟩⟩⟩ hp;refine⟨⟨rfl,by simp[j8],rfl⟩,⟨?_⟩⟩
 rw[QdK d l x];simp only[j8]at hp;have ho:=QJF.1 hp;obtain⟨hn,hl,hw1,hw2⟩:=ho.n;have hx:=ho.x;have hx1:=hx.p;have hx2:=hx.t
 have r0:0<=(l.n:Int).tdiv d.wide/\(l.n:Int).tdiv d.wide<=l.n:=by
  rw[Int.tdiv_eq_ediv_of_nonneg (by omega)]
  exact⟨Int.ediv_nonneg (by omega) (by omega),Int.ediv_le_self _ (by omega)⟩
 have wr:i64.wrap ((l.n:Int).tdiv d.wide)=(l.n:Int).tdiv d.wide:=w64 (by omega) (by omega)
 have wu:i64.wrap ((l.n:Int)-d.wide)=(l.n:Int)-d.wide:=w64 (by omega) (by omega)
 have wl:i64.wrap ((l.n:Int)-1)=(l.n:Int)-1:=w64 (by omega) (by omega)
 have fin:∀(v k:Bool),v=rmV d l x->(QC.leaf (.bool k v) []).den (ZP 8 (j8 (d,l,x,())).2.1 (j8 (d,l,x,())).2.2):=λv k h=>KY h rfl
 iterate 25 refine Q2 (by first|exact tv|with_reducible exact qRr|exact rfl) ?_
 refine Km ?_ ?_;refine Qh λa0=>?_;refine Qj λg0=>?_
 .exact fin _ _ (by unfold rmV;rw[a0];rfl)
 refine Qh λa1=>?_;refine Qj λg1=>?_
 iterate 2 (refine QG ?_ ?_;rotate_left)
 iterate 34 refine Q2 (by first|exact tv|with_reducible exact qRr|exact rfl) ?_
 refine Km ?_ ?_;refine Qh λa2=>?_;refine Qj λg2=>?_
 .exact fin _ _ (by unfold rmV;rw[a1,a2];rfl)
 refine Qh λa3=>?_;refine Qj λg3=>?_;refine QE ?_ ?_<;>intro b0
 have hp0:d.wide<=l.n:=by
  have h:=qdt b0;rw[wr,Int.tdiv_eq_ediv_of_nonneg (by omega)]at h
  have:=(Int.le_ediv_iff_mul_le (a:=1) (b:=(l.n:Int)) (c:=d.wide) (by omega)).1 (by omega)
  omega
 have hy:=ho.l (i64.wrap ((l.n:Int)-d.wide)).toNat (by omega)
 have hy1:=hy.p;have hy2:=hy.t
 iterate 5 (refine QG ?_ ?_;rotate_left)
 refine QE ?_ ?_<;>intro b1
 .exact fin _ _ (by simp only[rmV,sdR];rw[a1,a3,b0,b1];rfl)
 refine QE ?_ ?_<;>intro b2
 .exact fin _ _ (by simp only[rmV,sdR];rw[a1,a3,b0,b1,b2];rfl)
 have hc0:1<=l.n:=by
  rcases Nat.eq_zero_or_pos l.n with h|h
  .rw[h]at b2;simp at b2
  .exact h
 have hz:=ho.l (i64.wrap ((l.n:Int)-1)).toNat (by omega)
 have hz1:=hz.p;have hz2:=hz.t
 iterate 5 (refine QG ?_ ?_;rotate_left)
 .exact fin _ _ (by simp only[rmV,sdR];rw[a1,a3,b0,b1,b2];rfl)
 refine QE ?_ ?_<;>intro b3
 .exact fin _ _ (by simp only[rmV];rw[a1,a3,b0,b3];rfl)
 have hc0:1<=l.n:=by
  rcases Nat.eq_zero_or_pos l.n with h|h
  .rw[h]at b3;simp at b3
  .exact h
 have hz:=ho.l (i64.wrap ((l.n:Int)-1)).toNat (by omega)
 have hz1:=hz.p;have hz2:=hz.t
 iterate 5 (refine QG ?_ ?_;rotate_left)
 .exact fin _ _ (by simp only[rmV,sdR];rw[a1,a3,b0,b3];rfl)
 all_goals first|rfl|(simp;omega)
theorem QWt:QQ prog 71 QLA:=
 JW (Kl ja) func71 (by kernel_rfl) (by kernel_rfl) (by decide) QhG Qaz
def XZ:Tab:=QZ JH 71 QLA
theorem QC5:Qc XZ:=ja.add QWt
end Go.Proofs.YtekbmehgcofnkaaGreat
namespace Go.SX
open Go Go.RowKit Go.Proofs.YtekbmehgcofnkaaGreat
structure RkL where
 n:Nat
 get:Nat->Lay
def RkL.rw(x:RkL):Rw Lay:=⟨x.n,x.get⟩
def lyK:List CK:=[.int .i64,.int .i64]
theorem QUU{n m:Nat}(h:m<=n)(get:Nat->List AV):(Q6 n get).flatten=(Q6 m get).flatten++((Q6 n get).drop m).flatten:=by
 have:Q6 m get=(Q6 n get).take m:=by
  unfold Q6;rw[<-List.map_take,List.take_range,Nat.min_eq_left h]
 rw[this,<-List.flatten_append,List.take_append_drop]
theorem QeV{r r':Nat->Loc}{id k:Nat}(hr:r' k=r id){w:World}{o:Bool}{ty:TypeId}{ks:List CK}{n m:Nat}{g g':Nat->Nat->Int}(h:QL r id w (.rowz o ty ks n g))(hm:m<=n)(hg:∀ i,QW ks g' i=QW ks g i):QL r' k w (.rowz false ty ks m g'):=by
 have h:Kg r id w ty ks.length n (QW ks g):=h;show Kg r' k w ty ks.length m (QW ks g');have e:QW ks g'=QW ks g:=funext hg;rw[e];obtain⟨h1,h2,h3,h4,h5,h6⟩:=h;unfold Kg;rw[hr];refine⟨h1,h2,h3,λhn=>by have:=h4 hn;omega,λi hi=>h5 i (by omega),λhn=>?_⟩
 obtain⟨h7,rest,h8,h9⟩:=h6 hn;refine⟨by omega,AV.denL r ((Q6 n (QW ks g)).drop m).flatten++rest,?_,?_⟩
 .have hl:=X0 ks.length ((Q6 n (QW ks g)).drop m) λx hx=>by
   obtain⟨i,hi,rfl⟩:=WD (List.mem_of_mem_drop hx);exact(h5 i hi).1
  rw[List.length_append,KO,hl,List.length_drop,JI];have:(r id).cap-m=(n-m)+((r id).cap-n):=by omega
  rw[this,Nat.add_mul];omega
 .rw[h9,QUU hm,Wr,List.append_assoc,denL_congr (p:=λ_=>false) (r:=r) (r':=r') (λ_ hf=>by cases hf) (Q6 m (QW ks g)).flatten (GQ λi hi=>Xh (h5 i (by omega)).2)]
instance : Qo RkL where
  val k x := .slz k 0 x.n (.of 0)
  blk k x := [(k,.rowz false 49 lyK x.n λi=>QA.enc (x.get i))]
  dec v lk := match v with
    | .slz id 0 m (.of 0) => (match lk id with
      | some (.rowz _ ty ks n g) => (match Nat.beq ty 49 && ksB ks lyK with
        | true => some (decide (m <= n),⟨m,λi=>QA.dec (g i)⟩)
        | false => none)
      | _ => none)
    | _ => none
  ok v lk p x h hp := by
    split at h <;> (try (cases h; done))
    split at h <;> (try (cases h; done))
    rename_i id m _ o ty ks n g hlk;split at h <;> (try (cases h; done))
    rename_i hk;rw[qbA]at hk;have e1 := qnb hk.1;have e2 := Xv hk.2;subst e1 e2;simp only[qsI,qpI]at h;obtain⟨rfl,rfl⟩ := h;refine⟨λk=>⟨by simp[AV.all],λq hq=>?_⟩,λr w hb=>?_⟩
    . simp only[List.mem_singleton]at hq; subst hq; exact⟨rfl,rfl,rfl⟩
    . refine⟨r id,λk r' hr=>⟨?_,λq hq=>?_⟩⟩
      . simp only[AV.den,hr]
      . simp only[List.mem_singleton]at hq; subst hq
        exact QeV hr (hb _ _ hlk) (qdt hp) λi=>QA.ok (α := Lay) (g i)
end Go.SX
namespace Go.Proofs.YtekbmehgcofnkaaGreat
open Go.SX Go.SX.Told
variable (d:Puz)(x:Lay)
def rsB(l:RkL):List (Nat×Blk):=(8,.cells 0 28 (Kb d))::Qo.blk 0 d.ps++Qo.blk 1 l
def rsJ(l:RkL)(i:Nat):JSt:=⟨58,[(1,.slz 1 0 l.n (.of 0)),(2,.ptr 8 0 0),(5,.int false .i64 i)],rsB d l,80⟩
def QDJ:JSt:=⟨58,[(4,.bool false false)],[],80⟩
def QJ9:JSt:=⟨58,[],[],80⟩
def QMq:Ex->List Nat
 | .normal=>[1,2,5]
 | .exit _=>[]
 | .ret=>[4]
abbrev QPJ(i:Nat)(l:RkL):List (Nat×Blk):=[(1,.rowz false 49 kB l.1 λi=>QA.enc (l.2 i)),(8,.cells 0 28 (wa7 d)),(0,.frz kE d.ps.n λi=>QA.enc (d.ps.get i))]
theorem QiQ(l:RkL)(i:Nat)(g:Nat->Value):exec (mkF prog XZ) (hnd (mkF prog XZ) 0) (QJ f27 0) (JSt.inst (rsJ d l i) g) (KD [] QMq) = .br (decide ((i:Int)<(l.1:Int))) (.need (decide ((0:Int)<=(i:Int)/\(i:Int)<(l.1:Int))&&decide (l.1<=l.1)) (.need (decide (i<l.1)) (.need (true) (.br (!Qu (l.2 ((i:Int).toNat+0)).piece (0:Int) (i64.wrap ((d.ps.n:Int)-1))) (.leaf (.tup [.nili,.ptr 58 0 0,.bool true false]) ([])) (.need (decide ((0:Int)<=(i:Int)/\(i:Int)<(l.1:Int))&&decide (l.1<=l.1)) (.need (decide (i<l.1)) (.need (decide ((0:Int)<=(i:Int)/\(i:Int)<(l.1:Int))&&decide (l.1<=l.1)) (.need (decide (i<l.1)) (.need (decide (d.ps.n<=d.ps.n)&&(true&&true)&&true) (.need (true) (.br (!Qu (l.2 ((i:Int).toNat+0)).turn (0:Int) (i64.wrap (tnV d (l.2 ((i:Int).toNat+0)).piece-1))) (.leaf (.tup [.nili, .ptr 58 0 0,.bool true false]) ([])) (.need (decide ((0:Int)<=(i:Int)/\i<=l.1-0)) (.need (decide ((0:Int)<=(i:Int)/\(i:Int)<(l.1:Int))&&decide (l.1<=l.1)) (.need (decide (i<l.1)) (.need (decide (d.ps.n<=d.ps.n)&&(decide (i<=l.1)&&(true&&true))&&QAU d (Rw.mk i λi=>l.2 (i+0)) (l.2 ((i:Int).toNat+0))) (.br (!rmV d (Rw.mk i λi=>l.2 (i+0)) (l.2 ((i:Int).toNat+0))) (.leaf (.tup [.nili,.ptr 58 0 0,.bool true false]) ([])) (.leaf (.tup [.nilp,.ptr 58 0 0,.slz 1 0 l.1 cO, .ptr 8 0 0,vi (i64.wrap ((i:Int)+1))]) ((QPJ d i l))))))))))))))))))) (.leaf (.tup [.ptr 0 0 0,.ptr 58 0 0]) ([])):=by kernel_rfl
theorem QGu :QF 8 [AV.bool true false] ([]) QDJ=( some [false=false]):=by kernel_rfl
theorem QWc(l:RkL)(i i':Nat):QF 8 [.slz 1 0 l.1 cO,.ptr 8 0 0,vi (i64.wrap ((i:Int)+1))] ((QPJ d i l)) (rsJ d l i')=(some ([0=0,l.1=l.1,cO=cO,0=0,0=0,i64.wrap ((i:Int)+1)=(i':Int)]++waa d++([cO=cO]++wad d++[l.1<=l.1,QB 2 l.1 (λi=>QA.enc (l.2 i)) λi=>QA.enc (l.2 i)]))):=by kernel_rfl
theorem QUo :QF 8 [] ([]) QJ9=( some []):=by kernel_rfl
def rsA:Bool:=Qu x.piece 0 (i64.wrap ((d.ps.n:Int)-1))
def rsC:Bool:=Qu x.turn 0 (i64.wrap (tnV d x.piece-1))
def VQ(l:RkL)(i:Nat):Bool := !rsA d (l.get i)||(!rsC d (l.get i) || !rmV d ⟨i,l.get⟩ (l.get i))
def Vn(l:RkL):Bool := !((l.n:Int) != d.ps.n)&&(QR (VQ d l) l.n 0).isNone
def rsR(l:RkL)(k:Nat)(e:Ex)(J:JSt):Prop:=(e = .ret/\(QR (VQ d l) (l.n-k) k).isNone=false/\J=QDJ)∨(e = .exit 0/\(QR (VQ d l) (l.n-k) k).isNone=true/\J=QJ9)
theorem QOZ(p:Int):tnV d p=4∨tnV d p=1:=by
 unfold tnV;cases d.turn&&decide (0<p)
 .exact .inr rfl
 .exact .inl rfl
theorem QPs{d:Puz}{x:Lay}(hn:d.ps.n<=1000)(h1:rsA d x=true)(h2:rsC d x=true):vI d x:=by
 unfold rsA Qu at h1;unfold rsC Qu at h2;have h1:=qdt h1;have h2:=qdt h2;have ht:=QOZ d x.piece;rw[w64 (by omega) (by omega)]at h1 h2
 exact⟨by omega,by omega⟩
theorem Qf0(l:RkL)(hn:d.ps.n<=1000)(hl:l.n<=1000)(hw:1<=d.wide/\d.wide<=1000):J1 (rsJ d l) (λk=>k<=l.n/\∀ i,i<k->vI d (l.get i)) (λk=>l.n-k) (rsR d l) 8 QMq [] (mkF prog XZ) (λ_=>hnd (mkF prog XZ) 0) (QJ f27 0):=by
 refine⟨λk g hk=>?_⟩;obtain⟨hk,hin⟩:=hk;have et:=QiQ d l k g;refine Qe et ?_;clear et;have bad:∀(h:k<l.n),VQ d l k=true->rsR d l k .ret QDJ:=λh hb=>.inl ⟨rfl,by rw[(JU (p:=VQ d l) h).1 hb];rfl,rfl⟩
 refine QE (λb0=>?_) (λb0=>?_);have h:k<l.n:=by have:=qdt b0;omega
 have hf:=JU (p:=VQ d l) h;have hw1:i64.wrap ((k:Int)+1)=((k+1:Nat):Int):=VJ h hl
 iterate 3 (refine QG ?_ ?_;rotate_left)
 refine QE ?_ ?_<;>intro b1
 .exact⟨_,bad h (by unfold VQ;rw[show(!rsA d (l.get k))=true from b1];rfl),rfl,rfl,_,QGu,⟨rfl,trivial⟩⟩
 have c1:rsA d (l.get k)=true:=by simpa using (show(!rsA d (l.get k))=false from b1)
 iterate 6 (refine QG ?_ ?_;rotate_left)
 refine QE ?_ ?_<;>intro b2
 .exact⟨_,bad h (by unfold VQ;rw[c1,show(!rsC d (l.get k))=true from b2];rfl),rfl,rfl,_,QGu,⟨rfl,trivial⟩⟩
 have c2:rsC d (l.get k)=true:=by simpa using (show(!rsC d (l.get k))=false from b2)
 have hx:vI d (l.get k):=QPs hn c1 c2;have hok:QAU d ⟨k,l.get⟩ (l.get k)=true:=QJF.2 ⟨⟨hn,by show k<=1000;omega,hw⟩,hx,hin⟩
 iterate 4 (refine QG ?_ ?_;rotate_left)
 refine QE ?_ ?_<;>intro b3
 .exact⟨_,bad h (by unfold VQ;rw[c1,c2,show(!rmV d ⟨k,l.get⟩ (l.get k))=true from b3];rfl),rfl,rfl,_,QGu,⟨rfl,trivial⟩⟩
 refine⟨k+1,⟨h,λi hi=>(Nat.lt_succ_iff_lt_or_eq.1 hi).elim (hin i) (λe=>e ▸ hx)⟩,by show l.n-(k+1)<l.n-k;omega,λe J hr=>by unfold rsR at hr ⊢;rw[hf.2 (by unfold VQ;rw[c1,c2,show(!rmV d ⟨k,l.get⟩ (l.get k))=false from b3];rfl)];exact hr,rfl,rfl,_,QWc d l k (k+1),?_⟩
 rotate_left
 .have h:l.n<=k:=by have:=qdf b0;omega
  exact⟨_,.inr ⟨rfl,by rw[show l.n-k=0 by omega];rfl,rfl⟩,rfl,rfl,_,QUo,trivial⟩
 all_goals first|((with_reducible show _=true);(first|rfl|(simp;done)|exact Bool.and_eq_true_iff.2 ⟨by simp;omega,hok⟩|(simp;omega)))|(repeat' first|with_reducible refine QN ?_ ?_|exact tv|with_reducible exact qRr|exact hw1|exact rfl|refine aI ?_ ?_)
def rsX(l:RkL):List (Prop×Ex×JSt):=[((QR (VQ d l) l.n 0).isNone=false,.ret,QDJ),((QR (VQ d l) l.n 0).isNone=true,.exit 0,QJ9)]
theorem QfL(l:RkL)(hn:d.ps.n<=1000)(hl:l.n<=1000)(hw:1<=d.wide/\d.wide<=1000)(G:Ctx)(hrd:G.rd=none)(hG:G.n=8):Q1 (mkF prog XZ) G { hnd (mkF prog XZ) 1 with loop:=λ_=>KJ 8 [] (rsJ d l (0:Nat)) (rsX d l) } (Qk f27):=by
 refine Kk (body:=QJ f27 0) (Kl QC5) hrd (by kernel_rfl) ?_
 refine V7 (n0:=8) (Kl QC5) (by omega) (λs hs=>Qw (Kl QC5) 0 G _ hrd) (λs hs=>(by decide:8<=80)) ?_ (Qf0 d l hn hl hw) (s0:=0) ⟨Nat.zero_le _,λi hi=>absurd hi (Nat.not_lt_zero i)⟩ ?_
 .rintro s e J (⟨_,_,rfl⟩|⟨_,_,rfl⟩)<;>exact(by decide:8<=80)
 .rintro e J (⟨rfl,h,rfl⟩|⟨rfl,h,rfl⟩)
  .exact⟨_,qmc,h,rfl,rfl⟩
  .exact⟨_,List.mem_cons_of_mem _ qmc,h,rfl,rfl⟩
def QAQ:WF (Puz×RkL×Unit):=λ|(d,(l,_))=>(decide (d.ps.n<=1000/\l.n<=1000/\1<=d.wide/\d.wide<=1000),.bool false (Vn d l),[])
def QKv:FC:=wFC QAQ
theorem Qhw(l:RkL):Kf (mkF prog XZ) { hnd (mkF prog XZ) 1 with loop:=λ_=>KJ 8 [] (rsJ d l (0:Nat)) (rsX d l) } f27 (QX.vals 0 ((d,l,()):Puz×RkL × Unit)) (QX.blks 0 ((d,l,()):Puz×RkL×Unit)) 8 = .br ((l.1:Int) != (d.ps.n:Int)) (.leaf (.bool true false) ([])) (.ak ([0=0,l.1=l.1,cO=cO,0=0,0=0,(0:Int)=0]++waa d++([cO=cO]++wad d++[l.1<=l.1,QB 2 l.1 (λi=>QA.enc ((d,l,()).snd.fst.2 i)) λi=>QA.enc (l.2 i)])) (.both (.asm ((QR (VQ d l) l.1 0).isNone=false) (.all (λ(g0:Nat->Value)=>.leaf (.bool false false) ([])))) (.asm ((QR (VQ d l) l.1 0).isNone=true) (.all (λ(g1:Nat->Value)=>.leaf (.bool true true) ([])))))):=by kernel_rfl
theorem QfA:JP (mkF prog XZ) (Qk f27) 8 QAQ (λx_=>{ hnd (mkF prog XZ) 1 with loop:=λ_=>KJ 8 [] (rsJ x_.1 x_.2.1 (0:Nat)) (rsX x_.1 x_.2.1) }):=by
 refine⟨?_⟩;rintro⟨d,⟨l,⟨⟩⟩⟩ hp G h1 h2;exact QfL d l (qdt hp).1 (qdt hp).2.1 (qdt hp).2.2 G h1 h2
theorem QaB:JN (mkF prog XZ) f27 8 QAQ (λx_=>{ hnd (mkF prog XZ) 1 with loop:=λ_=>KJ 8 [] (rsJ x_.1 x_.2.1 (0:Nat)) (rsX x_.1 x_.2.1) }):=by
 refine⟨?_⟩;rintro⟨d,⟨l,⟨⟩⟩⟩ hp;refine⟨⟨rfl,by simp[QAQ],rfl⟩,⟨?_⟩⟩
 rw[Qhw d l];simp only[QAQ]at hp;refine QE ?_ ?_<;>intro b0
 .exact KY (show false=Vn d l by unfold Vn;rw[b0];rfl) rfl
 iterate 21 refine Q2 (by first|exact tv|with_reducible exact qRr|exact rfl) ?_
 refine Km ?_ ?_;refine Qh λa0=>?_;refine Qj λg0=>?_
 .exact KY (show false=Vn d l by unfold Vn;rw[b0,a0];rfl) rfl
 refine Qh λa1=>?_;refine Qj λg1=>?_
 .exact KY (show true=Vn d l by unfold Vn;rw[b0,a1];rfl) rfl
theorem QYY:QQ prog 27 QKv:=
 JW (Kl QC5) func27 (by kernel_rfl) (by kernel_rfl) (by decide) QfA QaB
def QT7(x y:Lay):Bool:=decide (x.piece<y.piece)||(x.piece==y.piece&&decide (x.turn<y.turn))
