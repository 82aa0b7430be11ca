/- - -/
import Derived.Test.YtekbmehgcofnkaaGreatMzv
import Derived.Test.YtekbmehgcofnkaaGreatMzp
open Go.Proofs.Tryz
open Go.IntKind (i64)
set_option maxRecDepth 100000
namespace Go.Proofs.YtekbmehgcofnkaaGreat
open Go.SX Go.SX.Told
variable (d:Puz)(l:Rw Lay)(x:Lay)(i:Nat)(C:Int)(k:Nat)(R:Int)(q:Nat->Bool)(g:Nat->Value)
def rmB:List (Nat×Blk):=[(16,.cells 0 49 [vi x.piece,vi x.turn]),(8,.cells 0 28 (KS d))]++Qi.blk 0 d.ps++Qi.blk 1 l
def rmS:List (Nat×AV):=[(1,.slz 1 0 l.n (.of 0)),(3,.ptr 8 0 0),(5,.ptr 16 0 0)]
def QEd:JSt:=⟨103,rmS l++[(7,.int false .i64 i)],rmB d l x,40⟩
def QKD:JSt:=⟨103,rmS l,rmB d l x,40⟩
def Ho(n:Nat):JSt:=⟨103,[(6,.bool false false)],[],n⟩
def QOO(R C:Int):List (Nat×AV):=rmS l++[(8,.int false .i64 l.n),(9,.int false .i64 R),(10,.int false .i64 C)]
def Yc(R C:Int)(q:Nat->Bool)(k:Nat):JSt:=⟨103,QOO l R C++[(11,.ptr 264 0 0),(12,.int true .i64 k)],(264,.cells 1 59 [.bool false (q 0),.bool false (q 1),.bool false (q 2),.bool false (q 3)])::rmB d l x,288⟩
def QHm(R C:Int):JSt:=⟨103,QOO l R C,rmB d l x,288⟩
def QR5:Ex->List Nat
 | .normal=>[1,3,5,7]
 | .exit _=>[1,3,5]
 | .ret=>[6]
def GN:Ex->List Nat
 | .normal=>[1,3,5,8,9,10,11,12]
 | .exit _=>[1,3,5,8,9,10]
 | .ret=>[6]
noncomputable abbrev QGZ:Nat×Blk:=
  (8,.cells 0 28 (waf d))
noncomputable abbrev QIV:Nat×Blk:=
  (16,.cells 0 49 [vi x.piece,vi x.turn])
abbrev QGk:List CK:=
  (wae)
noncomputable abbrev QHV(i:Nat)(l:Rw Lay)(x:Lay):List (Nat×Blk):=
  [(1,.frz kB l.n λi=>QA.enc (l.get i)),(QGZ d),(QIV x),(0,.frz QGk d.ps.n λi=>QA.enc (d.ps.get i))]
theorem QhE :exec (mkF prog Kg) (hnd (mkF prog Kg) 0) (QH f71 0) (JSt.inst (QEd d l x i) g) (Q9 [] QR5) = .br (decide ((i:Int)<(l.n:Int))) (.need (decide ((0:Int)<=(i:Int)/\(i:Int)<(l.n:Int))&&decide (l.n<=l.n)) (.need (decide (i<l.n)) (.br ((l.get i).piece==x.piece) (.leaf (.tup [.nili,.ptr 103 0 0,.bool true false]) ([])) (.leaf (.tup [.nilp,.ptr 103 0 0,.slz 1 0 l.n cO,.ptr 8 0 0,.ptr 16 0 0,vi (i64.wrap ((i:Int)+1))]) ((QHV d i l x)))))) (.leaf (.tup [.ptr 0 0 0,.ptr 103 0 0,.slz 1 0 l.n cO,.ptr 8 0 0,.ptr 16 0 0]) ((QHV d i l x))):=by kernel_rfl
theorem Qfs :QF 8 [AV.bool true false] ([]) (Ho 40)=( some [false=false]):=by kernel_rfl
abbrev jZ:List Prop:=
  [0=0,l.n=l.n,cO=cO,0=0,0=0,0=0]
theorem QYu(i i':Nat):QF 8 [.slz 1 0 l.n cO,.ptr 8 0 0,.ptr 16 0 0,vi (i64.wrap ((i:Int)+1))] ((QHV d i l x)) (QEd d l x i')=(some ((jZ l)++([0=0,i64.wrap ((i:Int)+1)=(i':Int),x.piece=x.piece,x.turn=x.turn]++waa d++([cO=cO]++wad d++[l.n<=l.n,QB 2 l.n (λi=>QA.enc (l.get i)) λi=>QA.enc (l.get i)])))):=by kernel_rfl
noncomputable abbrev QHL:List (Nat×Blk):=
  [(1,.frz kB l.n λi=>QA.enc (l.get i)),(QGZ d),(QIV x),(0,.frz QGk d.ps.n λi=>QA.enc (d.ps.get i))]
abbrev Hc:List Prop:=
  ([x.turn=x.turn]++waa d++([cO=cO]++wad d++[l.n<=l.n,QB 2 l.n (λi=>QA.enc (l.get i)) λi=>QA.enc (l.get i)]))
theorem QWN :QF 8 [.slz 1 0 l.n cO,.ptr 8 0 0,.ptr 16 0 0] ((QHL d l x)) (QKD d l x)=(some ((jZ l)++[0=0,x.piece=x.piece]++(Hc d l x))):=by kernel_rfl
noncomputable abbrev waN(C:Int)(R:Int)(l:Rw Lay):List AV:=[.slz 1 0 l.n cO,.ptr 8 0 0,.ptr 16 0 0,vi (l.n:Int),vi R,vi C]
noncomputable abbrev QNt(l:Rw Lay):List AV:=
  (.nilp::.ptr 103 0 0::List.append (waN C R l) ([.ptr 264 0 0,vj 1]))
noncomputable abbrev YX(x:Lay):List (Nat×Blk):=
  [(1,.frz kB l.n λi=>QA.enc (l.get i)),(QGZ d),(QIV x),(264,.cells 1 59 [.bool false (q 0),.bool false (q 1),.bool false (q 2),.bool false (q
  3)]),(0,.frz QGk d.ps.n λi=>QA.enc (d.ps.get i))]
theorem Qg5(R C:Int)(q:Nat->Bool)(g:Nat->Value):exec (mkF prog Kg) (hnd (mkF prog Kg) 0) (QH f71 1) (JSt.inst (Yc d l x R C q 0) g) (Q9 [] GN) = .br (q (0)) (.need (decide (d.ps.n<=d.ps.n)&&(true&&(true&&true))&&decide ((0:Int)<=x.piece/\x.piece<(d.ps.n:Int)/\(0:Int)<=x.turn/\x.turn<4/\(0:Int)<=0/\(0:Int)<4)) (.br ((K1 (d.ps.get x.piece.toNat) (onS x (0:Int)).toNat).kind != 0) (.leaf (.tup [.nili,.ptr 103 0 0,.bool true false]) ([])) (.leaf (.tup (QNt C R l)) ((YX d l q x))))) (.leaf (.tup (QNt C R l)) ((YX d l q x))):=by kernel_rfl
theorem QDD :QF 8 [AV.bool true false] ([]) (Ho 288)=( some [false=false]):=by kernel_rfl
abbrev QFA(l:Rw Lay):List Prop:=
  [0=0,(l.n:Int)=(l.n:Int),R=R,C=C,0=0,0=0]
abbrev QEe(x:Lay):List Prop:=
  [q 0=q 0,q 1=q 1,q 2=q 2,q 3=q 3,x.piece=x.piece]
theorem QOZ(R C:Int)(q:Nat->Bool):QF 8 (List.append (waN C R l) ([.ptr 264 0 0,vj 1])) ((YX d l q x)) (Yc d l x R C q 1)=(some ((jZ l)++(QFA C R l)++[(1:Int)=1]++(QEe q x)++(Hc d l x))):=by kernel_rfl
noncomputable abbrev QO4(l:Rw Lay):List AV:=
  (.nilp::.ptr 103 0 0::List.append (waN C R l) ([.ptr 264 0 0,vj 2]))
theorem Qhl(R C:Int)(q:Nat->Bool)(g:Nat->Value):exec (mkF prog Kg) (hnd (mkF prog Kg) 0) (QH f71 1) (JSt.inst (Yc d l x R C q 1) g) (Q9 [] GN) = .br (q (1)) (.need (decide (d.ps.n<=d.ps.n)&&(true&&(true&&true))&&decide ((0:Int)<=x.piece/\x.piece<(d.ps.n:Int)/\(0:Int)<=x.turn/\x.turn<4/\(0:Int)<=1/\(1:Int)<4)) (.br ((K1 (d.ps.get x.piece.toNat) (onS x (1:Int)).toNat).kind != 0) (.leaf (.tup [.nili,.ptr 103 0 0,.bool true false]) ([])) (.leaf (.tup (QO4 C R l)) ((YX d l q x))))) (.leaf (.tup (QO4 C R l)) ((YX d l q x))):=by kernel_rfl
theorem QMx(R C:Int)(q:Nat->Bool):QF 8 (List.append (waN C R l) ([.ptr 264 0 0,vj 2])) ((YX d l q x)) (Yc d l x R C q 2)=(some ((jZ l)++(QFA C R l)++[(2:Int)=2]++(QEe q x)++(Hc d l x))):=by kernel_rfl
noncomputable abbrev QN7(l:Rw Lay):List AV:=
  (.nilp::.ptr 103 0 0::List.append (waN C R l) ([.ptr 264 0 0,vj 3]))
theorem QXw(R C:Int)(q:Nat->Bool)(g:Nat->Value):exec (mkF prog Kg) (hnd (mkF prog Kg) 0) (QH f71 1) (JSt.inst (Yc d l x R C q 2) g) (Q9 [] GN) = .br (q (2)) (.need (decide (d.ps.n<=d.ps.n)&&(true&&(true&&true))&&decide ((0:Int)<=x.piece/\x.piece<(d.ps.n:Int)/\(0:Int)<=x.turn/\x.turn<4/\(0:Int)<=2/\(2:Int)<4)) (.br ((K1 (d.ps.get x.piece.toNat) (onS x (2:Int)).toNat).kind != 0) (.leaf (.tup [.nili,.ptr 103 0 0,.bool true false]) ([])) (.leaf (.tup (QN7 C R l)) ((YX d l q x))))) (.leaf (.tup (QN7 C R l)) ((YX d l q x))):=by kernel_rfl
theorem QNM(R C:Int)(q:Nat->Bool):QF 8 (List.append (waN C R l) ([.ptr 264 0 0,vj 3])) ((YX d l q x)) (Yc d l x R C q 3)=(some ((jZ l)++(QFA C R l)++[(3:Int)=3]++(QEe q x)++(Hc d l x))):=by kernel_rfl
noncomputable abbrev QMA(l:Rw Lay):List AV:=
  (.nilp::.ptr 103 0 0::List.append (waN C R l) ([.ptr 264 0 0,vj 4]))
theorem QZa(R C:Int)(q:Nat->Bool)(g:Nat->Value):exec (mkF prog Kg) (hnd (mkF prog Kg) 0) (QH f71 1) (JSt.inst (Yc d l x R C q 3) g) (Q9 [] GN) = .br (q (3)) (.need (decide (d.ps.n<=d.ps.n)&&(true&&(true&&true))&&decide ((0:Int)<=x.piece/\x.piece<(d.ps.n:Int)/\(0:Int)<=x.turn/\x.turn<4/\(0:Int)<=3/\(3:Int)<4)) (.br ((K1 (d.ps.get x.piece.toNat) (onS x (3:Int)).toNat).kind != 0) (.leaf (.tup [.nili,.ptr 103 0 0,.bool true false]) ([])) (.leaf (.tup (QMA C R l)) ((YX d l q x))))) (.leaf (.tup (QMA C R l)) ((YX d l q x))):=by kernel_rfl
theorem QUw(R C:Int)(q:Nat->Bool):QF 8 (List.append (waN C R l) ([.ptr 264 0 0,vj 4])) ((YX d l q x)) (Yc d l x R C q 4)=(some ((jZ l)++(QFA C R l)++[(4:Int)=4]++(QEe q x)++(Hc d l x))):=by kernel_rfl
theorem QiK(R C:Int)(q:Nat->Bool)(g:Nat->Value):exec (mkF prog Kg) (hnd (mkF prog Kg) 0) (QH f71 1) (JSt.inst (Yc d l x R C q 4) g) (Q9 [] GN) = .leaf (.tup (.ptr 2 0 0::.ptr 103 0 0::waN C R l)) ((QHL d l x)):=by kernel_rfl
theorem Qg6(R C:Int)(q:Nat->Bool):QF 8 (waN C R l) ((QHL d l x)) (QHm d l x R C)=(some ((jZ l) ++ [0=0,(l.n:Int)=(l.n:Int),R=R,C=C,x.piece=x.piece]++(Hc d l x))):=by kernel_rfl
def rmQ:Bool:=(l.get i).piece==x.piece
def rmW(n:Nat):Nat->Bool
 | 0=>i64.wrap ((n:Int).tdiv d.wide)==0
 | 1=>(n:Int).tmod d.wide==i64.wrap (d.wide-1)
 | 2=>i64.wrap ((n:Int).tdiv d.wide)==i64.wrap (d.high-1)
 | _=>(n:Int).tmod d.wide==0
def JR(k:Nat):Bool:=q k&&((K1 (d.ps.get x.piece.toNat) (onS x k).toNat).kind != 0)
def QdQ:List (Prop×Ex×JSt):=[((QP (rmQ l x) l.n 0).isNone=false,.ret,Ho 40),((QP (rmQ l x) l.n 0).isNone=true,.exit 0,QKD d l x)]
def Qcf(R C:Int)(q:Nat->Bool):List (Prop×Ex×JSt):=[((QP (JR d x q) 4 0).isNone=false,.ret,Ho 288),((QP (JR d x q) 4 0).isNone=true,.exit 2,QHm d l x R C)]
abbrev QPh:St->(Ex->St->QC)->QC:=KC 8 [] (QEd d l x (0:Nat)) (QdQ d l x)
abbrev QP8:St->(Ex->St->QC)->QC:=KC 8 [] (Yc d l x (i64.wrap ((l.n:Int).tdiv d.wide)) ((l.n:Int).tmod d.wide) (rmW d l.n) 0) (Qcf d l x (i64.wrap ((l.n:Int).tdiv d.wide)) ((l.n:Int).tmod d.wide) (rmW d l.n))
abbrev rmL:Code->St->(Ex->St->QC)->QC:=QMH [(2,QPh d l x),(10,QP8 d l x)]
def sdR(y:Lay)(s:Int):Edge:=K1 (d.ps.get y.piece.toNat) (onS y s).toNat
def rmV:Bool:=(QP (rmQ l x) l.n 0).isNone&&((QP (JR d x (rmW d l.n)) 4 0).isNone&&((!decide (i64.wrap ((l.n:Int).tdiv d.wide)>0) || !((Kq d.pK (sdR d (l.get (i64.wrap ((l.n:Int)-d.wide)).toNat) 2) (sdR d x 0)).1==0))&&((l.n:Int).tmod d.wide==0||(Kq d.pK (sdR d (l.get (i64.wrap ((l.n:Int)-1)).toNat) 1) (sdR d x 3)).1 != 0)))
def QEb:Bool:=decide (0<=x.piece/\x.piece<d.ps.n/\0<=x.turn/\x.turn<4)
def QBl:Bool:=decide (d.ps.n<=1000/\l.n<=1000/\1<=d.wide/\d.wide<=1000)&&(QEb d x&&(List.range l.n).all λi=>QEb d (l.get i))
def QOp(e:Ex)(J:JSt):Prop:=(e = .ret/\(QP (rmQ l x) (l.n-k) k).isNone=false/\J=Ho 40)∨(e = .exit 0/\(QP (rmQ l x) (l.n-k) k).isNone=true/\J=QKD d l x)
theorem Qbo(hl:l.n<=1000):JP (QEd d l x) (λk=>k<=l.n) (λk=>l.n-k) (QOp d l x) 8 QR5 [] (mkF prog Kg) (λ_=>hnd (mkF prog Kg) 0) (QH f71 0):=by
 refine⟨λk g hk=>Qf (QhE d l x k g) ?_⟩;refine QE ?_ ?_<;>intro h
 .have h:k<l.n:=by have:=qdt h;omega
  have hf:=JK (p:=rmQ l x) h;have hw:i64.wrap ((k:Int)+1)=((k+1:Nat):Int):=Ja h hl
  repeat' refine QG (by simp;omega) ?_
  refine QE ?_ ?_<;>intro hb
  .exact⟨_,.inl ⟨rfl,by rw[hf.1 hb];rfl,rfl⟩,rfl,rfl,_,Qfs,⟨rfl,trivial⟩⟩
  .refine⟨k+1,by omega,by show l.n-(k+1)<l.n-k;omega,λe J h=>by unfold QOp at h ⊢;rw[hf.2 hb];exact h,rfl,rfl,_,QYu d l x k (k+1),?_⟩
   repeat' first|with_reducible refine QL ?_ ?_|exact tv|exact qRr|exact hw|refine aI ?_ ?_
 .have h:l.n<=k:=by have:=qdf h;omega
  refine⟨_,.inr ⟨rfl,by rw[show l.n-k=0 by omega];rfl,rfl⟩,rfl,rfl,_,QWN d l x,?_⟩
  repeat' first|with_reducible refine QL ?_ ?_|exact tv|exact qRr|refine aI ?_ ?_
def WN(R C:Int)(q:Nat->Bool)(k:Nat)(e:Ex)(J:JSt):Prop:=(e = .ret/\(QP (JR d x q) (4-k) k).isNone=false/\J=Ho 288)∨(e = .exit 2/\(QP (JR d x q) (4-k) k).isNone=true/\J=QHm d l x R C)
structure vf (d:Puz) (x:Lay):Prop where
 p:0<=x.piece/\x.piece<d.ps.n
 t:0<=x.turn/\x.turn<4
theorem QHl{d:Puz}{x:Lay}:QEb d x=true↔vf d x:=by
 unfold QEb;rw[qdE];exact⟨λh=>⟨⟨h.1,h.2.1⟩,h.2.2⟩,λh=>⟨h.p.1,h.p.2,h.t⟩⟩
theorem Qbi(R C:Int)(q:Nat->Bool)(hx:vf d x):JP (Yc d l x R C q) (λk=>k<=4) (λk=>4-k) (WN d l x R C q) 8 GN [] (mkF prog Kg) (λ_=>hnd (mkF prog Kg) 0) (QH f71 1):=by
 have h1:=hx.p;have h2:=hx.t;refine⟨λk g hk=>?_⟩
 match k,hk with
 | 0,_=>
  have et:=Qg5 d l x R C q g;refine Qf et ?_;clear et;have hf:=JK (p:=JR d x q) (show 0<4 by decide)
  refine QE (λb=>QG (by simp;omega) (QE (λb1=>?_) (λb1=>?_))) (λb=>?_)
  .exact⟨_,.inl ⟨rfl,by rw[hf.1 (by unfold JR;rw[b];exact b1)];rfl,rfl⟩,rfl,rfl,_,QDD,⟨rfl,trivial⟩⟩
  .refine⟨1,by decide,by decide,λe J h=>by unfold WN at h ⊢;rw[hf.2 (by unfold JR;rw[b];exact b1)];exact h,rfl,rfl,_,QOZ d l x R C q,?_⟩
   repeat' first|with_reducible refine QL ?_ ?_|exact tv|exact qRr|exact rfl|refine aI ?_ ?_
  .refine⟨1,by decide,by decide,λe J h=>by unfold WN at h ⊢;rw[hf.2 (by unfold JR;rw[b];rfl)];exact h,rfl,rfl,_,QOZ d l x R C q,?_⟩
   repeat' first|with_reducible refine QL ?_ ?_|exact tv|exact qRr|exact rfl|refine aI ?_ ?_
 | 1,_=>
  have et:=Qhl d l x R C q g;refine Qf et ?_;clear et;have hf:=JK (p:=JR d x q) (show 1<4 by decide)
  refine QE (λb=>QG (by simp;omega) (QE (λb1=>?_) (λb1=>?_))) (λb=>?_)
  .exact⟨_,.inl ⟨rfl,by rw[hf.1 (by unfold JR;rw[b];exact b1)];rfl,rfl⟩,rfl,rfl,_,QDD,⟨rfl,trivial⟩⟩
  .refine⟨2,by decide,by decide,λe J h=>by unfold WN at h ⊢;rw[hf.2 (by unfold JR;rw[b];exact b1)];exact h,rfl,rfl,_,QMx d l x R C q,?_⟩
   repeat' first|with_reducible refine QL ?_ ?_|exact tv|exact qRr|exact rfl|refine aI ?_ ?_
  .refine⟨2,by decide,by decide,λe J h=>by unfold WN at h ⊢;rw[hf.2 (by unfold JR;rw[b];rfl)];exact h,rfl,rfl,_,QMx d l x R C q,?_⟩
   repeat' first|with_reducible refine QL ?_ ?_|exact tv|exact qRr|exact rfl|refine aI ?_ ?_
 | 2,_=>
  have et:=QXw d l x R C q g;refine Qf et ?_;clear et;have hf:=JK (p:=JR d x q) (show 2<4 by decide)
  refine QE (λb=>QG (by simp;omega) (QE (λb1=>?_) (λb1=>?_))) (λb=>?_)
  .exact⟨_,.inl ⟨rfl,by rw[hf.1 (by unfold JR;rw[b];exact b1)];rfl,rfl⟩,rfl,rfl,_,QDD,⟨rfl,trivial⟩⟩
  .refine⟨3,by decide,by decide,λe J h=>by unfold WN at h ⊢;rw[hf.2 (by unfold JR;rw[b];exact b1)];exact h,rfl,rfl,_,QNM d l x R C q,?_⟩
   repeat' first|with_reducible refine QL ?_ ?_|exact tv|exact qRr|exact rfl|refine aI ?_ ?_
  .refine⟨3,by decide,by decide,λe J h=>by unfold WN at h ⊢;rw[hf.2 (by unfold JR;rw[b];rfl)];exact h,rfl,rfl,_,QNM d l x R C q,?_⟩
   repeat' first|with_reducible refine QL ?_ ?_|exact tv|exact qRr|exact rfl|refine aI ?_ ?_
 | 3,_=>
  have et:=QZa d l x R C q g;refine Qf et ?_;clear et;have hf:=JK (p:=JR d x q) (show 3<4 by decide)
  refine QE (λb=>QG (by simp;omega) (QE (λb1=>?_) (λb1=>?_))) (λb=>?_)
  .exact⟨_,.inl ⟨rfl,by rw[hf.1 (by unfold JR;rw[b];exact b1)];rfl,rfl⟩,rfl,rfl,_,QDD,⟨rfl,trivial⟩⟩
  .refine⟨4,by decide,by decide,λe J h=>by unfold WN at h ⊢;rw[hf.2 (by unfold JR;rw[b];exact b1)];exact h,rfl,rfl,_,QUw d l x R C q,?_⟩
   repeat' first|with_reducible refine QL ?_ ?_|exact tv|exact qRr|exact rfl|refine aI ?_ ?_
  .refine⟨4,by decide,by decide,λe J h=>by unfold WN at h ⊢;rw[hf.2 (by unfold JR;rw[b];rfl)];exact h,rfl,rfl,_,QUw d l x R C q,?_⟩
   repeat' first|with_reducible refine QL ?_ ?_|exact tv|exact qRr|exact rfl|refine aI ?_ ?_
 | 4,_=>
  have et:=QiK d l x R C q g;refine Qf et ?_;clear et;refine⟨_,.inr ⟨rfl,rfl,rfl⟩,rfl,rfl,_,Qg6 d l x R C q,?_⟩
  repeat' first|with_reducible refine QL ?_ ?_|exact tv|exact qRr|exact rfl|refine aI ?_ ?_
 | k+5,hk=>exact absurd hk (by omega)
structure QOA (d:Puz) (l:Rw Lay) (x:Lay):Prop where
 n:d.ps.n<=1000/\l.n<=1000/\1<=d.wide/\d.wide<=1000
 x:vf d x
 l:∀ i,i<l.n->vf d (l.get i)
theorem QI4{d:Puz}{l:Rw Lay}{x:Lay}:QBl d l x=true↔QOA d l x:=by
 unfold QBl;rw[qbA,qbA,qdE,QHl,List.all_eq_true];constructor
 .rintro⟨h1,h2,h3⟩;exact⟨h1,h2,λi hi=>QHl.1 (h3 i (List.mem_range.2 hi))⟩
 .intro h;exact⟨h.n,h.x,λi hi=>QHl.2 (h.l i (List.mem_range.1 hi))⟩
theorem Qb5{d:Puz}{l:Rw Lay}{x:Lay}(ho:QOA d l x)(G:Ctx)(hrd:G.rd=none)(hG:G.n=8):Qw (mkF prog Kg) G { hnd (mkF prog Kg) 1 with loop:=rmL d l x } (Qk f71):=by
 refine QTq (KF Yk) hrd λc hc=>?_;have e:K5 (Qk f71)=[.loop (QH f71 0),.loop (QH f71 1)]:=by kernel_rfl
 rw[e]at hc;simp only[List.mem_cons,List.not_mem_nil,or_false]at hc;rcases hc with rfl|rfl
 .have e1:rmL d l x (.loop (QH f71 0))=QPh d l x:=by kernel_rfl
  show Jz _ G _ (rmL d l x (.loop (QH f71 0)));rw[e1];refine Jq (n0:=8) (KF Yk) (by omega) (λs hs=>Qv (KF Yk) 0 G _ hrd) (λs hs=>(by decide:8<=40)) ?_ (Qbo d l x ho.n.2.1) (s0:=0) (Nat.zero_le _) ?_
  .rintro s e J (⟨_,_,rfl⟩|⟨_,_,rfl⟩)<;>exact(by decide:8<=40)
  .rintro e J (⟨rfl,h,rfl⟩|⟨rfl,h,rfl⟩)
   .exact⟨_,qmc,h,rfl,rfl⟩
   .exact⟨_,List.mem_cons_of_mem _ qmc,h,rfl,rfl⟩
 .have e1:rmL d l x (.loop (QH f71 1))=QP8 d l x:=by kernel_rfl
  show Jz _ G _ (rmL d l x (.loop (QH f71 1)));rw[e1];refine Jq (n0:=8) (KF Yk) (by omega) (λs hs=>Qv (KF Yk) 0 G _ hrd) (λs hs=>(by decide:8<=288)) ?_ (Qbi d l x _ _ (rmW d l.n) ho.x) (s0:=0) (Nat.zero_le _) ?_
  .rintro s e J (⟨_,_,rfl⟩|⟨_,_,rfl⟩)<;>exact(by decide:8<=288)
  .rintro e J (⟨rfl,h,rfl⟩|⟨rfl,h,rfl⟩)
   .exact⟨_,qmc,h,rfl,rfl⟩
   .exact⟨_,List.mem_cons_of_mem _ qmc,h,rfl,rfl⟩
def jf:WF (Puz×(Rw Lay)×Lay×Unit):=λ|(d,(l,(x,_)))=>(QBl d l x,.bool false (rmV d l x),[])
def QNo:FC:=wFC jf
theorem Qim(l:(Rw Lay))(x:Lay):Kd (mkF prog Kg) { hnd (mkF prog Kg) 1 with loop:=rmL d l x } f71 (Qb.vals 0 ((d,l,x,()):Puz×(Rw Lay)×Lay×Unit)) (Qb.blks 0 ((d,l,x, ()):Puz×(Rw Lay)×Lay×Unit)) 8 = .ak ([0=0,l.n=l.n,cO=cO,0=0,0=0,0=0,0=0,(0:Int)=0,x.piece=x.piece,x.turn=x.turn]++waa d++([cO=cO]++wad d++[l.n<=l.n,QB 2 l.n (λi=>QA.enc (l.get i)) λi=>QA.enc (l.get i)])) (.both (.asm ((QP (rmQ l x) l.n 0).isNone=false) (.all (λ(g0:Nat->Value)=>.leaf (.bool false false) ([])))) (.asm ((QP (rmQ l x) l.n 0).isNone=true) (.all (λ(g1:Nat->Value)=>.need (!decide (d.wide=0)) (.need (!decide (d.wide=0)) (.ak ([0=0,l.n=l.n,cO=cO,0=0,0=0,0=0,0=0,(l.n:Int)=(l.n:Int),i64.wrap ((l.n:Int).tdiv d.wide)=i64.wrap ((l.n:Int).tdiv d.wide),(l.n:Int).tmod d.wide=(l.n:Int).tmod d.wide,0=0,0=0,(0:Int)=0,(i64.wrap ((l.n:Int).tdiv d.wide)==0)=rmW d l.n 0,((l.n:Int).tmod d.wide==i64.wrap (d.wide-1))=rmW d l.n 1,(i64.wrap ((l.n:Int).tdiv d.wide)==i64.wrap (d.high-1))=rmW d l.n 2,((l.n:Int).tmod d.wide==0)=rmW d l.n 3,x.piece=x.piece,x.turn=x.turn]++waa d++([cO=cO]++wad d++[l.n<=l.n,QB 2 l.n (λi=>QA.enc (l.get i)) λi=>QA.enc (l.get i)])) (.both (.asm ((QP (JR d x (rmW d l.n)) 4 0).isNone=false) (.all (λ(g2:Nat->Value)=>.leaf (.bool false false) ([])))) (.asm ((QP (JR d x (rmW d l.n)) 4 0).isNone=true) (.all (λ(g3:Nat->Value)=>.br (decide (i64.wrap ((l.n:Int).tdiv d.wide)>0)) (.need (decide ((0:Int)<=i64.wrap ((l.n:Int)-d.wide)/\i64.wrap ((l.n:Int)-d.wide)<(l.n:Int))&&decide (l.n<=l.n)) (.need (decide ((i64.wrap ((l.n:Int)-d.wide)).toNat<l.n)) (.need (decide (d.ps.n<=d.ps.n)&&(true&&(true&&true))&&decide ((0:Int)<=(l.get (i64.wrap ((l.n:Int)-d.wide)).toNat).piece/\(l.get (i64.wrap ((l.n:Int)-d.wide)).toNat).piece<(d.ps.n:Int)/\(0:Int)<=(l.get (i64.wrap ((l.n:Int)-d.wide)).toNat).turn/\(l.get (i64.wrap ((l.n:Int)-d.wide)).toNat).turn<4/\(0:Int)<=2/\(2:Int)<4)) (.need (decide (d.ps.n<=d.ps.n)&&(true&&(true&&true))&&decide ((0:Int)<=x.piece/\x.piece<(d.ps.n:Int)/\(0:Int)<=x.turn/\x.turn<4/\(0:Int)<=0/\(0:Int)<4)) (.need (decide (d.ps.n<=d.ps.n)&&(true&&(true&&true))&&decide (d.ps.n<=1000)) (.br ((Kq d.pK (K1 (d.ps.get (l.get (i64.wrap ((l.n:Int)-d.wide)).toNat).piece.toNat) (onS (l.get (i64.wrap ((l.n:Int)-d.wide)).toNat) (2:Int)).toNat) (K1 (d.ps.get x.piece.toNat) (onS x (0:Int)).toNat)).1==0) (.leaf (.bool true false) ([])) (.br ((l.n:Int).tmod d.wide==0) (.leaf (.bool true true) ([])) (.need (decide ((0:Int)<=i64.wrap ((l.n:Int)-1)/\i64.wrap ((l.n:Int)-1)<(l.n:Int))&&decide (l.n<=l.n)) (.need (decide ((i64.wrap ((l.n:Int)-1)).toNat<l.n)) (.need (decide (d.ps.n<=d.ps.n)&&(true&&(true&&true))&&decide ((0:Int)<=(l.get (i64.wrap ((l.n:Int)-1)).toNat).piece/\(l.get (i64.wrap ((l.n:Int)-1)).toNat).piece<(d.ps.n:Int)/\(0:Int)<=(l.get (i64.wrap ((l.n:Int)-1)).toNat).turn/\(l.get (i64.wrap ((l.n:Int)-1)).toNat).turn<4/\(0:Int)<=1/\(1:Int)<4)) (.need (decide (d.ps.n<=d.ps.n)&&(true&&(true&&true))&&decide ((0:Int)<=x.piece/\x.piece<(d.ps.n:Int)/\(0:Int)<=x.turn/\x.turn<4/\(0:Int)<=3/\(3:Int)<4)) (.need (decide (d.ps.n<=d.ps.n)&&(true&&(true&&true))&&decide (d.ps.n<=1000)) (.leaf (.bool false ((Kq d.pK (K1 (d.ps.get (l.get (i64.wrap ((l.n:Int)-1)).toNat).piece.toNat) (onS (l.get (i64.wrap ((l.n:Int)-1)).toNat) (1:Int)).toNat) (K1 (d.ps.get x.piece.toNat) (onS x (3:Int)).toNat)).1 != 0)) ([])))))))))))))) (.br ((l.n:Int).tmod d.wide==0) (.leaf (.bool true true) ([])) (.need (decide ((0:Int)<=i64.wrap ((l.n:Int)-1)/\i64.wrap ((l.n:Int)-1)<(l.n:Int))&&decide (l.n<=l.n)) (.need (decide ((i64.wrap ((l.n:Int)-1)).toNat<l.n)) (.need (decide (d.ps.n<=d.ps.n)&&(true&&(true&&true))&&decide ((0:Int)<=(l.get (i64.wrap ((l.n:Int)-1)).toNat).piece/\(l.get (i64.wrap ((l.n:Int)-1)).toNat).piece<(d.ps.n:Int)/\(0:Int)<=(l.get (i64.wrap ((l.n:Int)-1)).toNat).turn/\(l.get (i64.wrap ((l.n:Int)-1)).toNat).turn<4/\(0:Int)<=1/\(1:Int)<4)) (.need (decide (d.ps.n<=d.ps.n)&&(true&&(true&&true))&&decide ((0:Int)<=x.piece/\x.piece<(d.ps.n:Int)/\(0:Int)<=x.turn/\x.turn<4/\(0:Int)<=3/\(3:Int)<4)) (.need (decide (d.ps.n<=d.ps.n)&&(true&&(true&&true))&&decide (d.ps.n<=1000)) (.leaf (.bool false ((Kq d.pK (K1 (d.ps.get (l.get (i64.wrap ((l.n:Int)-1)).toNat).piece.toNat) (onS (l.get (i64.wrap ((l.n:Int)-1)).toNat) (1:Int)).toNat) (K1 (d.ps.get x.piece.toNat) (onS x (3:Int)).toNat)).1 != 0)) ([])))))))))))))))))):=by kernel_rfl
theorem QaX:JA (mkF prog Kg) (Qk f71) 8 jf (λx_=>{ hnd (mkF prog Kg) 1 with loop:=rmL x_.1 x_.2.1 x_.2.2.1 }):=by
 refine⟨?_⟩;rintro⟨d,⟨l,⟨x,⟨⟩⟩⟩⟩ hp G h1 h2;exact Qb5 (QI4.1 hp) G h1 h2
theorem QYw:JB (mkF prog Kg) f71 8 jf (λx_=>{ hnd (mkF prog Kg) 1 with loop:=rmL x_.1 x_.2.1 x_.2.2.1 }):=by
 refine⟨?_⟩;rintro⟨d,⟨l,⟨x,⟨⟩⟩⟩⟩ hp;refine⟨⟨rfl,by simp[jf],rfl⟩,⟨?_⟩⟩
 rw[Qim d l x];simp only[jf]at hp;have ho:=QI4.1 hp;obtain⟨hn,hl,hw1,hw2⟩:=ho.n;have hx:=ho.x;have hx1:=hx.p;have hx2:=hx.t
 have r0:0<=(l.n:Int).tdiv d.wide/\(l.n:Int).tdiv d.wide<=l.n:=by
  rw[Int.tdiv_eq_ediv_of_nonneg (by omega)]
  exact⟨Int.ediv_nonneg (by omega) (by omega),Int.ediv_le_self _ (by omega)⟩
 have wr:i64.wrap ((l.n:Int).tdiv d.wide)=(l.n:Int).tdiv d.wide:=w64 (by omega) (by omega)
 have wu:i64.wrap ((l.n:Int)-d.wide)=(l.n:Int)-d.wide:=w64 (by omega) (by omega)
 have wl:i64.wrap ((l.n:Int)-1)=(l.n:Int)-1:=w64 (by omega) (by omega)
 have fin:∀(v k:Bool),v=rmV d l x->(QC.leaf (.bool k v) []).den (q9 8 (jf (d,l,x,())).2.1 (jf (d,l,x,())).2.2):=λv k h=>KE h rfl
 iterate 25 refine Qu (by first|exact tv|with_reducible exact qRr|exact rfl) ?_
 refine Kh ?_ ?_;refine Qg λa0=>?_;refine Qj λg0=>?_
 .exact fin _ _ (by unfold rmV;rw[a0];rfl)
 refine Qg λa1=>?_;refine Qj λg1=>?_
 iterate 2 (refine QG ?_ ?_;rotate_left)
 iterate 34 refine Qu (by first|exact tv|with_reducible exact qRr|exact rfl) ?_
 refine Kh ?_ ?_;refine Qg λa2=>?_;refine Qj λg2=>?_
 .exact fin _ _ (by unfold rmV;rw[a1,a2];rfl)
 refine Qg λa3=>?_;refine Qj λg3=>?_;refine QE ?_ ?_<;>intro b0
 have hp0:d.wide<=l.n:=by
  have h:=qdt b0;rw[wr,Int.tdiv_eq_ediv_of_nonneg (by omega)]at h
  have:=(Int.le_ediv_iff_mul_le (a:=1) (b:=(l.n:Int)) (c:=d.wide) (by omega)).1 (by omega)
  omega
 have hy:=ho.l (i64.wrap ((l.n:Int)-d.wide)).toNat (by omega)
 have hy1:=hy.p;have hy2:=hy.t
 iterate 5 (refine QG ?_ ?_;rotate_left)
 refine QE ?_ ?_<;>intro b1
 .exact fin _ _ (by simp only[rmV,sdR];rw[a1,a3,b0,b1];rfl)
 refine QE ?_ ?_<;>intro b2
 .exact fin _ _ (by simp only[rmV,sdR];rw[a1,a3,b0,b1,b2];rfl)
 have hc0:1<=l.n:=by
  rcases Nat.eq_zero_or_pos l.n with h|h
  .rw[h]at b2;simp at b2
  .exact h
 have hz:=ho.l (i64.wrap ((l.n:Int)-1)).toNat (by omega)
 have hz1:=hz.p;have hz2:=hz.t
 iterate 5 (refine QG ?_ ?_;rotate_left)
 .exact fin _ _ (by simp only[rmV,sdR];rw[a1,a3,b0,b1,b2];rfl)
 refine QE ?_ ?_<;>intro b3
 .exact fin _ _ (by simp only[rmV];rw[a1,a3,b0,b3];rfl)
 have hc0:1<=l.n:=by
  rcases Nat.eq_zero_or_pos l.n with h|h
  .rw[h]at b3;simp at b3
  .exact h
 have hz:=ho.l (i64.wrap ((l.n:Int)-1)).toNat (by omega)
 have hz1:=hz.p;have hz2:=hz.t
 iterate 5 (refine QG ?_ ?_;rotate_left)
 .exact fin _ _ (by simp only[rmV,sdR];rw[a1,a3,b0,b3];rfl)
 all_goals first|rfl|(simp;omega)
theorem QWM:QR prog 71 QNo:=
 JL (KF Yk) func71 (by kernel_rfl) (by kernel_rfl) (by decide) QaX QYw
def Xb:Tab:=Qa Kg 71 QNo
theorem QDE:Qc Xb:=Yk.add QWM
end Go.Proofs.YtekbmehgcofnkaaGreat
namespace Go.SX
open Go Go.RowKit Go.Proofs.YtekbmehgcofnkaaGreat
structure RkL where
 n:Nat
 get:Nat->Lay
def RkL.rw(x:RkL):Rw Lay:=⟨x.n,x.get⟩
def lyK:List CK:=[.int .i64,.int .i64]
theorem QWa{n m:Nat}(h:m<=n)(get:Nat->List AV):(Q4 n get).flatten=(Q4 m get).flatten++((Q4 n get).drop m).flatten:=by
 have:Q4 m get=(Q4 n get).take m:=by
  unfold Q4;rw[<-List.map_take,List.take_range,Nat.min_eq_left h]
 rw[this,<-List.flatten_append,List.take_append_drop]
theorem Qcd{r r':Nat->Loc}{id k:Nat}(hr:r' k=r id){w:World}{o:Bool}{ty:TypeId}{ks:List CK}{n m:Nat}{g g':Nat->Nat->Int}(h:QM r id w (.rowz o ty ks n g))(hm:m<=n)(hg:∀ i,QV ks g' i=QV ks g i):QM r' k w (.rowz false ty ks m g'):=by
 have h:Kn r id w ty ks.length n (QV ks g):=h;show Kn r' k w ty ks.length m (QV ks g');have e:QV ks g'=QV ks g:=funext hg;rw[e];obtain⟨h1,h2,h3,h4,h5,h6⟩:=h;unfold Kn;rw[hr];refine⟨h1,h2,h3,λhn=>by have:=h4 hn;omega,λi hi=>h5 i (by omega),λhn=>?_⟩
 obtain⟨h7,rest,h8,h9⟩:=h6 hn;refine⟨by omega,AV.denL r ((Q4 n (QV ks g)).drop m).flatten++rest,?_,?_⟩
 .have hl:=YE ks.length ((Q4 n (QV ks g)).drop m) λx hx=>by
   obtain⟨i,hi,rfl⟩:=Z4 (List.mem_of_mem_drop hx);exact(h5 i hi).1
  rw[List.length_append,Ka,hl,List.length_drop,JM];have:(r id).cap-m=(n-m)+((r id).cap-n):=by omega
  rw[this,Nat.add_mul];omega
 .rw[h9,QWa hm,WX,List.append_assoc,denL_congr (p:=λ_=>false) (r:=r) (r':=r') (λ_ hf=>by cases hf) (Q4 m (QV ks g)).flatten (GD λi hi=>Xe (h5 i (by omega)).2)]
instance : Qi RkL where
  val k x := .slz k 0 x.n (.of 0)
  blk k x := [(k,.rowz false 49 lyK x.n λi=>QA.enc (x.get i))]
  dec v lk := match v with
    | .slz id 0 m (.of 0) => (match lk id with
      | some (.rowz _ ty ks n g) => (match Nat.beq ty 49 && ksB ks lyK with
        | true => some (decide (m <= n),⟨m,λi=>QA.dec (g i)⟩)
        | false => none)
      | _ => none)
    | _ => none
  ok v lk p x h hp := by
    split at h <;> (try (cases h; done))
    split at h <;> (try (cases h; done))
    rename_i id m _ o ty ks n g hlk;split at h <;> (try (cases h; done))
    rename_i hk;rw[qbA]at hk;have e1 := qnb hk.1;have e2 := YD hk.2;subst e1 e2;simp only[qsI,qpI]at h;obtain⟨rfl,rfl⟩ := h;refine⟨λk=>⟨by simp[AV.all],λq hq=>?_⟩,λr w hb=>?_⟩
    . simp only[List.mem_singleton]at hq; subst hq; exact⟨rfl,rfl,rfl⟩
    . refine⟨r id,λk r' hr=>⟨?_,λq hq=>?_⟩⟩
      . simp only[AV.den,hr]
      . simp only[List.mem_singleton]at hq; subst hq
        exact Qcd hr (hb _ _ hlk) (qdt hp) λi=>QA.ok (α := Lay) (g i)
end Go.SX
namespace Go.Proofs.YtekbmehgcofnkaaGreat
open Go.SX Go.SX.Told
variable (d:Puz)(a b:Rw Lay)(x:Lay)(k:Nat)(g:Nat->Value)
def rsB(l:RkL):List (Nat×Blk):=(8,.cells 0 28 (KS d))::Qi.blk 0 d.ps++Qi.blk 1 l
def rsJ(l:RkL)(i:Nat):JSt:=⟨58,[(1,.slz 1 0 l.n (.of 0)),(2,.ptr 8 0 0),(5,.int false .i64 i)],rsB d l,80⟩
def QE2:JSt:=⟨58,[(4,.bool false false)],[],80⟩
def QHP:JSt:=⟨58,[],[],80⟩
def QKj:Ex->List Nat
 | .normal=>[1,2,5]
 | .exit _=>[]
 | .ret=>[4]
noncomputable abbrev QM2(i:Nat)(l:RkL):List (Nat×Blk):=
  [(1,.rowz false 49 kB l.1 λi=>QA.enc (l.2 i)),(8,.cells 0 28 (wa9 d)),(0,
  .frz kE d.ps.n λi=>QA.enc (d.ps.get i))]
theorem Qjn(l:RkL)(i:Nat)(g:Nat->Value):exec (mkF prog Xb) (hnd (mkF prog Xb) 0) (QH f27 0) (JSt.inst (rsJ d l i) g) (Q9 [] QKj) = .br (decide ((i:Int)<(l.1:Int))) (.need (decide ((0:Int)<=(i:Int)/\(i:Int)<(l.1:Int))&&decide (l.1<=l.1)) (.need (decide (i<l.1)) (.need (true) (.br (!Qz (l.2 ((i:Int).toNat+0)).piece (0:Int) (i64.wrap ((d.ps.n:Int)-1))) (.leaf (.tup [.nili,.ptr 58 0 0,.bool true false]) ([])) (.need (decide ((0:Int)<=(i:Int)/\(i:Int)<(l.1:Int))&&decide (l.1<=l.1)) (.need (decide (i<l.1)) (.need (decide ((0:Int)<=(i:Int)/\(i:Int)<(l.1:Int))&&decide (l.1<=l.1)) (.need (decide (i<l.1)) (.need (decide (d.ps.n<=d.ps.n)&&(true&&true)&&true) (.need (true) (.br (!Qz (l.2 ((i:Int).toNat+0)).turn (0:Int) (i64.wrap (tnV d (l.2 ((i:Int).toNat+0)).piece-1))) (.leaf (.tup [.nili, .ptr 58 0 0,.bool true false]) ([])) (.need (decide ((0:Int)<=(i:Int)/\i<=l.1-0)) (.need (decide ((0:Int)<=(i:Int)/\(i:Int)<(l.1:Int))&&decide (l.1<=l.1)) (.need (decide (i<l.1)) (.need (decide (d.ps.n<=d.ps.n)&&(decide (i<=l.1)&&(true&&true))&&QBl d (Rw.mk i λi=>l.2 (i+0)) (l.2 ((i:Int).toNat+0))) (.br (!rmV d (Rw.mk i λi=>l.2 (i+0)) (l.2 ((i:Int).toNat+0))) (.leaf (.tup [.nili,.ptr 58 0 0,.bool true false]) ([])) (.leaf (.tup [.nilp,.ptr 58 0 0,.slz 1 0 l.1 cO, .ptr 8 0 0,vi (i64.wrap ((i:Int)+1))]) ((QM2 d i l))))))))))))))))))) (.leaf (.tup [.ptr 0 0 0,.ptr 58 0 0]) ([])):=by kernel_rfl
theorem QH3 :QF 8 [AV.bool true false] ([]) QE2=( some [false=false]):=by kernel_rfl
theorem QjD(l:RkL)(i i':Nat):QF 8 [.slz 1 0 l.1 cO,.ptr 8 0 0,vi (i64.wrap ((i:Int)+1))] ((QM2 d i l)) (rsJ d l i')=(some ([0=0,l.1=l.1,cO=cO,0=0,0=0,i64.wrap ((i:Int)+1)=(i':Int)]++waa d++([cO=cO]++wad d++[l.1<=l.1,QB 2 l.1 (λi=>QA.enc (l.2 i)) λi=>QA.enc (l.2 i)]))):=by kernel_rfl
theorem QWr :QF 8 [] ([]) QHP=( some []):=by kernel_rfl
def rsA:Bool:=Qz x.piece 0 (i64.wrap ((d.ps.n:Int)-1))
def rsC:Bool:=Qz x.turn 0 (i64.wrap (tnV d x.piece-1))
def VV(l:RkL)(i:Nat):Bool := !rsA d (l.get i)||(!rsC d (l.get i) || !rmV d ⟨i,l.get⟩ (l.get i))
def Jf(l:RkL):Bool := !((l.n:Int) != d.ps.n)&&(QP (VV d l) l.n 0).isNone
def rsR(l:RkL)(k:Nat)(e:Ex)(J:JSt):Prop:=(e = .ret/\(QP (VV d l) (l.n-k) k).isNone=false/\J=QE2)∨(e = .exit 0/\(QP (VV d l) (l.n-k) k).isNone=true/\J=QHP)
theorem QLB(p:Int):tnV d p=4∨tnV d p=1:=by
 unfold tnV;cases d.turn&&decide (0<p)
 .exact .inr rfl
 .exact .inl rfl
theorem QOf{d:Puz}{x:Lay}(hn:d.ps.n<=1000)(h1:rsA d x=true)(h2:rsC d x=true):vf d x:=by
 unfold rsA Qz at h1;unfold rsC Qz at h2;have h1:=qdt h1;have h2:=qdt h2;have ht:=QLB d x.piece;rw[w64 (by omega) (by omega)]at h1 h2
 exact⟨by omega,by omega⟩
theorem QfA(l:RkL)(hn:d.ps.n<=1000)(hl:l.n<=1000)(hw:1<=d.wide/\d.wide<=1000):JP (rsJ d l) (λk=>k<=l.n/\∀ i,i<k->vf d (l.get i)) (λk=>l.n-k) (rsR d l) 8 QKj [] (mkF prog Xb) (λ_=>hnd (mkF prog Xb) 0) (QH f27 0):=by
 refine⟨λk g hk=>?_⟩;obtain⟨hk,hin⟩:=hk;have et:=Qjn d l k g;refine Qf et ?_;clear et;have bad:∀(h:k<l.n),VV d l k=true->rsR d l k .ret QE2:=λh hb=>.inl ⟨rfl,by rw[(JK (p:=VV d l) h).1 hb];rfl,rfl⟩
 refine QE (λb0=>?_) (λb0=>?_);have h:k<l.n:=by have:=qdt b0;omega
 have hf:=JK (p:=VV d l) h;have hw1:i64.wrap ((k:Int)+1)=((k+1:Nat):Int):=Ja h hl
 iterate 3 (refine QG ?_ ?_;rotate_left)
 refine QE ?_ ?_<;>intro b1
 .exact⟨_,bad h (by unfold VV;rw[show(!rsA d (l.get k))=true from b1];rfl),rfl,rfl,_,QH3,⟨rfl,trivial⟩⟩
 have c1:rsA d (l.get k)=true:=by simpa using (show(!rsA d (l.get k))=false from b1)
 iterate 6 (refine QG ?_ ?_;rotate_left)
 refine QE ?_ ?_<;>intro b2
 .exact⟨_,bad h (by unfold VV;rw[c1,show(!rsC d (l.get k))=true from b2];rfl),rfl,rfl,_,QH3,⟨rfl,trivial⟩⟩
 have c2:rsC d (l.get k)=true:=by simpa using (show(!rsC d (l.get k))=false from b2)
 have hx:vf d (l.get k):=QOf hn c1 c2;have hok:QBl d ⟨k,l.get⟩ (l.get k)=true:=QI4.2 ⟨⟨hn,by show k<=1000;omega,hw⟩,hx,hin⟩
 iterate 4 (refine QG ?_ ?_;rotate_left)
 refine QE ?_ ?_<;>intro b3
 .exact⟨_,bad h (by unfold VV;rw[c1,c2,show(!rmV d ⟨k,l.get⟩ (l.get k))=true from b3];rfl),rfl,rfl,_,QH3,⟨rfl,trivial⟩⟩
 refine⟨k+1,⟨h,λi hi=>(Nat.lt_succ_iff_lt_or_eq.1 hi).elim (hin i) (λe=>e ▸ hx)⟩,by show l.n-(k+1)<l.n-k;omega,λe J hr=>by unfold rsR at hr ⊢;rw[hf.2 (by unfold VV;rw[c1,c2,show(!rmV d ⟨k,l.get⟩ (l.get k))=false from b3];rfl)];exact hr,rfl,rfl,_,QjD d l k (k+1),?_⟩
 rotate_left
 .have h:l.n<=k:=by have:=qdf b0;omega
  exact⟨_,.inr ⟨rfl,by rw[show l.n-k=0 by omega];rfl,rfl⟩,rfl,rfl,_,QWr,trivial⟩
 all_goals first|((with_reducible show _=true);(first|rfl|(simp;done)|exact Bool.and_eq_true_iff.2 ⟨by simp;omega,hok⟩|(simp;omega)))|(repeat' first|with_reducible refine QL ?_ ?_|exact tv|with_reducible exact qRr|exact hw1|exact rfl|refine aI ?_ ?_)
def rsX(l:RkL):List (Prop×Ex×JSt):=[((QP (VV d l) l.n 0).isNone=false,.ret,QE2),((QP (VV d l) l.n 0).isNone=true,.exit 0,QHP)]
theorem QdU(l:RkL)(hn:d.ps.n<=1000)(hl:l.n<=1000)(hw:1<=d.wide/\d.wide<=1000)(G:Ctx)(hrd:G.rd=none)(hG:G.n=8):Qw (mkF prog Xb) G { hnd (mkF prog Xb) 1 with loop:=λ_=>KC 8 [] (rsJ d l (0:Nat)) (rsX d l) } (Qk f27):=by
 refine KN (body:=QH f27 0) (KF QDE) hrd (by kernel_rfl) ?_
 refine Jq (n0:=8) (KF QDE) (by omega) (λs hs=>Qv (KF QDE) 0 G _ hrd) (λs hs=>(by decide:8<=80)) ?_ (QfA d l hn hl hw) (s0:=0) ⟨Nat.zero_le _,λi hi=>absurd hi (Nat.not_lt_zero i)⟩ ?_
 .rintro s e J (⟨_,_,rfl⟩|⟨_,_,rfl⟩)<;>exact(by decide:8<=80)
 .rintro e J (⟨rfl,h,rfl⟩|⟨rfl,h,rfl⟩)
  .exact⟨_,qmc,h,rfl,rfl⟩
  .exact⟨_,List.mem_cons_of_mem _ qmc,h,rfl,rfl⟩
def QBM:WF (Puz×RkL×Unit):=λ|(d,(l,_))=>(decide (d.ps.n<=1000/\l.n<=1000/\1<=d.wide/\d.wide<=1000),.bool false (Jf d l),[])
def QUb:FC:=wFC QBM
theorem Qdr(l:RkL):Kd (mkF prog Xb) { hnd (mkF prog Xb) 1 with loop:=λ_=>KC 8 [] (rsJ d l (0:Nat)) (rsX d l) } f27 (Qb.vals 0 ((d,l,()):Puz×RkL × Unit)) (Qb.blks 0 ((d,l,()):Puz×RkL×Unit)) 8 = .br ((l.1:Int) != (d.ps.n:Int)) (.leaf (.bool true false) ([])) (.ak ([0=0,l.1=l.1,cO=cO,0=0,0=0,(0:Int)=0]++waa d++([cO=cO]++wad d++[l.1<=l.1,QB 2 l.1 (λi=>QA.enc ((d,l,()).snd.fst.2 i)) λi=>QA.enc (l.2 i)])) (.both (.asm ((QP (VV d l) l.1 0).isNone=false) (.all (λ(g0:Nat->Value)=>.leaf (.bool false false) ([])))) (.asm ((QP (VV d l) l.1 0).isNone=true) (.all (λ(g1:Nat->Value)=>.leaf (.bool true true) ([])))))):=by kernel_rfl
theorem QYY:JA (mkF prog Xb) (Qk f27) 8 QBM (λx_=>{ hnd (mkF prog Xb) 1 with loop:=λ_=>KC 8 [] (rsJ x_.1 x_.2.1 (0:Nat)) (rsX x_.1 x_.2.1) }):=by
 refine⟨?_⟩;rintro⟨d,⟨l,⟨⟩⟩⟩ hp G h1 h2;exact QdU d l (qdt hp).1 (qdt hp).2.1 (qdt hp).2.2 G h1 h2
theorem QfK:JB (mkF prog Xb) f27 8 QBM (λx_=>{ hnd (mkF prog Xb) 1 with loop:=λ_=>KC 8 [] (rsJ x_.1 x_.2.1 (0:Nat)) (rsX x_.1 x_.2.1) }):=by
 refine⟨?_⟩;rintro⟨d,⟨l,⟨⟩⟩⟩ hp;refine⟨⟨rfl,by simp[QBM],rfl⟩,⟨?_⟩⟩
 rw[Qdr d l];simp only[QBM]at hp;refine QE ?_ ?_<;>intro b0
 .exact KE (show false=Jf d l by unfold Jf;rw[b0];rfl) rfl
 iterate 21 refine Qu (by first|exact tv|with_reducible exact qRr|exact rfl) ?_
 refine Kh ?_ ?_;refine Qg λa0=>?_;refine Qj λg0=>?_
 .exact KE (show false=Jf d l by unfold Jf;rw[b0,a0];rfl) rfl
 refine Qg λa1=>?_;refine Qj λg1=>?_
 .exact KE (show true=Jf d l by unfold Jf;rw[b0,a1];rfl) rfl
theorem QhL:QR prog 27 QUb:=
 JL (KF QDE) func27 (by kernel_rfl) (by kernel_rfl) (by decide) QYY QfK
def lsJ:JSt:=⟨58,[(0,.slz 0 0 a.n (.of 0)),(1,.slz 1 0 b.n (.of 0)),(7,.int false .i64 a.n),(8,.int false .i64 k)],Qi.blk 0 a++Qi.blk 1 b,40⟩
def vz(v:Bool):JSt:=⟨58,[(4,.bool false v)],[],40⟩
def QJA:JSt:=⟨58,[],[],40⟩
def QK3:Ex->List Nat
 | .normal=>[0,1,7,8]
 | .exit _=>[]
 | .ret=>[4]
theorem Qbm :exec (mkF prog Kg) (hnd (mkF prog Kg) 0) (QH f28 0) (JSt.inst (lsJ a b k) g) (Q9 [] QK3) = .br (decide ((k:Int)<(a.n:Int))) (.need (decide ((0:Int)<=(k:Int)/\(k:Int)<(a.n:Int))&&decide (a.n<=a.n)) (.need (decide (k<a.n)) (.need (decide ((0:Int)<=(k:Int)/\(k:Int)<(b.n:Int))&&decide (b.n<=b.n)) (.need (decide (k<b.n)) (.br (!((a.get k).piece==(b.get k).piece&&((a.get k).turn==(b.get k).turn&&true))) (.need (decide ((0:Int)<=(k:Int)/\(k:Int)<(a.n:Int))&&decide (a.n<=a.n)) (.need (decide (k<a.n)) (.need (decide ((0:Int)<=(k:Int)/\(k:Int)<(b.n:Int))&&decide (b.n<=b.n)) (.need (decide (k<b.n)) (.br (decide ((a.get k).piece<(b.get k).piece)) (.leaf (.tup [.nili,.ptr 58 0 0,.bool true true]) ([])) (.need (decide ((0:Int)<=(k:Int)/\(k:Int)<(a.n:Int))&&decide (a.n<=a.n)) (.need (decide (k<a.n)) (.need (decide ((0:Int)<=(k:Int)/\(k:Int)<(b.n:Int))&&decide (b.n<=b.n)) (.need (decide (k<b.n)) (.br ((a.get k).piece==(b.get k).piece) (.need (decide ((0:Int)<=(k:Int)/\(k:Int)<(a.n:Int))&&decide (a.n<=a.n)) (.need (decide (k<a.n)) (.need (decide ((0:Int)<=(k:Int)/\(k:Int)<(b.n:Int))&&decide (b.n<=b.n)) (.need (decide (k<b.n)) (.leaf (.tup [.nili,.ptr 58 0 0,.bool false (decide ((a.get k).turn<(b.get k).turn))]) ([])))))) (.leaf (.tup [.nili, .ptr 58 0 0,.bool true false]) ([])))))))))))) (.leaf (.tup [.nilp,.ptr 58 0 0,.slz 0 0 a.n cO,.slz 1 0 b.n cO,vi (a.n:Int),vi (i64.wrap ((k:Int)+1))]) ([(0,.frz kB a.n λi=>QA.enc (a.get i)),(1,.frz kB b.n λi=>QA.enc (b.get i))]))))))) (.leaf (.tup [.ptr 0 0 0,.ptr 58 0 0]) ([])):=by kernel_rfl
theorem Qi2(v:Bool):QF 8 [AV.bool true true] ([]) (vz v)=( some [true=v]):=by kernel_rfl
theorem Qc5(v:Bool):QF 8 [AV.bool false (decide ((a.get k).turn<(b.get k).turn))] ([]) (vz v)=( some [decide ((a.get k).turn<(b.get k).turn)=v]):=by kernel_rfl
theorem Qcl(v:Bool):QF 8 [AV.bool true false] ([]) (vz v)=( some [false=v]):=by kernel_rfl
theorem QW6(k k':Nat):QF 8 [AV.slz (0:Nat) (0:Nat) a.n cO,AV.slz (1:Nat) (0:Nat) b.n cO,vi (↑a.n:Int),vi (i64.wrap ((↑k:Int)+(1:Int)))] ([((0:Nat),Blk.frz [CK.int i64,CK.int i64] a.n λi=>QA.enc (a.get i)),((1:Nat),Blk.frz [CK.int i64,CK.int i64] b.n λi=>QA.enc (b.get i))]) (lsJ a b k')=( some [0=0,a.n=a.n,cO=cO,0=0,b.n=b.n,cO=cO,(↑a.n:Int)=(↑a.n:Int), i64.wrap ((↑k:Int)+(1:Int))=(↑k':Int),a.n<=a.n,QB (2:Nat) a.n (λi=>QA.enc (a.get i)) λi=>QA.enc (a.get i),b.n<=b.n,QB (2:Nat) b.n (λi=>QA.enc (b.get i)) λi=>QA.enc (b.get i)]):=by kernel_rfl
theorem Qby :QF 8 [] ([]) QJA=( some []):=by kernel_rfl
def ZO(x y:Lay):Bool:=decide (x.piece<y.piece)||(x.piece==y.piece&&decide (x.turn<y.turn))
def lsV:Bool:=match QP (lyQ a b) a.n 0 with
 | some i=>ZO (a.get i) (b.get i)
 | none=>false
def lsR(e:Ex)(J:JSt):Prop:=match QP (lyQ a b) (a.n-k) k with
 | some i=>e = .ret/\J=vz (ZO (a.get i) (b.get i))
 | none=>e = .exit 0/\J=QJA
theorem Qal(hab:a.n<=b.n)(hl:a.n<=1000000):JP (lsJ a b) (λk=>k<=a.n) (λk=>a.n-k) (lsR a b) 8 QK3 [] (mkF prog Kg) (λ_=>hnd (mkF prog Kg) 0) (QH f28 0):=by
 refine⟨λk g hk=>?_⟩;have hk:k<=a.n:=hk;have et:=Qbm a b k g;refine Qf et ?_;clear et
 have hit:∀(h:k<a.n) (v:Bool),lyQ a b k=true->v=ZO (a.get k) (b.get k)->lsR a b k .ret (vz v):=λh v hb hv=>by
  unfold lsR;rw[(JK (p:=lyQ a b) h).1 hb,hv];exact⟨rfl,rfl⟩
 refine QE (λb0=>?_) (λb0=>?_);have h:k<a.n:=by have:=qdt b0;omega
 have hf:=JK (p:=lyQ a b) h;have hw1:i64.wrap ((k:Int)+1)=((k+1:Nat):Int):=(w64 (by omega) (by omega)).trans (by omega)
 iterate 4 (refine QG ?_ ?_;rotate_left)
 refine QE ?_ ?_<;>intro b1
 iterate 4 (refine QG ?_ ?_;rotate_left)
 refine QE ?_ ?_<;>intro b2
 .exact⟨_,hit h true b1 (by unfold ZO;rw[b2];rfl),rfl,rfl,_,Qi2 true,⟨rfl,trivial⟩⟩
 iterate 4 (refine QG ?_ ?_;rotate_left)
 refine QE ?_ ?_<;>intro b3
 iterate 4 (refine QG ?_ ?_;rotate_left)
 .exact⟨_,hit h _ b1 (by unfold ZO;rw[b2,b3];rfl),rfl,rfl,_,Qc5 a b k _,⟨rfl,trivial⟩⟩
 .exact⟨_,hit h false b1 (by unfold ZO;rw[b2,b3];rfl),rfl,rfl,_,Qcl false,⟨rfl,trivial⟩⟩
 have b1:lyQ a b k=false:=b1;refine⟨k+1,h,by show a.n-(k+1)<a.n-k;omega,λe J hr=>by unfold lsR at hr ⊢;rw[hf.2 b1];exact hr,rfl,rfl,_,QW6 a b k (k+1),?_⟩
 rotate_left
 .have h:a.n<=k:=by have:=qdf b0;omega
  exact⟨_,(by unfold lsR;rw[show a.n-k=0 by omega];exact⟨rfl,rfl⟩),rfl,rfl,_,Qby,trivial⟩
 all_goals first|((with_reducible show _=true);(first|rfl|(simp;omega)))|(repeat' first|with_reducible refine QL ?_ ?_|exact tv|with_reducible exact qRr|exact hw1|exact rfl|refine aI ?_ ?_)
def lsX:List (Prop×Ex×JSt):=[((QP (lyQ a b) a.n 0).isSome=true,.ret,vz (lsV a b)),(QP (lyQ a b) a.n 0=none,.exit 0,QJA)]
theorem QYW(hab:a.n<=b.n)(hl:a.n<=1000000)(G:Ctx)(hrd:G.rd=none)(hG:G.n=8):Qw (mkF prog Kg) G { hnd (mkF prog Kg) 1 with loop:=λ_=>KC 8 [] (lsJ a b (0:Nat)) (lsX a b) } (Qk f28):=by
 refine KN (body:=QH f28 0) (KF Yk) hrd (by kernel_rfl) ?_
 refine Jq (n0:=8) (KF Yk) (by omega) (λs hs=>Qv (KF Yk) 0 G _ hrd) (λs hs=>(by decide:8<=40)) ?_ (Qal a b hab hl) (s0:=0) (Nat.zero_le _) ?_
 .intro s e J h;unfold lsR at h;split at h<;>(rw[h.2];exact(by decide:8<=40))
 .intro e J h;unfold lsR at h;rw[Nat.sub_zero]at h;unfold lsX lsV;cases hf:QP (lyQ a b) a.n 0 with
  | some i=>rw[hf]at h;exact⟨_,qmc,rfl,h.1.symm,h.2.symm⟩
  | none=>rw[hf]at h;exact⟨_,List.mem_cons_of_mem _ qmc,rfl,h.1.symm,h.2.symm⟩
def QCB:WF ((Rw Lay)×(Rw Lay)×Unit):=λ|(a,(b,_))=>(decide (a.n<=b.n/\a.n<=1000000),.bool false (lsV a b),[])
def QMI:FC:=wFC QCB
theorem QhK(a:(Rw Lay))(b:(Rw Lay)):Kd (mkF prog Kg) { hnd (mkF prog Kg) 1 with loop:=λ_=>KC 8 [] (lsJ a b (0:Nat)) (lsX a b) } f28 (Qb.vals 0 ((a,b,()):(Rw Lay)×(Rw Lay)×Unit)) (Qb.blks 0 ((a,b,()):(Rw Lay)×(Rw Lay)×Unit)) 8=QC.ask (0=0) (QC.ask (a.n=a.n) (QC.ask (cO=cO) (QC.ask (0=0) (QC.ask (b.n=b.n) (QC.ask (cO=cO) (QC.ask ((↑a.n:Int)=(↑a.n:Int)) (QC.ask ((0:Int)=(0:Int)) (QC.ask (a.n<=a.n) (QC.ask (QB (2:Nat) a.n (λi=>QA.enc (a.get i)) λi=>QA.enc (a.get i)) (QC.ask (b.n<=b.n) (QC.ask (QB (2:Nat) b.n (λi=>QA.enc (b.get i)) λi=>QA.enc (b.get i)) (QC.both (QC.asm ((QP (lyQ a b) a.n (0:Nat)).isSome=true) (QC.all (λ(g0:Nat->Value)=>QC.leaf (AV.bool false (lsV a b)) ([])))) (QC.asm (QP (lyQ a b) a.n (0:Nat)=none) (QC.all (λ(g1:Nat->Value)=>QC.leaf (AV.bool true false) ([])))))))))))))))):=by kernel_rfl
theorem QcG:JA (mkF prog Kg) (Qk f28) 8 QCB (λx_=>{ hnd (mkF prog Kg) 1 with loop:=λ_=>KC 8 [] (lsJ x_.1 x_.2.1 (0:Nat)) (lsX x_.1 x_.2.1) }):=by
 refine⟨?_⟩;rintro⟨a,⟨b,⟨⟩⟩⟩ hp G h1 h2;exact QYW a b (qdt hp).1 (qdt hp).2 G h1 h2
theorem QYV:JB (mkF prog Kg) f28 8 QCB (λx_=>{ hnd (mkF prog Kg) 1 with loop:=λ_=>KC 8 [] (lsJ x_.1 x_.2.1 (0:Nat)) (lsX x_.1 x_.2.1) }):=by
 refine⟨?_⟩;rintro⟨a,⟨b,⟨⟩⟩⟩ hp;refine⟨⟨rfl,by simp[QCB],rfl⟩,⟨?_⟩⟩
 rw[QhK a b];simp only[QCB]at hp
 iterate 12 refine Qu (by first|exact tv|with_reducible exact qRr|exact rfl) ?_
 refine Kh ?_ ?_;refine Qg λa0=>?_;refine Qj λg0=>?_
 .exact KE (show lsV a b=lsV a b from rfl) rfl
 refine Qg λa1=>?_;refine Qj λg1=>?_
 .exact KE (show false=lsV a b by unfold lsV;rw[a1]) rfl
theorem Qad:QR prog 28 QMI:=
 JL (KF Yk) func28 (by kernel_rfl) (by kernel_rfl) (by decide) QcG QYV
