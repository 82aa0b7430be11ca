/- - -/
import Derived.Test.YtekbmehgcofnkaaGreatMx
open Go.Proofs.Tryz
open Go.IntKind (i64)
set_option maxRecDepth 100000
namespace Go.Proofs.YtekbmehgcofnkaaGreat
open Go.SX Go.SX.Told
variable {p q:QW}{t:Nat}(d:Puz)(n:Nat)(E:ECt)(i:Nat)(a:Int)(k:Nat)
def meF(p q:QW)(s t:Nat):Int:=(JJ d.pK (Vs p s) (Vs q t)).1
def QBn(i s k t:Nat)(n:Int)(E:ECt):ECt:=(JA [(i:Int),(s:Int),(k:Int),(t:Int)] (KK i s k t) (.int .i64 n) E.2 E.1,clL [(i:Int),(s:Int),(k:Int),(t:Int)] E.2 E.1)
def stE(p q:QW)(i k s t:Nat)(E:ECt):ECt:=cond (((i:Int) != (k:Int))&&(meF d p q s t != 0)) (QBn i s k t (meF d p q s t) E) E
def m4(d:Puz)(p q:QW)(i k s:Nat)(E:ECt):Nat->ECt
 | 0=>E
 | t+1=>stE d p q i k s t (m4 d p q i k s E t)
def m3(d:Puz)(p q:QW)(i k:Nat)(E:ECt):Nat->ECt
 | 0=>E
 | s+1=>m4 d p q i k s (m3 d p q i k E s) 4
def m2(d:Puz)(p:QW)(i:Nat)(E:ECt):Nat->ECt
 | 0=>E
 | k+1=>m3 d p (d.ps.get k) i k (m2 d p i E k) 4
def m1(d:Puz):Nat->ECt
 | 0=>([],0)
 | i+1=>m2 d (d.ps.get i) i (m1 d i) d.ps.n
def WfE:Prop:=wf4 .i64 E.1=true
theorem QZW{es:List MapEntry}(h:wf4 .i64 es=true)(a b c d n:Int):∀ i,wf4 .i64 (VA (KK a b c d) (.int .i64 n) es i)=true:=by
 induction es with
 | nil=>intro i;cases i<;>rfl
 | cons e es ih=>
  simp only[wf4,List.all_cons,qbA]at h;intro i;cases i with
  | zero=>simp only[VA,wf4,List.all_cons,qbA];exact⟨⟨rfl,rfl⟩,h.2⟩
  | succ i=>
   have:=ih h.2 i;simp only[wf4]at this;simp only[VA,wf4,List.all_cons,qbA];exact⟨h.1,this⟩
theorem QQe{E:ECt}(h:WfE E)(i s k t:Nat)(n:Int):WfE (QBn i s k t n E):=by
 show wf4 .i64 (JA _ _ _ E.2 E.1)=true;unfold JA;split
 .exact QZW h _ _ _ _ _ _
 .have h:wf4 .i64 E.1=true:=h;simp only[wf4,List.all_append,qbA]at h ⊢;exact⟨h,rfl⟩
theorem QcB{d:Puz}{i k s:Nat}{E:ECt}(h:WfE E):WfE (stE d p q i k s t E):=by
 unfold stE;cases ((i:Int) != (k:Int))&&(meF d p q s t != 0)
 .exact h
 .exact QQe h _ _ _ _ _
theorem QGf{d:Puz}{p q:QW}{i k s:Nat}{E:ECt}(h:WfE E):∀ t,WfE (m4 d p q i k s E t)
 | 0=>h
 | t+1=>QcB (QGf h t)
theorem QHK{d:Puz}{p q:QW}{i k:Nat}{E:ECt}(h:WfE E):∀ s,WfE (m3 d p q i k E s)
 | 0=>h
 | s+1=>QGf (QHK h s) 4
theorem QHv{d:Puz}{p:QW}{i:Nat}{E:ECt}(h:WfE E):∀ k,WfE (m2 d p i E k)
 | 0=>h
 | k+1=>QHK (QHv h k) 4
theorem QHW(d:Puz):∀ i,WfE (m1 d i)
 | 0=>rfl
 | i+1=>QHv (QHW d i) _
theorem QED{d:Puz}{i k s:Nat}{E:ECt}(h1:((i:Int) != (k:Int))=true)(h2:(meF d p q s t != 0)=true):stE d p q i k s t E=QBn i s k t (meF d p q s t) E:=by unfold stE;rw[h1,h2];rfl
theorem QBo{d:Puz}{i k s:Nat}{E:ECt}(h2:(meF d p q s t != 0)=false):stE d p q i k s t E=E:=by unfold stE;rw[h2,Bool.and_false];rfl
theorem QCA{d:Puz}{i k s:Nat}{E:ECt}(h1:((i:Int) != (k:Int))=false):stE d p q i k s t E=E:=by unfold stE;rw[h1];rfl
set_option maxHeartbeats 4000000 in
theorem QSx(p q:QW)(i k s:Nat)(E:ECt)(hE:WfE E):Ji (λt=>VQ d (m4 d p q i k s E t) p q (Vs p s) i k s t) (λt=>t<=4) (λt=>4-t) (λ_ e J=>e = .exit 6/\J=QHi d (m4 d p q i k s E 4) p q i k s) 8 QLk [] (mkF prog KF) (λ_=>hnd (mkF prog KF) 1) (QS (QS (QS (QJ f60 0)))):=by
 refine⟨λt g0 hk=>Qf (QWU d (m4 d p q i k s E t) p q (Vs p s) i k s t g0) ?_⟩;have hk:t<=4:=hk;have hw:wf4 .i64 (m4 d p q i k s E t).1=true:=QGf hE t;refine QF (λb0=>?_) (λb0=>?_);refine QH ?_ ?_;rotate_left;refine QF (λb1=>?_) (λb1=>?_);obtain rfl:t=0:=by have:=qdt b1;omega
 refine QH ?_ ?_;rotate_left;refine QF (λb2=>?_) (λb2=>?_);refine QF (λb3=>?_) (λb3=>?_);refine QH ?_ ?_;rotate_left
 .have hs:m4 d p q i k s E 1=_:=QED b2 b3;refine⟨1,by show 1<=4;omega,by show 4-1<4-0;omega,λ_ _ r=>r,rfl,rfl,_,QaA ..,?_⟩
  have q1:_=(m4 d p q i k s E 1).1:=congrArg Prod.fst hs.symm;have q2:_=(m4 d p q i k s E 1).2:=congrArg Prod.snd hs.symm
  repeat' first|with_reducible refine QP ?_ ?_|exact tv|exact qRr|exact q1|exact q2|exact rfl|refine aI ?_ ?_
 .have hs:m4 d p q i k s E 1=_:=QBo b3;refine⟨1,by show 1<=4;omega,by show 4-1<4-0;omega,λ_ _ r=>r,rfl,rfl,_,Qeq ..,?_⟩
  have q1:_=(m4 d p q i k s E 1).1:=congrArg Prod.fst hs.symm;have q2:_=(m4 d p q i k s E 1).2:=congrArg Prod.snd hs.symm
  repeat' first|with_reducible refine QP ?_ ?_|exact tv|exact qRr|exact q1|exact q2|exact rfl|refine aI ?_ ?_
 .have hs:m4 d p q i k s E 1=_:=QCA b2;refine⟨1,by show 1<=4;omega,by show 4-1<4-0;omega,λ_ _ r=>r,rfl,rfl,_,QTL ..,?_⟩
  have q1:_=(m4 d p q i k s E 1).1:=congrArg Prod.fst hs.symm;have q2:_=(m4 d p q i k s E 1).2:=congrArg Prod.snd hs.symm
  repeat' first|with_reducible refine QP ?_ ?_|exact tv|exact qRr|exact q1|exact q2|exact rfl|refine aI ?_ ?_
 refine QF (λb4=>?_) (λb4=>?_);obtain rfl:t=1:=by have:=qdt b4;omega
 refine QH ?_ ?_;rotate_left;refine QF (λb5=>?_) (λb5=>?_);refine QF (λb6=>?_) (λb6=>?_);refine QH ?_ ?_;rotate_left
 .have hs:m4 d p q i k s E 2=_:=QED b5 b6;refine⟨2,by show 2<=4;omega,by show 4-2<4-1;omega,λ_ _ r=>r,rfl,rfl,_,QVA ..,?_⟩
  have q1:_=(m4 d p q i k s E 2).1:=congrArg Prod.fst hs.symm;have q2:_=(m4 d p q i k s E 2).2:=congrArg Prod.snd hs.symm
  repeat' first|with_reducible refine QP ?_ ?_|exact tv|exact qRr|exact q1|exact q2|exact rfl|refine aI ?_ ?_
 .have hs:m4 d p q i k s E 2=_:=QBo b6;refine⟨2,by show 2<=4;omega,by show 4-2<4-1;omega,λ_ _ r=>r,rfl,rfl,_,QWX ..,?_⟩
  have q1:_=(m4 d p q i k s E 2).1:=congrArg Prod.fst hs.symm;have q2:_=(m4 d p q i k s E 2).2:=congrArg Prod.snd hs.symm
  repeat' first|with_reducible refine QP ?_ ?_|exact tv|exact qRr|exact q1|exact q2|exact rfl|refine aI ?_ ?_
 .have hs:m4 d p q i k s E 2=_:=QCA b5;refine⟨2,by show 2<=4;omega,by show 4-2<4-1;omega,λ_ _ r=>r,rfl,rfl,_,Qbu ..,?_⟩
  have q1:_=(m4 d p q i k s E 2).1:=congrArg Prod.fst hs.symm;have q2:_=(m4 d p q i k s E 2).2:=congrArg Prod.snd hs.symm
  repeat' first|with_reducible refine QP ?_ ?_|exact tv|exact qRr|exact q1|exact q2|exact rfl|refine aI ?_ ?_
 refine QF (λb7=>?_) (λb7=>?_);obtain rfl:t=2:=by have:=qdt b7;omega
 refine QH ?_ ?_;rotate_left;refine QF (λb8=>?_) (λb8=>?_);refine QF (λb9=>?_) (λb9=>?_);refine QH ?_ ?_;rotate_left
 .have hs:m4 d p q i k s E 3=_:=QED b8 b9;refine⟨3,by show 3<=4;omega,by show 4-3<4-2;omega,λ_ _ r=>r,rfl,rfl,_,QcF ..,?_⟩
  have q1:_=(m4 d p q i k s E 3).1:=congrArg Prod.fst hs.symm;have q2:_=(m4 d p q i k s E 3).2:=congrArg Prod.snd hs.symm
  repeat' first|with_reducible refine QP ?_ ?_|exact tv|exact qRr|exact q1|exact q2|exact rfl|refine aI ?_ ?_
 .have hs:m4 d p q i k s E 3=_:=QBo b9;refine⟨3,by show 3<=4;omega,by show 4-3<4-2;omega,λ_ _ r=>r,rfl,rfl,_,QXl ..,?_⟩
  have q1:_=(m4 d p q i k s E 3).1:=congrArg Prod.fst hs.symm;have q2:_=(m4 d p q i k s E 3).2:=congrArg Prod.snd hs.symm
  repeat' first|with_reducible refine QP ?_ ?_|exact tv|exact qRr|exact q1|exact q2|exact rfl|refine aI ?_ ?_
 .have hs:m4 d p q i k s E 3=_:=QCA b8;refine⟨3,by show 3<=4;omega,by show 4-3<4-2;omega,λ_ _ r=>r,rfl,rfl,_,QXi ..,?_⟩
  have q1:_=(m4 d p q i k s E 3).1:=congrArg Prod.fst hs.symm;have q2:_=(m4 d p q i k s E 3).2:=congrArg Prod.snd hs.symm
  repeat' first|with_reducible refine QP ?_ ?_|exact tv|exact qRr|exact q1|exact q2|exact rfl|refine aI ?_ ?_
 obtain rfl:t=3:=by
  have h0:=qdt b0;have h1:=qdf b1;have h2:=qdf b4;have h3:=qdf b7;omega
 refine QH ?_ ?_;rotate_left;refine QF (λb10=>?_) (λb10=>?_);refine QF (λb11=>?_) (λb11=>?_);refine QH ?_ ?_;rotate_left
 .have hs:m4 d p q i k s E 4=_:=QED b10 b11;refine⟨4,by show 4<=4;omega,by show 4-4<4-3;omega,λ_ _ r=>r,rfl,rfl,_,QbE ..,?_⟩
  have q1:_=(m4 d p q i k s E 4).1:=congrArg Prod.fst hs.symm;have q2:_=(m4 d p q i k s E 4).2:=congrArg Prod.snd hs.symm
  repeat' first|with_reducible refine QP ?_ ?_|exact tv|exact qRr|exact q1|exact q2|exact rfl|refine aI ?_ ?_
 .have hs:m4 d p q i k s E 4=_:=QBo b11;refine⟨4,by show 4<=4;omega,by show 4-4<4-3;omega,λ_ _ r=>r,rfl,rfl,_,QeP ..,?_⟩
  have q1:_=(m4 d p q i k s E 4).1:=congrArg Prod.fst hs.symm;have q2:_=(m4 d p q i k s E 4).2:=congrArg Prod.snd hs.symm
  repeat' first|with_reducible refine QP ?_ ?_|exact tv|exact qRr|exact q1|exact q2|exact rfl|refine aI ?_ ?_
 .have hs:m4 d p q i k s E 4=_:=QCA b10;refine⟨4,by show 4<=4;omega,by show 4-4<4-3;omega,λ_ _ r=>r,rfl,rfl,_,Qct ..,?_⟩
  have q1:_=(m4 d p q i k s E 4).1:=congrArg Prod.fst hs.symm;have q2:_=(m4 d p q i k s E 4).2:=congrArg Prod.snd hs.symm
  repeat' first|with_reducible refine QP ?_ ?_|exact tv|exact qRr|exact q1|exact q2|exact rfl|refine aI ?_ ?_
 obtain rfl:t=4:=by have:=qdf b0;omega
 refine⟨_,⟨rfl,rfl⟩,rfl,rfl,_,QVW ..,?_⟩
 rotate_left
 all_goals first|(show _=true;(first|exact hw|rfl|(simp;omega)|(simp at b0 ⊢;omega)))|(repeat' first|with_reducible refine QP ?_ ?_|exact tv|exact qRr|refine aI ?_ ?_)
theorem QXv(p q:QW)(i k s:Nat)(E:ECt)(hE:WfE E)(G:Ctx)(hrd:G.rd=none)(hG:G.n<=8):Qu (mkF prog KF) G (QHh prog d E (m4 d p q i k s E 4) p q (Vs p s) i k s) (QS (QS (QJ f60 0))):=by
 refine KM (body:=QS (QS (QS (QJ f60 0)))) (Ke JG) hrd (by kernel_rfl) ?_
 refine Vn (I:=λt=>VQ d (m4 d p q i k s E t) p q (Vs p s) i k s t) (n0:=8) (Ke JG) hG (λt ht=>Q1 (Ke JG) 1 G _ hrd) (λt ht=>(by decide:8<=104)) ?_ (QSx d p q i k s E hE) (s0:=0) (Nat.zero_le _) ?_
 .rintro s e J ⟨_,rfl⟩;exact(by decide:8<=104)
 .rintro e J ⟨rfl,rfl⟩;exact⟨_,qmc,trivial,rfl,rfl⟩
set_option maxHeartbeats 4000000 in
theorem QVD(p q:QW)(i k:Nat)(E:ECt):Ji (λs=>WG d (m3 d p q i k E s) p q i k s) (λs=>s<=4) (λs=>4-s) (λ_ e J=>e = .exit 4/\J=QFT d (m3 d p q i k E 4) p i k) 8 QJm [] (mkF prog KF) (λs=>QHh prog d (m3 d p q i k E s) (m4 d p q i k s (m3 d p q i k E s) 4) p q (Vs p s) i k s) (QS (QS (QJ f60 0))):=by
 refine⟨λs g0 hk=>Qf (Qcl d (m3 d p q i k E s) (m4 d p q i k s (m3 d p q i k E s) 4) p q (Vs p s) i k s g0) ?_⟩;have hk:s<=4:=hk;refine QF (λb0=>?_) (λb0=>?_);refine QH ?_ ?_;rotate_left;refine QF (λb1=>?_) (λb1=>?_);obtain rfl:s=0:=by have:=qdt b1;omega
 iterate 170 refine Qt (by first|exact tv|exact qRr|rfl) ?_
 refine Qj λa0=>?_;refine Qk λg0=>?_;refine⟨1,by show 1<=4;omega,by show 4-1<4-0;omega,λ_ _ r=>r,rfl,rfl,_,QWE ..,?_⟩
 rotate_left
 refine QF (λb2=>?_) (λb2=>?_);obtain rfl:s=1:=by have:=qdt b2;omega
 iterate 170 refine Qt (by first|exact tv|exact qRr|rfl) ?_
 refine Qj λa1=>?_;refine Qk λg1=>?_;refine⟨2,by show 2<=4;omega,by show 4-2<4-1;omega,λ_ _ r=>r,rfl,rfl,_,QfQ ..,?_⟩
 rotate_left
 refine QF (λb3=>?_) (λb3=>?_);obtain rfl:s=2:=by have:=qdt b3;omega
 iterate 170 refine Qt (by first|exact tv|exact qRr|rfl) ?_
 refine Qj λa2=>?_;refine Qk λg2=>?_;refine⟨3,by show 3<=4;omega,by show 4-3<4-2;omega,λ_ _ r=>r,rfl,rfl,_,QdJ ..,?_⟩
 rotate_left
 obtain rfl:s=3:=by
  have h0:=qdt b0;have h1:=qdf b1;have h2:=qdf b2;have h3:=qdf b3;omega
 iterate 170 refine Qt (by first|exact tv|exact qRr|rfl) ?_
 refine Qj λa3=>?_;refine Qk λg3=>?_;refine⟨4,by show 4<=4;omega,by show 4-4<4-3;omega,λ_ _ r=>r,rfl,rfl,_,QbC ..,?_⟩
 rotate_left
 obtain rfl:s=4:=by have:=qdf b0;omega
 refine⟨_,⟨rfl,rfl⟩,rfl,rfl,_,QcW ..,?_⟩
 rotate_left
 all_goals first|(show _=true;(first|rfl|(simp at b0 ⊢;omega)))|(repeat' first|with_reducible refine QP ?_ ?_|exact tv|exact qRr|exact rfl|refine aI ?_ ?_)
theorem QTG(p:QW)(i k:Nat)(E:ECt)(hE:WfE E)(G:Ctx)(hrd:G.rd=none)(hG:G.n<=8):Qu (mkF prog KF) G (QH6 prog d E (m3 d p (d.ps.get k) i k E 4) p (d.ps.get k) i k) (QS (QJ f60 0)):=by
 refine KM (body:=QS (QS (QJ f60 0))) (Ke JG) hrd (by kernel_rfl) ?_
 refine Jm λhi=>?_;refine Vn (I:=λs=>WG d (m3 d p (d.ps.get k) i k E s) p (d.ps.get k) i k s) (n0:=8) (Ke JG) hG (λs hs=>QXv d p (d.ps.get k) i k s _ (QHK hE s) G hrd hG) (λt ht=>(by decide:8<=104)) ?_ (QVD d p (d.ps.get k) i k E) (s0:=0) (Nat.zero_le _) ?_
 .rintro s e J ⟨_,rfl⟩;exact(by decide:8<=104)
 .rintro e J ⟨rfl,rfl⟩;exact⟨_,qmc,trivial,rfl,rfl⟩
set_option maxHeartbeats 4000000 in
theorem QeM(p:QW)(i:Nat)(E:ECt)(hE:WfE E)(hn:d.ps.n<2^62):Ji (λk=>QAq d (m2 d p i E k) p i k) (λk=>k<=d.ps.n) (λk=>d.ps.n-k) (λ_ e J=>e = .exit 2/\J=QGt d (m2 d p i E d.ps.n) i) 8 QOX [] (mkF prog KF) (λk=>QH6 prog d (m2 d p i E k) (m3 d p (d.ps.get k) i k (m2 d p i E k) 4) p (d.ps.get k) i k) (QS (QJ f60 0)):=by
 refine⟨λk g0 hk=>Qf (QTq d (m2 d p i E k) (m3 d p (d.ps.get k) i k (m2 d p i E k) 4) p (d.ps.get k) i k g0) ?_⟩;have hk:k<=d.ps.n:=hk;refine QF (λb0=>?_) (λb0=>?_);have h:k<d.ps.n:=by have:=qdt b0;omega
 have hw:i64.wrap ((k:Int)+1)=((k+1:Nat):Int):=(w64 (by omega) (by omega)).trans (by omega)
 iterate 2 (refine QH ?_ ?_;rotate_left)
 iterate 132 refine Qt (by first|exact tv|exact h|exact qRr|rfl) ?_
 refine Qj λa0=>?_;refine Qk λg0=>?_;refine⟨k+1,h,by show d.ps.n-(k+1)<d.ps.n-k;omega,λ_ _ r=>r,rfl,rfl,_,QTW ..,?_⟩
 rotate_left
 obtain rfl:k=d.ps.n:=by have:=qdf b0;omega
 refine⟨_,⟨rfl,rfl⟩,rfl,rfl,_,QaB ..,?_⟩
 rotate_left
 all_goals first|(show _=true;(first|rfl|(simp at b0 ⊢;omega)))|(repeat' first|with_reducible refine QP ?_ ?_|exact tv|exact qRr|exact hw|exact rfl|refine aI ?_ ?_)
theorem QU5(hn:d.ps.n<2^62)(G:Ctx)(hrd:G.rd=none)(hG:G.n<=8):Qu (mkF prog KF) G (QFU prog d (m1 d i) (m2 d (d.ps.get i) i (m1 d i) d.ps.n) (d.ps.get i) i) (QJ f60 0):=by
 refine KM (body:=QS (QJ f60 0)) (Ke JG) hrd (by kernel_rfl) ?_
 refine Jm λhi=>?_;refine Vn (I:=λk=>QAq d (m2 d (d.ps.get i) i (m1 d i) k) (d.ps.get i) i k) (n0:=8) (Ke JG) hG (λk hk=>QTG d (d.ps.get i) i k _ (QHv (QHW d i) k) G hrd hG) (λt ht=>(by decide:8<=104)) ?_ (QeM d (d.ps.get i) i (m1 d i) (QHW d i) hn) (s0:=0) (Nat.zero_le _) ?_
 .rintro s e J ⟨_,rfl⟩;exact(by decide:8<=104)
 .rintro e J ⟨rfl,rfl⟩;exact⟨_,qmc,trivial,rfl,rfl⟩
set_option maxHeartbeats 4000000 in
theorem QYv(hn:d.ps.n<2^62):Ji (λi=>QBI d (m1 d i) i) (λi=>i<=d.ps.n) (λi=>d.ps.n-i) (λ_ e J=>e = .exit 0/\J=QIr d (m1 d d.ps.n)) 8 QPR [] (mkF prog KF) (λi=>QFU prog d (m1 d i) (m2 d (d.ps.get i) i (m1 d i) d.ps.n) (d.ps.get i) i) (QJ f60 0):=by
 refine⟨λi g0 hk=>Qf (QXr d (m1 d i) (m2 d (d.ps.get i) i (m1 d i) d.ps.n) (d.ps.get i) i g0) ?_⟩;have hk:i<=d.ps.n:=hk;refine QF (λb0=>?_) (λb0=>?_);have h:i<d.ps.n:=by have:=qdt b0;omega
 have hw:i64.wrap ((i:Int)+1)=((i+1:Nat):Int):=(w64 (by omega) (by omega)).trans (by omega)
 iterate 2 (refine QH ?_ ?_;rotate_left)
 iterate 72 refine Qt (by first|exact tv|exact h|exact qRr|rfl) ?_
 refine Qj λa0=>?_;refine Qk λg0=>?_;refine⟨i+1,h,by show d.ps.n-(i+1)<d.ps.n-i;omega,λ_ _ r=>r,rfl,rfl,_,QW2 ..,?_⟩
 rotate_left
 obtain rfl:i=d.ps.n:=by have:=qdf b0;omega
 refine⟨_,⟨rfl,rfl⟩,rfl,rfl,_,QcK ..,?_⟩
 rotate_left
 all_goals first|(show _=true;(first|rfl|(simp at b0 ⊢;omega)))|(repeat' first|with_reducible refine QP ?_ ?_|exact tv|exact qRr|exact hw|exact rfl|refine aI ?_ ?_)
def QIG(id c:Nat)(d:Puz)(E:ECt):List (Nat×Blk):=[(id,.cells 0 152 (KR d++[.map c,.nils])),(c,.mp E.1 E.2)]
abbrev nbH(P:Program)(d:Puz)(E:ECt):Hnd:={ hnd (mkF P KF) 1 with loop:=λ_=>KE 8 [] (QBI d ([],0) (0:Nat)) [(True,.exit 0,QIr d E)] }
theorem Qfg(hn:d.ps.n<2^62)(G:Ctx)(hrd:G.rd=none)(hG:G.n=8):Qu (mkF prog KF) G (nbH prog d (m1 d d.ps.n)) (Qp f60):=by
 refine KM (body:=QJ f60 0) (Ke JG) hrd (by kernel_rfl) ?_
 refine Vn (I:=λi=>QBI d (m1 d i) i) (n0:=8) (Ke JG) (by omega) (λi hs=>QU5 d i hn G hrd (by omega)) (λs hs=>(by decide:8<=104)) ?_ (QYv d hn) (s0:=0) (Nat.zero_le _) ?_
 .rintro s e J ⟨_,rfl⟩;exact(by decide:8<=104)
 .rintro e J ⟨rfl,rfl⟩;exact⟨_,qmc,trivial,rfl,rfl⟩
def nbU:UC:=⟨8,⟨1,[(0,.agg (KR d))],Ql.blk 0 d.ps,8⟩,λm=>.ptr m 0 0,λm=>QIG m (m+1) d E⟩
noncomputable abbrev QMu(d:Puz):List (Nat×Blk):=
  [(48,.cells 0 152 (List.append (waf d) ([.map 32,.nils]))),(0,.frz (List.append (waa) ((List.append (waG) ((List.append (wbk) ([.int .i64])))))) d.ps.n λi=>QA.enc (d.ps.get i)),(32,.mp E.1 E.2)]
theorem QdG :VF (mkF prog KF) (nbH prog d E) f60 (nbU d E) = .ak (([0=0,0=0,0=0,0=0,0=0]++wcI d++[(0:Int)=0])++wab d++[cO=cO]++wab d++([cO=cO,([]:List MapEntry)=[],0=0]++wae d)) (.asm (True) (.all (λ(g0:Nat->Value)=>.leaf (.ptr 48 0 0) ((QMu E d))))):=by kernel_rfl
theorem QTJ :QG 8 [(.ptr 48 0 0)] ((QMu E d)) (KP (nbU d E))=(some ([0=0,0=0]++wab d++[cO=cO,E.1=E.1,E.2=E.2])):=by kernel_rfl
theorem QEz(nid:Nat):Ja 8 8 nid (8+k)=nid+k:=by
 have:Nat.blt (8+k) 8=false:=QAA (by omega)
 simp only[Ja,this];omega
theorem QdN{i:Nat}(h:i<8)(nid:Nat):Ja 8 8 nid i=i:=by
 simp only[Ja,QEc h]
theorem QTi:(nbU d E).Ok:=by
 refine⟨(by decide:8<=8),rfl,rfl,?_,rfl,λnid h=>?_,λnid h=>?_⟩
 .intro q hq;simp only[UC.po,nbU,QIG,List.mem_cons,List.not_mem_nil,or_false]at hq;rcases hq with rfl|rfl
  .exact⟨rfl,rfl,rfl,λh=>absurd (show 8<8 from h) (by decide)⟩
  .exact⟨rfl,rfl,rfl,λh=>absurd (show 9<8 from h) (by decide)⟩
 .have e0:=QEz 0 nid;simp only[UC.va,nbU,AV.mapId,Nat.add_zero]at e0 ⊢;rw[e0]
 .have e0:=QEz 0 nid;have e1:=QEz 1 nid;have l0:=QdN (i:=0) (by decide) nid
  simp only[UC.po,nbU,QIG,KR,Ql.val,List.cons_append,List.nil_append,List.map_cons,List.map_nil,Blk.mapId,AV.mapId,AV.mapIdL,Nat.add_zero,Nat.zero_add]at e0 e1 l0 ⊢;rw[e0,e1,l0]
theorem Zz(hn:d.ps.n<2^62):QR prog 60 (uFC (nbU d (m1 d d.ps.n))):=by
 refine Ks (E:=mkF prog KF) (Ke JG) func60 (by kernel_rfl) (by kernel_rfl) (QTi ..) (Qfg d hn) ⟨?_⟩
 generalize m1 d d.ps.n=E;refine Qf (QdG d E) ?_
 iterate 35 refine Qt (by first|exact tv|exact qRr|rfl) ?_
 refine Qj λa0=>?_;refine Qk λg0=>?_;refine⟨rfl,rfl,_,QTJ d E,?_⟩
 rotate_left
 all_goals (repeat' first|exact tv|exact qRr|refine aI ?_ ?_)
structure Lay where
 piece:Int
 turn:Int
instance : QA Lay where
  ks := [.int .i64,.int .i64]
  enc p j := match j with
    | 0 => p.piece
    | _ => p.turn
  dec f := ⟨f 0,f 1⟩
  ok _ := rfl
instance : Enc Lay where
  enc x := .agg [.int false .i64 x.piece,.int false .i64 x.turn]
  dec | .agg [.int _ .i64 a0,.int _ .i64 a1] => some ⟨a0,a1⟩ | _ => none
  ok v x h := by
    split at h <;> (try (cases h; done))
    simp only[qsI]at h; subst h; exact⟨λ_=>rfl,rfl⟩
structure Pt where
 cell:Int
 lay:Lay
instance : QA Pt where
  ks := [.int .i64,.int .i64,.int .i64]
  enc p j := match j with
    | 0 => p.cell
    | 1 => p.lay.piece
    | _ => p.lay.turn
  dec f := ⟨f 0,⟨f 1,f 2⟩⟩
  ok _ := rfl
def QBA(id:Nat)(L:List Lay):Nat×Blk:=(id,.frz kB L.length λi=>QA.enc (L.getD i ⟨0,0⟩))
def brC:List AV:=KR d++[.map 201,.slz 210 0 n (.of 0)]
def brR:List (Nat×Blk):=(200,.cellsR 0 152 (brC d n))::Ql.blk 0 d.ps
def KY(a b:Int):Bool:=(Vs (d.ps.get a.toNat) b.toNat).kind==0
def flU(a b:Int):UC:=⟨0,⟨2,[(0,.ptr 200 0 0),(1,.agg [.int false .i64 a,.int false .i64 b])],brR d n,216⟩,λ_=>.bool false (KY d a b),λ_=>[]⟩
def tnV:Int:=cond (d.turn&&decide (0<a)) 4 1
def tnU:UC:=⟨0,⟨2,[(0,.ptr 200 0 0),(1,.int false .i64 a)],brR d n,216⟩,λ_=>.int false .i64 (tnV d a),λ_=>[]⟩
theorem QXB(a b:Int):VF (mkF prog KF) (hnd (mkF prog KF) 1) f137 (flU d n a b)=QC.need (decide ((0:Int)<=a/\a<(↑d.ps.n:Int))&&decide (d.ps.n<=d.ps.n)) (QC.need (decide ((0:Int)<=b/\b<(4:Int))) (QC.br (decide (b=(0:Int))) (QC.need (decide (a.toNat<d.ps.n)) (QC.leaf (AV.bool false ((d.ps.get a.toNat).up.kind==(0:Int))) ([]))) (QC.br (decide (b=(1:Int))) (QC.need (decide (a.toNat<d.ps.n)) (QC.leaf (AV.bool false ((d.ps.get a.toNat).right.kind==(0:Int))) ([]))) (QC.br (decide (b=(2:Int))) (QC.need (decide (a.toNat<d.ps.n)) (QC.leaf (AV.bool false ((d.ps.get a.toNat).down.kind==(0:Int))) ([]))) (QC.need (decide (a.toNat<d.ps.n)) (QC.leaf (AV.bool false ((d.ps.get a.toNat).left.kind==(0:Int))) ([]))))))):=by kernel_rfl
theorem QUV(a b:Int)(c v:Bool):QG 216 [.bool c v] [] (KP (flU d n a b))=( some [v=KY d a b]):=by kernel_rfl
theorem QW3:VF (mkF prog KF) (hnd (mkF prog KF) 1) f52 (tnU d n a)=QC.br (d.turn) (QC.br (decide (a>(0:Int))) (QC.leaf (vj (4:Int)) ([])) (QC.leaf (vj (1:Int)) ([]))) (QC.leaf (vj (1:Int)) ([])):=by kernel_rfl
theorem Qda(a v:Int)(c:Bool):QG 216 [.int c .i64 v] [] (KP (tnU d n a))=( some [v=tnV d a]):=by kernel_rfl
theorem QLE(a b:Int)(h1:0<=a)(h2:a<d.ps.n)(h3:0<=b)(h4:b<4):QR prog 137 (uFC (flU d n a b)):=by
 refine Ks (E:=mkF prog KF) (Ke JG) (c:=Qp f137) func137 (by kernel_rfl) (by kernel_rfl) (QRj (Nat.zero_le _) rfl rfl λ_=>rfl) (λG h1 _=>Q1 (Ke JG) 1 G _ h1) ⟨?_⟩
 refine Qf (QXB d n a b) ?_;have fin:∀(v:Bool),v=KY d a b->(QC.leaf (.bool false v) []).den (jH (flU d n a b)):=λv h=>⟨rfl,rfl,_,QUV d n a b false v,⟨h,trivial⟩⟩
 iterate 2 (refine QH ?_ ?_;rotate_left)
 refine QF (λb0=>?_) (λb0=>?_);refine QH ?_ ?_;rotate_left
 .obtain rfl:b=0:=qdt b0;exact fin _ rfl
 refine QF (λb1=>?_) (λb1=>?_);refine QH ?_ ?_;rotate_left
 .obtain rfl:b=1:=qdt b1;exact fin _ rfl
 refine QF (λb2=>?_) (λb2=>?_);refine QH ?_ ?_;rotate_left
 .obtain rfl:b=2:=qdt b2;exact fin _ rfl
 refine QH ?_ ?_;rotate_left
 .obtain rfl:b=3:=by
   have h0:=qdf b0;have h1:=qdf b1;have h2:=qdf b2;omega
  exact fin _ rfl
 all_goals simp;omega
theorem YL:QR prog 52 (uFC (tnU d n a)):=by
 refine Ks (E:=mkF prog KF) (Ke JG) (c:=Qp f52) func52 (by kernel_rfl) (by kernel_rfl) (QRj (Nat.zero_le _) rfl rfl λ_=>rfl) (λG h1 _=>Q1 (Ke JG) 1 G _ h1) ⟨?_⟩
 refine Qf (QW3 d n a) ?_;have fin:∀(v:Int),v=tnV d a->(QC.leaf (.int true .i64 v) []).den (jH (tnU d n a)):=λv h=>⟨rfl,rfl,_,Qda d n a v true,⟨h,trivial⟩⟩;refine QF (λb0=>?_) (λb0=>?_);refine QF ?_ ?_<;>intro b1
 .refine fin _ ?_;have:decide (0<a)=true:=b1;rw[tnV,b0,this];rfl
 .refine fin _ ?_;have:decide (0<a)=false:=b1;rw[tnV,b0,this];rfl
 .refine fin _ ?_;rw[tnV,b0];rfl
def WD(K:Rw Pt)(c:Int)(x:Lay)(k:Nat):Bool:=((K.get k).cell==c && !((K.get k).lay.piece==x.piece&&(K.get k).lay.turn==x.turn))||((K.get k).lay.piece==x.piece && !((K.get k).cell==c))
def Qq(K:Rw Pt)(c:Int)(x:Lay):Bool:=(QX (WD K c x) K.n 0).isNone
def alJ(K:Rw Pt)(c:Int)(x:Lay)(k:Nat):JSt:=⟨40,[(1,.int false .i64 c),(5,.ptr 8 0 0),(9,.slz 0 0 K.n (.of 0)),(10,.int false .i64 K.n),(11,.int false .i64 k)],[(8,.cells 0 49 (Enc.enc x).cells)]++Ql.blk 0 K,48⟩
def QGe:JSt:=⟨40,[(6,.bool false false)],[],48⟩
def QGk:JSt:=⟨40,[],[],48⟩
def QJo:Ex->List Nat
 | .normal=>[1,5,9,10,11]
 | .exit _=>[]
 | .ret=>[6]
theorem QfZ(K:Rw Pt)(c:Int)(x:Lay)(k:Nat)(g:Nat->Value):exec (mkS prog KF) (hnd (mkS prog KF) 1) (QJ f104 0) (JSt.inst (alJ K c x k) g) (Q9 [] QJo) = .br (decide ((k:Int)<(K.n:Int))) (.need (decide ((0:Int)<=(k:Int)/\(k:Int)<(K.n:Int))&&decide (K.n<=K.n)) (.need (decide (k<K.n)) (.need (!(K.get k).cell==c||(K.get k).cell==c) (.need (!(K.get k).cell==c||(K.get k).cell==c&&(K.get k).cell==c) (.need (!(K.get k).cell==c||(K.get k).cell==c) (.bnd ((K.get k).cell==c&&!((K.get k).lay.piece==x.piece&&((K.get k).lay.turn==x.turn&&true))) (λ(x0:Bool)=>.need (!!x0||!x0) (.need (!!x0||!x0) (.need (!!x0||!x0) (.need (!!x0||!x0&&!x0) (.need (!!x0||!x0) (.need (!(!x0&&(K.get k).lay.piece==x.piece)||!x0&&(K.get k).lay.piece==x.piece) (.need (!(!x0&&(K.get k).lay.piece==x.piece)||!x0&&(K.get k).lay.piece==x.piece&&(!x0&&(K.get k).lay.piece==x.piece)) (.need (!!x0||!x0&&(!(K.get k).lay.piece==x.piece||!x0&&(K.get k).lay.piece==x.piece)) (.bnd ((K.get k).lay.piece==x.piece&&(K.get k).cell != c) (λ(x1:Bool)=>.need (x0||!x0) (.bnd (x0||x1) (λ(x2:Bool)=>.br (x2) (.leaf (.tup [.nili,.ptr 40 0 0,.bool true false]) ([])) (.leaf (.tup [.nilp,.ptr 40 0 0,vi c,.ptr 8 0 0,.slz 0 0 K.n cO,vi (K.n:Int),vi (i64.wrap ((k:Int)+1))]) ([(8,.cells 0 49 [vi x.piece,vi x.turn]),(0,.frz [.int .i64,.int .i64,.int .i64] K.n λi=>QA.enc (K.get i))])))))))))))))))))))) (.leaf (.tup [.ptr 0 0 0,.ptr 40 0 0]) ([])):=by kernel_rfl
theorem QWR :QG 8 [AV.bool true false] ([]) QGe=( some [false=false]):=by kernel_rfl
theorem QVg(K:Rw Pt)(c:Int)(x:Lay)(k k':Nat):QG 8 [vi c,AV.ptr (8:Nat) (0:Nat) (0:Nat),AV.slz (0:Nat) (0:Nat) K.n cO,vi (↑K.n:Int),vi (i64.wrap ((↑k:Int)+(1:Int)))] ([((8:Nat),Blk.cells (0:Nat) (49:Nat) [vi x.piece,vi x.turn]),((0:Nat),Blk.frz [CK.int i64,CK.int i64,CK.int i64] K.n λi=>QA.enc (K.get i))]) (alJ K c x k')=( some [c=c,0=0,0=0,0=0,K.n=K.n,cO=cO,(↑K.n:Int)=(↑K.n:Int),i64.wrap ((↑k:Int)+(1:Int))=(↑k':Int),x.piece=x.piece,x.turn=x.turn,K.n<=K.n,QB (3:Nat) K.n (λi=>QA.enc (K.get i)) λi=>QA.enc (K.get i)]):=by kernel_rfl
theorem QZz :QG 8 [] ([]) QGk=( some []):=by kernel_rfl
def alR(K:Rw Pt)(c:Int)(x:Lay)(k:Nat)(e:Ex)(J:JSt):Prop:=(e = .ret/\(QX (WD K c x) (K.n-k) k).isNone=false/\J=QGe)∨(e = .exit 0/\(QX (WD K c x) (K.n-k) k).isNone=true/\J=QGk)
theorem QZH(K:Rw Pt)(c:Int)(x:Lay)(hn:K.n<=1000):Ji (alJ K c x) (λk=>k<=K.n) (λk=>K.n-k) (alR K c x) 8 QJo [] (mkS prog KF) (λ_=>hnd (mkS prog KF) 1) (QJ f104 0):=by
 refine⟨λk g0 hk=>Qf (QfZ K c x k g0) ?_⟩;have hk:k<=K.n:=hk;refine QF (λb0=>?_) (λb0=>?_);have h:k<K.n:=by have:=qdt b0;omega
 have hf:=VX (p:=WD K c x) h
 iterate 5 (refine QH ?_ ?_;rotate_left)
 refine QE6 λz0 y0=>?_
 iterate 8 (refine QH ?_ ?_;rotate_left)
 refine QE6 λz1 y1=>?_;refine QH ?_ ?_;rotate_left;refine QE6 λz2 y2=>?_;refine QF ?_ ?_<;>intro b1
 .have hb:WD K c x k=true:=by rw[<-b1,y2,y1,y0,WD];simp[bne]
  exact⟨_,.inl ⟨rfl,by rw[hf.1 hb];rfl,rfl⟩,rfl,rfl,_,QWR,⟨rfl,trivial⟩⟩
 have hb:WD K c x k=false:=by rw[<-b1,y2,y1,y0,WD];simp[bne]
 refine⟨k+1,h,by show K.n-(k+1)<K.n-k;omega,λe J h=>by unfold alR at h ⊢;rw[hf.2 hb];exact h,rfl,rfl,_,QVg K c x k (k+1),?_⟩
 rotate_left
 .have h:K.n<=k:=by have:=qdf b0;omega
  exact⟨_,.inr ⟨rfl,by rw[show K.n-k=0 by omega];rfl,rfl⟩,rfl,rfl,_,QZz,trivial⟩
 all_goals first|(show _=true;(first|rfl|(simp at b0 ⊢;omega)|grind))|(repeat' first|with_reducible refine QP ?_ ?_|exact tv|exact qRr|exact Ju h hn|refine aI ?_ ?_)
def alX(K:Rw Pt)(c:Int)(x:Lay):List (Prop×Ex×JSt):=[(Qq K c x=false,.ret,QGe),(Qq K c x=true,.exit 0,QGk)]
abbrev alH(P:Program)(K:Rw Pt)(c:Int)(x:Lay):Hnd:={ hnd (mkS P KF) 1 with loop:=λ_=>JI (K.n<=1000) (KE 8 [] (alJ K c x (0:Nat)) (alX K c x)) }
theorem QYa(K:Rw Pt)(c:Int)(x:Lay)(G:Ctx)(hrd:G.rd=none)(hG:G.n=8):Qu (mkS prog KF) G (alH prog K c x) (Qp f104):=by
 refine KM (body:=QJ f104 0) (QBz JG) hrd (by kernel_rfl) ?_
 refine Jm λhl=>?_;refine Vn (n0:=8) (QBz JG) (by omega) (λs hs=>Q1 (QBz JG) 1 G _ hrd) (λs hs=>(by decide:8<=48)) ?_ (QZH K c x hl) (s0:=0) (Nat.zero_le _) ?_
 .rintro s e J (⟨_,_,rfl⟩|⟨_,_,rfl⟩)<;>exact(by decide:8<=48)
 .rintro e J (⟨rfl,h,rfl⟩|⟨rfl,h,rfl⟩)
  .exact⟨_,qmc,h,rfl,rfl⟩
  .exact⟨_,List.mem_cons_of_mem _ qmc,h,rfl,rfl⟩
def HY:WF ((Rw Pt)×Int×Lay×Unit):=λ|(K,(c,(x,_)))=>(decide (K.n<=1000),.bool false (Qq K c x),[])
def QSC:FC:=wFC HY
theorem QcS(K:(Rw Pt))(c:Int)(x:Lay):Ku (mkS prog KF) (alH prog K c x) f104 (Qi.vals 0 ((K,c,x,()):(Rw Pt)×Int×Lay×Unit)) (Qi.blks 0 ((K,c,x,()):(Rw Pt)×Int×Lay×Unit)) 8=QC.ask (K.n<=(1000:Nat)) (QC.ask (c=c) (QC.ask (0=0) (QC.ask (0=0) (QC.ask (0=0) (QC.ask (K.n=K.n) (QC.ask (cO=cO) (QC.ask ((↑K.n:Int)=(↑K.n:Int)) (QC.ask ((0:Int)=(0:Int)) (QC.ask (x.piece=x.piece) (QC.ask (x.turn=x.turn) (QC.ask (K.n<=K.n) (QC.ask (QB (3:Nat) K.n (λi=>QA.enc (K.get i)) λi=>QA.enc (K.get i)) (QC.both (QC.asm (Qq K c x=false) (QC.all (λ(g0:Nat->Value)=>QC.leaf (AV.bool false false) ([])))) (QC.asm (Qq K c x=true) (QC.all (λ(g1:Nat->Value)=>QC.leaf (AV.bool true true) ([]))))))))))))))))):=by kernel_rfl
theorem QTb:Jw (mkS prog KF) (Qp f104) 8 HY (λx_=>(alH prog x_.1 x_.2.1 x_.2.2.1)):=by
 refine⟨?_⟩;rintro⟨K,⟨c,⟨x,⟨⟩⟩⟩⟩ hp G h1 h2;exact QYa K c x G h1 h2
theorem QVJ:Jx (mkS prog KF) f104 8 HY (λx_=>(alH prog x_.1 x_.2.1 x_.2.2.1)):=by
 refine⟨?_⟩;rintro⟨K,⟨c,⟨x,⟨⟩⟩⟩⟩ hp;refine⟨⟨rfl,by simp[HY],rfl⟩,⟨?_⟩⟩
 rw[QcS K c x];simp only[HY]at hp;have hp:=qdt hp
 iterate 13 refine Qt (by first|exact tv|exact hp|exact qRr) ?_
 refine Kl ?_ ?_;refine Qj λa0=>?_;refine Qk λg0=>?_
 .exact Kw a0.symm rfl
 refine Qj λa1=>?_;refine Qk λg1=>?_
 .exact Kw a1.symm rfl
theorem QY2:QR prog 104 QSC:=
 VL (QBz JG) func104 (by kernel_rfl) (by kernel_rfl) (by decide) QTb QVJ
def W3:Tab:=Qc KF 104 QSC
theorem QFg:Qe W3:=JG.add QY2
def onS(x:Lay)(s:Int):Int:=(s+4-x.turn).tmod 4
def QAN:WF (Lay×Int×Unit):=λ|(x,(s,_))=>(decide ((0<=x.turn/\x.turn<=3)/\0<=s/\s<=3),.agg [vi x.piece,vi (onS x s)],[])
def QNf:FC:=wFC QAN
theorem QeV(x:Lay)(s:Int):Ku (mkE prog W3) (hnd (mkE prog W3) 1) f134 (Qi.vals 0 ((x,s,()):Lay×Int×Unit)) (Qi.blks 0 ((x,s,()):Lay×Int×Unit)) 8=QC.leaf (AV.agg [vi x.piece,vi ((i64.wrap (i64.wrap (s+(4:Int))-x.turn)).tmod (4:Int))]) ([]):=by kernel_rfl
theorem QUl:Jw (mkE prog W3) (Qp f134) 8 QAN (λx_=>(hnd (mkE prog W3) 1)):=by
 refine⟨?_⟩;rintro⟨x,⟨s,⟨⟩⟩⟩ hp G h1 h2;exact Q1 (QQ QFg) 1 G _ h1
theorem Qen:Jx (mkE prog W3) f134 8 QAN (λx_=>(hnd (mkE prog W3) 1)):=by
 refine⟨?_⟩;rintro⟨x,⟨s,⟨⟩⟩⟩ hp;refine⟨⟨rfl,by simp[QAN],rfl⟩,⟨?_⟩⟩
 rw[QeV x s];simp only[QAN]at hp;have hp:=qdt hp
 .refine Kw ?_ rfl
  have:(i64.wrap (i64.wrap (s+4)-x.turn)).tmod 4=onS x s:=by
   rw[w64 (n:=s+4) (by omega) (by omega),w64 (by omega) (by omega)];rfl
  rw[this];exact⟨⟨rfl,rfl⟩,⟨rfl,rfl⟩,trivial⟩
theorem QVw:QR prog 134 QNf:=
 VL (QQ QFg) func134 (by kernel_rfl) (by kernel_rfl) (by decide) QUl Qen
def QT:Tab:=Qc W3 134 QNf
theorem Qd:Qe QT:=QFg.add QVw
def Qo(c:Nat):Int:=(c:Int).tdiv d.wide
def Q2(c:Nat):Int:=(c:Int).tmod d.wide
def QU(c:Nat):Nat->Bool
 | 0=>Qo d c==0
 | 1=>Q2 d c==d.wide-1
 | 2=>Qo d c==d.high-1
 | _=>Q2 d c==0
def Kp(c:Nat)(x:Lay)(s:Nat):Bool:=QU d c s && !KY d x.piece (onS x s)
def QGx(L:List Lay):List (Nat×Blk):=(200,.cellsR 0 152 (brC d L.length))::QBA 210 L::(201,.mp E.1 E.2)::Ql.blk 0 d.ps
def myJ(L:List Lay)(x:Lay)(s:Nat):JSt:=⟨113,[(0,.ptr 200 0 0),(3,.ptr 216 0 0),(5,.int false .i64 L.length),(6,.int false .i64 (Qo d L.length)),(7,.int false .i64 (Q2 d L.length)),(49,.agg [.bool false (QU d L.length 0),.bool false (QU d L.length 1),.bool false (QU d L.length 2),.bool false (QU d L.length 3)]),(50,.int false .i64 s)],(216,.cells 0 49 (Enc.enc x).cells)::QGx d E L,224⟩
def zn:JSt:=⟨113,[(4,.bool false false)],[(201,.mp E.1 E.2)],224⟩
def QH2(L:List Lay)(x:Lay):JSt:=⟨113,[(0,.ptr 200 0 0),(3,.ptr 216 0 0),(5,.int false .i64 L.length),(6,.int false .i64 (Qo d L.length)),(7,.int false .i64 (Q2 d L.length))],(216,.cells 0 49 (Enc.enc x).cells)::QGx d E L,224⟩
def QRo:Ex->List Nat
 | .normal=>[0,3,5,6,7,49,50]
 | .exit _=>[0,3,5,6,7]
 | .ret=>[4]
def Gj(pb:List Prop->Bool)(U:UC):Tab:=Qc QT 137 (KB pb U)
abbrev QDs(L:List Lay)(d:Puz)(s:Nat)(x:Lay):List Prop:=
  ([0=0,0=0,x.piece=x.piece,onS x (s:Int)=onS x (s:Int)]++wab d++([cO=cO,0=0,L.length=L.length,cO
  = cO]++wae d))
noncomputable abbrev WQ(L:List Lay)(d:Puz):List AV:=
  [.bool false (QU d L.length 0),.bool false (QU d L.length 1),.bool false (QU d L.length 2),.bool false (QU d L.length 3)]
noncomputable abbrev wat(L:List Lay)(d:Puz):List AV:=[vi (L.length:Int),vi (Qo d L.length),vi (Q2 d L.length)]
noncomputable abbrev QK6(L:List Lay)(d:Puz):List AV:=
  (.nilp::.ptr 113 0 0::.ptr 200 0 0::.ptr 216 0 0::List.append (wat L d) ([.agg (WQ L d),.int true
  .i64 1]))
noncomputable abbrev J4(L:List Lay)(d:Puz)(x:Lay):List (Nat×Blk):=
  [(201,.mp E.1 E.2),(200,.cellsR 0 152 [vi d.pK.length,vi d.pK.aK,vi d.pK.oK,vi d.pK.dK.lo,.int false .i64
  d.pK.dK.hi,vi d.wide,vi d.high,.bool false d.turn,.slz 0 0 d.ps.n cO,.map 201,.slz 210 0 L.length cO]),(216,.cells 0 49 [.int
  false .i64 x.piece,vi x.turn]),(0,.frz (List.append (waa) ((List.append (waG) ((List.append (wbk) ([.int .i64]))))))
  d.ps.n λi=>QA.enc (d.ps.get i)),(210,.frz kB L.length λi=>QA.enc (L.getD i (Lay.mk (0:Int) (0:Int))))]
noncomputable abbrev QOR(L:List Lay)(d:Puz):List AV:=
  (.nilp::.ptr 113 0 0::.ptr 200 0 0::.ptr 216 0 0::List.append (wat L d) ([.agg (WQ L d),.int true
  .i64 2]))
noncomputable abbrev QJT(L:List Lay)(d:Puz):List AV:=
  (.nilp::.ptr 113 0 0::.ptr 200 0 0::.ptr 216 0 0::List.append (wat L d) ([.agg (WQ L d),.int true
  .i64 3]))
noncomputable abbrev QSD(L:List Lay)(d:Puz):List AV:=
  (.nilp::.ptr 113 0 0::.ptr 200 0 0::.ptr 216 0 0::List.append (wat L d) ([.agg (WQ L d),.int true
  .i64 4]))
noncomputable abbrev wbY:List AV:=[.nili,.ptr 113 0 0,.bool true false]
theorem QeG(pb:List Prop->Bool)(d:Puz)(E:ECt)(L:List Lay)(x:Lay)(s:Nat)(g:Nat->Value):exec (mkF prog (Gj pb (flU d L.length x.piece (onS x s)))) (hnd (mkF prog (Gj pb (flU d L.length x.piece (onS x s)))) 1) (QJ f105 0) (JSt.inst (myJ d E L x s) g) (Q9 [201] QRo) = .br (decide ((s:Int)<4)) (.need (decide ((0:Int)<=(s:Int)/\(s:Int)<4)) (.br (decide ((s:Int)=0)) (.br (QU d L.length 0) (.need (true&&(true&&true)&&decide (((0:Int)<=x.turn/\x.turn<=3)/\(0:Int)<=(s:Int)/\(s:Int)<=3)) (.need (pb ((QDs L d s x))) (.br (!KY d x.piece (onS x (s:Int))) (.leaf (.tup (wbY)) ([(201,.mp E.1 E.2)])) (.leaf (.tup (QK6 L d)) ((J4 E L d x)))))) (.leaf (.tup (QK6 L d)) ((J4 E L d x)))) (.br (decide ((s:Int)=1)) (.br (QU d L.length 1) (.need (true&&(true&&true)&&decide (((0:Int)<=x.turn/\x.turn<=3)/\(0:Int)<=(s:Int)/\(s:Int)<=3)) (.need (pb ((QDs L d s x))) (.br (!KY d x.piece (onS x (s:Int))) (.leaf (.tup (wbY)) ([(201,.mp E.1 E.2)])) (.leaf (.tup (QOR L d)) ((J4 E L d x)))))) (.leaf (.tup (QOR L d)) ((J4 E L d x)))) (.br (decide ((s:Int)=2)) (.br (QU d L.length 2) (.need (true&&(true&&true)&&decide (((0:Int)<=x.turn/\x.turn<=3)/\(0:Int)<=(s:Int)/\(s:Int)<=3)) (.need (pb ((QDs L d s x))) (.br (!KY d x.piece (onS x (s:Int))) (.leaf (.tup (wbY)) ([(201,.mp E.1 E.2)])) (.leaf (.tup (QJT L d)) ((J4 E L d x)))))) (.leaf (.tup (QJT L d)) ((J4 E L d x)))) (.br (QU d L.length 3) (.need (true&&(true&&true)&&decide (((0:Int)<=x.turn/\x.turn<=3)/\(0:Int)<=(s:Int)/\(s:Int)<=3)) (.need (pb ((QDs L d s x))) (.br (!KY d x.piece (onS x (s:Int))) (.leaf (.tup (wbY)) ([(201,.mp E.1 E.2)])) (.leaf (.tup (QSD L d)) ((J4 E L d x)))))) (.leaf (.tup (QSD L d)) ((J4 E L d x)))))))) (.leaf (.tup (.ptr 0 0 0::.ptr 113 0 0::.ptr 200 0 0::.ptr 216 0 0::wat L d)) ((J4 E L d x))):=by kernel_rfl
theorem Qfb:QG 216 [AV.bool true false] ([((201:Nat),Blk.mp E.1 E.2)]) (zn E)=( some [false=false,E.1=E.1,E.2=E.2]):=by kernel_rfl
noncomputable abbrev QJW(L:List Lay)(d:Puz):List AV:=
  (.ptr 200 0 0::.ptr 216 0 0::List.append (wat L d) ([.agg (WQ L d),vj 1]))
abbrev wcz(L:List Lay)(d:Puz):List Prop:=[(L.length:Int)=(L.length:Int),Qo d L.length=Qo d L.length,Q2 d L.length=Q2 d L.length]
abbrev wam(L:List Lay)(d:Puz):List Prop:=(wcz L d++[QU d L.length 0=QU d L.length 0,QU d
  L.length 1=QU d L.length 1,QU d L.length 2=QU d L.length 2,QU d L.length 3=QU d L.length 3])
abbrev QLN(L:List Lay)(d:Puz)(s':Nat)(x:Lay):List Prop:=
  (([0=0,0=0,0=0,0=0]++wam L d++[(1:Int)=(s':Int),x.piece=x.piece,x.turn=x.turn])++wab d++([cO=cO,0=0,L.length=L.length,cO=cO,L.length<=L.length,QB 2 L.length (λi=>QA.enc
  (L.getD i (Lay.mk (0:Int) (0:Int)))) λi=>QA.enc (L.getD i (Lay.mk (0:Int) (0:Int))),E.1=E.1,E.2=E.2]++wae d))
theorem Qci(L:List Lay)(x:Lay)(s':Nat):QG 216 (QJW L d) ((J4 E L d x)) (myJ d E L x s')=(some (QLN E L d s' x)):=by kernel_rfl
theorem QVS(L:List Lay)(x:Lay)(s':Nat):QG 216 (QJW L d) ((J4 E L d x)) (myJ d E L x s')=(some (QLN E L d s' x)):=by kernel_rfl
theorem QZB:QG 216 [AV.bool true false] ([((201:Nat),Blk.mp E.1 E.2)]) (zn E)=( some [false=false,E.1=E.1,E.2=E.2]):=by kernel_rfl
noncomputable abbrev QKL(L:List Lay)(d:Puz):List AV:=
  (.ptr 200 0 0::.ptr 216 0 0::List.append (wat L d) ([.agg (WQ L d),vj 2]))
abbrev wan(L:List Lay):List Prop:=[L.length<=L.length,QB 2 L.length (λi=>QA.enc
  (L.getD i (Lay.mk (0:Int) (0:Int)))) λi=>QA.enc (L.getD i (Lay.mk (0:Int) (0:Int)))]
abbrev QQw(L:List Lay)(d:Puz)(s':Nat)(x:Lay):List Prop:=
  (([0=0,0=0,0=0,0=0]++wam L d++[(2:Int)=(s':Int),x.piece=x.piece,x.turn=x.turn])++wab d++(([cO=cO,0=0,L.length=L.length,cO=cO]++wan L++[E.1=E.1,E.2=E.2])++wae d))
theorem QYE(L:List Lay)(x:Lay)(s':Nat):QG 216 (QKL L d) ((J4 E L d x)) (myJ d E L x s')=(some (QQw E L d s' x)):=by kernel_rfl
theorem Qd8(L:List Lay)(x:Lay)(s':Nat):QG 216 (QKL L d) ((J4 E L d x)) (myJ d E L x s')=(some (QQw E L d s' x)):=by kernel_rfl
theorem QUk:QG 216 [AV.bool true false] ([((201:Nat),Blk.mp E.1 E.2)]) (zn E)=( some [false=false,E.1=E.1,E.2=E.2]):=by kernel_rfl
noncomputable abbrev QL1(L:List Lay)(d:Puz):List AV:=
  (.ptr 200 0 0::.ptr 216 0 0::List.append (wat L d) ([.agg (WQ L d),vj 3]))
abbrev QLb(L:List Lay)(d:Puz)(s':Nat)(x:Lay):List Prop:=
  (([0=0,0=0,0=0,0=0]++wam L d++[(3:Int)=(s':Int),x.piece=x.piece,x.turn=x.turn])++wab d++(([cO=cO,0=0,L.length=L.length,cO=cO]++wan L++[E.1=E.1,E.2=E.2])++wae d))
theorem QVn(L:List Lay)(x:Lay)(s':Nat):QG 216 (QL1 L d) ((J4 E L d x)) (myJ d E L x s')=(some (QLb E L d s' x)):=by kernel_rfl
theorem QZl(L:List Lay)(x:Lay)(s':Nat):QG 216 (QL1 L d) ((J4 E L d x)) (myJ d E L x s')=(some (QLb E L d s' x)):=by kernel_rfl
theorem Qdw:QG 216 [AV.bool true false] ([((201:Nat),Blk.mp E.1 E.2)]) (zn E)=( some [false=false,E.1=E.1,E.2=E.2]):=by kernel_rfl
noncomputable abbrev QN5(L:List Lay)(d:Puz):List AV:=
  (.ptr 200 0 0::.ptr 216 0 0::List.append (wat L d) ([.agg (WQ L d),vj 4]))
abbrev QQ4(L:List Lay)(d:Puz)(s':Nat)(x:Lay):List Prop:=
  (([0=0,0=0,0=0,0=0]++wam L d++[(4:Int)=(s':Int),x.piece=x.piece,x.turn=x.turn])++wab d++(([cO=cO,0=0,L.length=L.length,cO=cO]++wan L++[E.1=E.1,E.2=E.2])++wae d))
theorem QX1(L:List Lay)(x:Lay)(s':Nat):QG 216 (QN5 L d) ((J4 E L d x)) (myJ d E L x s')=(some (QQ4 E L d s' x)):=by kernel_rfl
theorem QeL(L:List Lay)(x:Lay)(s':Nat):QG 216 (QN5 L d) ((J4 E L d x)) (myJ d E L x s')=(some (QQ4 E L d s' x)):=by kernel_rfl
theorem QXj(L:List Lay)(x:Lay):QG 216 (.ptr 200 0 0::.ptr 216 0 0::wat L d) ((J4 E L d x)) (QH2 d E L x)=( some (([0=0,0=0,0=0,0=0]++wcz L d++[x.piece=x.piece,x.turn=x.turn])++wab d++(([cO=cO,0=0,L.length=L.length,cO=cO]++wan L++[E.1=E.1,E.2=E.2])++wae d))):=by kernel_rfl
