/- - -/
import Derived.Test.YtekbmehgcofnkaaGreatKw
set_option linter.all false
noncomputable section
open Go.Proofs.Tryz
open Go.IntKind (i64)
set_option maxRecDepth 100000
namespace Go.Proofs.YtekbmehgcofnkaaGreat
open Go.SX Go.SX.Told
variable {p q:QV}{t:Nat}(d:Puz)(E:ECt)(i:Nat)
def meF(p q:QV)(s t:Nat):Int:=(Jo d.pK (ZW p s) (ZW q t)).1
def QC7(i s k t:Nat)(n:Int)(E:ECt):ECt:=(JE [(i:Int),(s:Int),(k:Int),(t:Int)] (KM i s k t) (.int .i64 n) E.2 E.1,clL [(i:Int),(s:Int),(k:Int),(t:Int)] E.2 E.1)
def stE(p q:QV)(i k s t:Nat)(E:ECt):ECt:=cond (((i:Int) != (k:Int))&&(meF d p q s t != 0)) (QC7 i s k t (meF d p q s t) E) E
def m4(d:Puz)(p q:QV)(i k s:Nat)(E:ECt):Nat->ECt
 | 0=>E
 | t+1=>stE d p q i k s t (m4 d p q i k s E t)
def m3(d:Puz)(p q:QV)(i k:Nat)(E:ECt):Nat->ECt
 | 0=>E
 | s+1=>m4 d p q i k s (m3 d p q i k E s) 4
def m2(d:Puz)(p:QV)(i:Nat)(E:ECt):Nat->ECt
 | 0=>E
 | k+1=>m3 d p (d.ps.get k) i k (m2 d p i E k) 4
def m1(d:Puz):Nat->ECt
 | 0=>([],0)
 | i+1=>m2 d (d.ps.get i) i (m1 d i) d.ps.n
def WfE:Prop:=wf4 .i64 E.1=true
theorem QbK{es:List MapEntry}(h:wf4 .i64 es=true)(a b c d n:Int):∀ i,wf4 .i64 (J9 (KM a b c d) (.int .i64 n) es i)=true:=by
 induction es with
 | nil=>intro i;cases i<;>rfl
 | cons e es ih=>
  simp only[wf4,List.all_cons,qbA]at h;intro i;cases i with
  | zero=>simp only[J9,wf4,List.all_cons,qbA];exact⟨⟨rfl,rfl⟩,h.2⟩
  | succ i=>
   have:=ih h.2 i;simp only[wf4]at this;simp only[J9,wf4,List.all_cons,qbA];exact⟨h.1,this⟩
theorem QPa{E:ECt}(h:WfE E)(i s k t:Nat)(n:Int):WfE (QC7 i s k t n E):=by
 show wf4 .i64 (JE _ _ _ E.2 E.1)=true;unfold JE;split
 .exact QbK h _ _ _ _ _ _
 .have h:wf4 .i64 E.1=true:=h;simp only[wf4,List.all_append,qbA]at h ⊢;exact⟨h,rfl⟩
theorem QeI{d:Puz}{i k s:Nat}{E:ECt}(h:WfE E):WfE (stE d p q i k s t E):=by
 unfold stE;cases ((i:Int) != (k:Int))&&(meF d p q s t != 0)
 .exact h
 .exact QPa h _ _ _ _ _
theorem QHj{d:Puz}{p q:QV}{i k s:Nat}{E:ECt}(h:WfE E):∀ t,WfE (m4 d p q i k s E t)
 | 0=>h
 | t+1=>QeI (QHj h t)
theorem QGP{d:Puz}{p q:QV}{i k:Nat}{E:ECt}(h:WfE E):∀ s,WfE (m3 d p q i k E s)
 | 0=>h
 | s+1=>QHj (QGP h s) 4
theorem QFn{d:Puz}{p:QV}{i:Nat}{E:ECt}(h:WfE E):∀ k,WfE (m2 d p i E k)
 | 0=>h
 | k+1=>QGP (QFn h k) 4
theorem QHe(d:Puz):∀ i,WfE (m1 d i)
 | 0=>rfl
 | i+1=>QFn (QHe d i) _
theorem QEK{d:Puz}{i k s:Nat}{E:ECt}(h1:((i:Int) != (k:Int))=true)(h2:(meF d p q s t != 0)=true):stE d p q i k s t E=QC7 i s k t (meF d p q s t) E:=by unfold stE;rw[h1,h2];rfl
theorem QDZ{d:Puz}{i k s:Nat}{E:ECt}(h2:(meF d p q s t != 0)=false):stE d p q i k s t E=E:=by unfold stE;rw[h2,Bool.and_false];rfl
theorem QDc{d:Puz}{i k s:Nat}{E:ECt}(h1:((i:Int) != (k:Int))=false):stE d p q i k s t E=E:=by unfold stE;rw[h1];rfl
set_option maxHeartbeats 4000000 in
theorem Qb7(p q:QV)(i k s:Nat)(E:ECt)(hE:WfE E):JL (λt=>Ve d (m4 d p q i k s E t) p q (ZW p s) i k s t) (λt=>t<=4) (λt=>4-t) (λ_ e J=>e = .exit 6/\J=QII d (m4 d p q i k s E 4) p q i k s) 8 QL0 [] (mkF prog KG) (λ_=>hnd (mkF prog KG) 1) (QY (QY (QY (QH f60 0)))):=by
 refine⟨λt g0 hk=>Qe (QZ7 d (m4 d p q i k s E t) p q (ZW p s) i k s t g0) ?_⟩;have hk:t<=4:=hk;have hw:wf4 .i64 (m4 d p q i k s E t).1=true:=QHj hE t;refine QF (λb0=>?_) (λb0=>?_);refine QG ?_ ?_;rotate_left;refine QF (λb1=>?_) (λb1=>?_);obtain rfl:t=0:=by have:=qdt b1;omega
 refine QG ?_ ?_;rotate_left;refine QF (λb2=>?_) (λb2=>?_);refine QF (λb3=>?_) (λb3=>?_);refine QG ?_ ?_;rotate_left
 .have hs:m4 d p q i k s E 1=_:=QEK b2 b3;refine⟨1,by show 1<=4;omega,by show 4-1<4-0;omega,λ_ _ r=>r,rfl,rfl,_,QUK ..,?_⟩
  have q1:_=(m4 d p q i k s E 1).1:=congrArg Prod.fst hs.symm;have q2:_=(m4 d p q i k s E 1).2:=congrArg Prod.snd hs.symm
  repeat' first|with_reducible refine QO ?_ ?_|exact tv|exact qRr|exact q1|exact q2|exact rfl|refine aI ?_ ?_
 .have hs:m4 d p q i k s E 1=_:=QDZ b3;refine⟨1,by show 1<=4;omega,by show 4-1<4-0;omega,λ_ _ r=>r,rfl,rfl,_,QZB ..,?_⟩
  have q1:_=(m4 d p q i k s E 1).1:=congrArg Prod.fst hs.symm;have q2:_=(m4 d p q i k s E 1).2:=congrArg Prod.snd hs.symm
  repeat' first|with_reducible refine QO ?_ ?_|exact tv|exact qRr|exact q1|exact q2|exact rfl|refine aI ?_ ?_
 .have hs:m4 d p q i k s E 1=_:=QDc b2;refine⟨1,by show 1<=4;omega,by show 4-1<4-0;omega,λ_ _ r=>r,rfl,rfl,_,QTG ..,?_⟩
  have q1:_=(m4 d p q i k s E 1).1:=congrArg Prod.fst hs.symm;have q2:_=(m4 d p q i k s E 1).2:=congrArg Prod.snd hs.symm
  repeat' first|with_reducible refine QO ?_ ?_|exact tv|exact qRr|exact q1|exact q2|exact rfl|refine aI ?_ ?_
 refine QF (λb4=>?_) (λb4=>?_);obtain rfl:t=1:=by have:=qdt b4;omega
 refine QG ?_ ?_;rotate_left;refine QF (λb5=>?_) (λb5=>?_);refine QF (λb6=>?_) (λb6=>?_);refine QG ?_ ?_;rotate_left
 .have hs:m4 d p q i k s E 2=_:=QEK b5 b6;refine⟨2,by show 2<=4;omega,by show 4-2<4-1;omega,λ_ _ r=>r,rfl,rfl,_,Qbe ..,?_⟩
  have q1:_=(m4 d p q i k s E 2).1:=congrArg Prod.fst hs.symm;have q2:_=(m4 d p q i k s E 2).2:=congrArg Prod.snd hs.symm
  repeat' first|with_reducible refine QO ?_ ?_|exact tv|exact qRr|exact q1|exact q2|exact rfl|refine aI ?_ ?_
 .have hs:m4 d p q i k s E 2=_:=QDZ b6;refine⟨2,by show 2<=4;omega,by show 4-2<4-1;omega,λ_ _ r=>r,rfl,rfl,_,QWE ..,?_⟩
  have q1:_=(m4 d p q i k s E 2).1:=congrArg Prod.fst hs.symm;have q2:_=(m4 d p q i k s E 2).2:=congrArg Prod.snd hs.symm
  repeat' first|with_reducible refine QO ?_ ?_|exact tv|exact qRr|exact q1|exact q2|exact rfl|refine aI ?_ ?_
 .have hs:m4 d p q i k s E 2=_:=QDc b5;refine⟨2,by show 2<=4;omega,by show 4-2<4-1;omega,λ_ _ r=>r,rfl,rfl,_,Qc7 ..,?_⟩
  have q1:_=(m4 d p q i k s E 2).1:=congrArg Prod.fst hs.symm;have q2:_=(m4 d p q i k s E 2).2:=congrArg Prod.snd hs.symm
  repeat' first|with_reducible refine QO ?_ ?_|exact tv|exact qRr|exact q1|exact q2|exact rfl|refine aI ?_ ?_
 refine QF (λb7=>?_) (λb7=>?_);obtain rfl:t=2:=by have:=qdt b7;omega
 refine QG ?_ ?_;rotate_left;refine QF (λb8=>?_) (λb8=>?_);refine QF (λb9=>?_) (λb9=>?_);refine QG ?_ ?_;rotate_left
 .have hs:m4 d p q i k s E 3=_:=QEK b8 b9;refine⟨3,by show 3<=4;omega,by show 4-3<4-2;omega,λ_ _ r=>r,rfl,rfl,_,QTO ..,?_⟩
  have q1:_=(m4 d p q i k s E 3).1:=congrArg Prod.fst hs.symm;have q2:_=(m4 d p q i k s E 3).2:=congrArg Prod.snd hs.symm
  repeat' first|with_reducible refine QO ?_ ?_|exact tv|exact qRr|exact q1|exact q2|exact rfl|refine aI ?_ ?_
 .have hs:m4 d p q i k s E 3=_:=QDZ b9;refine⟨3,by show 3<=4;omega,by show 4-3<4-2;omega,λ_ _ r=>r,rfl,rfl,_,QUb ..,?_⟩
  have q1:_=(m4 d p q i k s E 3).1:=congrArg Prod.fst hs.symm;have q2:_=(m4 d p q i k s E 3).2:=congrArg Prod.snd hs.symm
  repeat' first|with_reducible refine QO ?_ ?_|exact tv|exact qRr|exact q1|exact q2|exact rfl|refine aI ?_ ?_
 .have hs:m4 d p q i k s E 3=_:=QDc b8;refine⟨3,by show 3<=4;omega,by show 4-3<4-2;omega,λ_ _ r=>r,rfl,rfl,_,Qct ..,?_⟩
  have q1:_=(m4 d p q i k s E 3).1:=congrArg Prod.fst hs.symm;have q2:_=(m4 d p q i k s E 3).2:=congrArg Prod.snd hs.symm
  repeat' first|with_reducible refine QO ?_ ?_|exact tv|exact qRr|exact q1|exact q2|exact rfl|refine aI ?_ ?_
 obtain rfl:t=3:=by
  have h0:=qdt b0;have h1:=qdf b1;have h2:=qdf b4;have h3:=qdf b7;omega
 refine QG ?_ ?_;rotate_left;refine QF (λb10=>?_) (λb10=>?_);refine QF (λb11=>?_) (λb11=>?_);refine QG ?_ ?_;rotate_left
 .have hs:m4 d p q i k s E 4=_:=QEK b10 b11;refine⟨4,by show 4<=4;omega,by show 4-4<4-3;omega,λ_ _ r=>r,rfl,rfl,_,QTn ..,?_⟩
  have q1:_=(m4 d p q i k s E 4).1:=congrArg Prod.fst hs.symm;have q2:_=(m4 d p q i k s E 4).2:=congrArg Prod.snd hs.symm
  repeat' first|with_reducible refine QO ?_ ?_|exact tv|exact qRr|exact q1|exact q2|exact rfl|refine aI ?_ ?_
 .have hs:m4 d p q i k s E 4=_:=QDZ b11;refine⟨4,by show 4<=4;omega,by show 4-4<4-3;omega,λ_ _ r=>r,rfl,rfl,_,Qde ..,?_⟩
  have q1:_=(m4 d p q i k s E 4).1:=congrArg Prod.fst hs.symm;have q2:_=(m4 d p q i k s E 4).2:=congrArg Prod.snd hs.symm
  repeat' first|with_reducible refine QO ?_ ?_|exact tv|exact qRr|exact q1|exact q2|exact rfl|refine aI ?_ ?_
 .have hs:m4 d p q i k s E 4=_:=QDc b10;refine⟨4,by show 4<=4;omega,by show 4-4<4-3;omega,λ_ _ r=>r,rfl,rfl,_,QTw ..,?_⟩
  have q1:_=(m4 d p q i k s E 4).1:=congrArg Prod.fst hs.symm;have q2:_=(m4 d p q i k s E 4).2:=congrArg Prod.snd hs.symm
  repeat' first|with_reducible refine QO ?_ ?_|exact tv|exact qRr|exact q1|exact q2|exact rfl|refine aI ?_ ?_
 obtain rfl:t=4:=by have:=qdf b0;omega
 refine⟨_,⟨rfl,rfl⟩,rfl,rfl,_,QbE ..,?_⟩
 rotate_left
 all_goals first|((with_reducible show _=true);(first|exact hw|rfl|(simp;omega)|(simp at b0 ⊢;omega)))|(repeat' first|with_reducible refine QO ?_ ?_|exact tv|exact qRr|refine aI ?_ ?_)
theorem QbX(p q:QV)(i k s:Nat)(E:ECt)(hE:WfE E)(G:Ctx)(hrd:G.rd=none)(hG:G.n<=8):Qx (mkF prog KG) G (QE4 prog d E (m4 d p q i k s E 4) p q (ZW p s) i k s) (QY (QY (QH f60 0))):=by
 refine KR (body:=QY (QY (QY (QH f60 0)))) (JJ JH) hrd (by kernel_rfl) ?_
 refine Jt (I:=λt=>Ve d (m4 d p q i k s E t) p q (ZW p s) i k s t) (n0:=8) (JJ JH) hG (λt ht=>Qu (JJ JH) 1 G _ hrd) (λt ht=>(by decide:8<=104)) ?_ (Qb7 d p q i k s E hE) (s0:=0) (Nat.zero_le _) ?_
 .rintro s e J ⟨_,rfl⟩;exact(by decide:8<=104)
 .rintro e J ⟨rfl,rfl⟩;exact⟨_,qmc,trivial,rfl,rfl⟩
set_option maxHeartbeats 4000000 in
theorem QSV(p q:QV)(i k:Nat)(E:ECt):JL (λs=>qe d (m3 d p q i k E s) p q i k s) (λs=>s<=4) (λs=>4-s) (λ_ e J=>e = .exit 4/\J=QGC d (m3 d p q i k E 4) p i k) 8 QMc [] (mkF prog KG) (λs=>QE4 prog d (m3 d p q i k E s) (m4 d p q i k s (m3 d p q i k E s) 4) p q (ZW p s) i k s) (QY (QY (QH f60 0))):=by
 refine⟨λs g0 hk=>Qe (QTS d (m3 d p q i k E s) (m4 d p q i k s (m3 d p q i k E s) 4) p q (ZW p s) i k s g0) ?_⟩;have hk:s<=4:=hk;refine QF (λb0=>?_) (λb0=>?_);refine QG ?_ ?_;rotate_left;refine QF (λb1=>?_) (λb1=>?_);obtain rfl:s=0:=by have:=qdt b1;omega
 iterate 170 refine Qp (by first|exact tv|exact qRr|rfl) ?_
 refine Qf λa0=>?_;refine Qh λg0=>?_;refine⟨1,by show 1<=4;omega,by show 4-1<4-0;omega,λ_ _ r=>r,rfl,rfl,_,QVi ..,?_⟩
 rotate_left
 refine QF (λb2=>?_) (λb2=>?_);obtain rfl:s=1:=by have:=qdt b2;omega
 iterate 170 refine Qp (by first|exact tv|exact qRr|rfl) ?_
 refine Qf λa1=>?_;refine Qh λg1=>?_;refine⟨2,by show 2<=4;omega,by show 4-2<4-1;omega,λ_ _ r=>r,rfl,rfl,_,QWC ..,?_⟩
 rotate_left
 refine QF (λb3=>?_) (λb3=>?_);obtain rfl:s=2:=by have:=qdt b3;omega
 iterate 170 refine Qp (by first|exact tv|exact qRr|rfl) ?_
 refine Qf λa2=>?_;refine Qh λg2=>?_;refine⟨3,by show 3<=4;omega,by show 4-3<4-2;omega,λ_ _ r=>r,rfl,rfl,_,QcC ..,?_⟩
 rotate_left
 obtain rfl:s=3:=by
  have h0:=qdt b0;have h1:=qdf b1;have h2:=qdf b2;have h3:=qdf b3;omega
 iterate 170 refine Qp (by first|exact tv|exact qRr|rfl) ?_
 refine Qf λa3=>?_;refine Qh λg3=>?_;refine⟨4,by show 4<=4;omega,by show 4-4<4-3;omega,λ_ _ r=>r,rfl,rfl,_,QT1 ..,?_⟩
 rotate_left
 obtain rfl:s=4:=by have:=qdf b0;omega
 refine⟨_,⟨rfl,rfl⟩,rfl,rfl,_,QT6 ..,?_⟩
 rotate_left
 all_goals first|((with_reducible show _=true);(first|rfl|(simp at b0 ⊢;omega)))|(repeat' first|with_reducible refine QO ?_ ?_|exact tv|exact qRr|exact rfl|refine aI ?_ ?_)
theorem QTf(p:QV)(i k:Nat)(E:ECt)(hE:WfE E)(G:Ctx)(hrd:G.rd=none)(hG:G.n<=8):Qx (mkF prog KG) G (QFw prog d E (m3 d p (d.ps.get k) i k E 4) p (d.ps.get k) i k) (QY (QH f60 0)):=by
 refine KR (body:=QY (QY (QH f60 0))) (JJ JH) hrd (by kernel_rfl) ?_
 refine JK λhi=>?_;refine Jt (I:=λs=>qe d (m3 d p (d.ps.get k) i k E s) p (d.ps.get k) i k s) (n0:=8) (JJ JH) hG (λs hs=>QbX d p (d.ps.get k) i k s _ (QGP hE s) G hrd hG) (λt ht=>(by decide:8<=104)) ?_ (QSV d p (d.ps.get k) i k E) (s0:=0) (Nat.zero_le _) ?_
 .rintro s e J ⟨_,rfl⟩;exact(by decide:8<=104)
 .rintro e J ⟨rfl,rfl⟩;exact⟨_,qmc,trivial,rfl,rfl⟩
set_option maxHeartbeats 4000000 in
theorem QVI(p:QV)(i:Nat)(E:ECt)(hE:WfE E)(hn:d.ps.n<2^62):JL (λk=>QAV d (m2 d p i E k) p i k) (λk=>k<=d.ps.n) (λk=>d.ps.n-k) (λ_ e J=>e = .exit 2/\J=QFE d (m2 d p i E d.ps.n) i) 8 QLf [] (mkF prog KG) (λk=>QFw prog d (m2 d p i E k) (m3 d p (d.ps.get k) i k (m2 d p i E k) 4) p (d.ps.get k) i k) (QY (QH f60 0)):=by
 refine⟨λk g0 hk=>Qe (Qef d (m2 d p i E k) (m3 d p (d.ps.get k) i k (m2 d p i E k) 4) p (d.ps.get k) i k g0) ?_⟩;have hk:k<=d.ps.n:=hk;refine QF (λb0=>?_) (λb0=>?_);have h:k<d.ps.n:=by have:=qdt b0;omega
 have hw:i64.wrap ((k:Int)+1)=((k+1:Nat):Int):=(w64 (by omega) (by omega)).trans (by omega)
 iterate 2 (refine QG ?_ ?_;rotate_left)
 iterate 132 refine Qp (by first|exact tv|exact h|exact qRr|rfl) ?_
 refine Qf λa0=>?_;refine Qh λg0=>?_;refine⟨k+1,h,by show d.ps.n-(k+1)<d.ps.n-k;omega,λ_ _ r=>r,rfl,rfl,_,QTA ..,?_⟩
 rotate_left
 obtain rfl:k=d.ps.n:=by have:=qdf b0;omega
 refine⟨_,⟨rfl,rfl⟩,rfl,rfl,_,Qei ..,?_⟩
 rotate_left
 all_goals first|((with_reducible show _=true);(first|rfl|(simp at b0 ⊢;omega)))|(repeat' first|with_reducible refine QO ?_ ?_|exact tv|exact qRr|exact hw|exact rfl|refine aI ?_ ?_)
theorem QfC(hn:d.ps.n<2^62)(G:Ctx)(hrd:G.rd=none)(hG:G.n<=8):Qx (mkF prog KG) G (QG7 prog d (m1 d i) (m2 d (d.ps.get i) i (m1 d i) d.ps.n) (d.ps.get i) i) (QH f60 0):=by
 refine KR (body:=QY (QH f60 0)) (JJ JH) hrd (by kernel_rfl) ?_
 refine JK λhi=>?_;refine Jt (I:=λk=>QAV d (m2 d (d.ps.get i) i (m1 d i) k) (d.ps.get i) i k) (n0:=8) (JJ JH) hG (λk hk=>QTf d (d.ps.get i) i k _ (QFn (QHe d i) k) G hrd hG) (λt ht=>(by decide:8<=104)) ?_ (QVI d (d.ps.get i) i (m1 d i) (QHe d i) hn) (s0:=0) (Nat.zero_le _) ?_
 .rintro s e J ⟨_,rfl⟩;exact(by decide:8<=104)
 .rintro e J ⟨rfl,rfl⟩;exact⟨_,qmc,trivial,rfl,rfl⟩
set_option maxHeartbeats 4000000 in
theorem QSt(hn:d.ps.n<2^62):JL (λi=>QAr d (m1 d i) i) (λi=>i<=d.ps.n) (λi=>d.ps.n-i) (λ_ e J=>e = .exit 0/\J=QIA d (m1 d d.ps.n)) 8 QN8 [] (mkF prog KG) (λi=>QG7 prog d (m1 d i) (m2 d (d.ps.get i) i (m1 d i) d.ps.n) (d.ps.get i) i) (QH f60 0):=by
 refine⟨λi g0 hk=>Qe (QVN d (m1 d i) (m2 d (d.ps.get i) i (m1 d i) d.ps.n) (d.ps.get i) i g0) ?_⟩;have hk:i<=d.ps.n:=hk;refine QF (λb0=>?_) (λb0=>?_);have h:i<d.ps.n:=by have:=qdt b0;omega
 have hw:i64.wrap ((i:Int)+1)=((i+1:Nat):Int):=(w64 (by omega) (by omega)).trans (by omega)
 iterate 2 (refine QG ?_ ?_;rotate_left)
 iterate 72 refine Qp (by first|exact tv|exact h|exact qRr|rfl) ?_
 refine Qf λa0=>?_;refine Qh λg0=>?_;refine⟨i+1,h,by show d.ps.n-(i+1)<d.ps.n-i;omega,λ_ _ r=>r,rfl,rfl,_,QSw ..,?_⟩
 rotate_left
 obtain rfl:i=d.ps.n:=by have:=qdf b0;omega
 refine⟨_,⟨rfl,rfl⟩,rfl,rfl,_,QWB ..,?_⟩
 rotate_left
 all_goals first|((with_reducible show _=true);(first|rfl|(simp at b0 ⊢;omega)))|(repeat' first|with_reducible refine QO ?_ ?_|exact tv|exact qRr|exact hw|exact rfl|refine aI ?_ ?_)
end Go.Proofs.YtekbmehgcofnkaaGreat
namespace Go.SX
theorem QUV{i n:Nat}(h:i<n):Nat.blt i n=true:=by rw[Nat.blt_eq];exact h
theorem QJQ{i n:Nat}(h:¬ i<n):Nat.blt i n=false:=by
 cases hb:Nat.blt i n with
 | false=>rfl
 | true=>rw[Nat.blt_eq]at hb;exact absurd hb h
end Go.SX
namespace Go.Proofs.YtekbmehgcofnkaaGreat
open Go.SX Go.SX.Told
def QHM(id c:Nat)(d:Puz)(E:ECt):List (Nat×Blk):=[(id,.cells 0 152 (KT d++[.map c,.nils])),(c,.mp E.1 E.2)]
abbrev nbH(P:Program)(d:Puz)(E:ECt):Hnd:={ hnd (mkF P KG) 1 with loop:=λ_=>Q4 8 [] (QAr d ([],0) (0:Nat)) [(True,.exit 0,QIA d E)] }
variable (d:Puz)(n:Nat)(E:ECt)(a:Int)(k:Nat)
theorem QeB(hn:d.ps.n<2^62)(G:Ctx)(hrd:G.rd=none)(hG:G.n=8):Qx (mkF prog KG) G (nbH prog d (m1 d d.ps.n)) (Qk f60):=by
 refine KR (body:=QH f60 0) (JJ JH) hrd (by kernel_rfl) ?_
 refine Jt (I:=λi=>QAr d (m1 d i) i) (n0:=8) (JJ JH) (by omega) (λi hs=>QfC d i hn G hrd (by omega)) (λs hs=>(by decide:8<=104)) ?_ (QSt d hn) (s0:=0) (Nat.zero_le _) ?_
 .rintro s e J ⟨_,rfl⟩;exact(by decide:8<=104)
 .rintro e J ⟨rfl,rfl⟩;exact⟨_,qmc,trivial,rfl,rfl⟩
def nbU:UC:=⟨8,⟨1,[(0,.agg (KT d))],Qi.blk 0 d.ps,8⟩,λm=>.ptr m 0 0,λm=>QHM m (m+1) d E⟩
abbrev QQL(d:Puz):List (Nat×Blk):=
  [(48,.cells 0 152 (List.append (waf d) ([.map 32,.nils]))),(0,.frz (wae) d.ps.n λi=>QA.enc (d.ps.get i)),(32,.mp E.1 E.2)]
theorem QTD :VM (mkF prog KG) (nbH prog d E) f60 (nbU d E) = .ak (([0=0,0=0,0=0,0=0,0=0]++wb6 d++[(0:Int)=0])++waa d++[cO=cO]++waa d++([cO=cO,([]:List MapEntry)=[],0=0]++wad d)) (.asm (True) (.all (λ(g0:Nat->Value)=>.leaf (.ptr 48 0 0) ((QQL E d))))):=by kernel_rfl
theorem QWb :QE 8 [(.ptr 48 0 0)] ((QQL E d)) (KQ (nbU d E))=(some ([0=0,0=0]++waa d++[cO=cO,E.1=E.1,E.2=E.2])):=by kernel_rfl
theorem QGn(nid:Nat):Jb 8 8 nid (8+k)=nid+k:=by
 have:Nat.blt (8+k) 8=false:=QJQ (by omega)
 simp only[Jb,this];omega
theorem Qbx{i:Nat}(h:i<8)(nid:Nat):Jb 8 8 nid i=i:=by
 simp only[Jb,QUV h]
theorem QeL:(nbU d E).Ok:=by
 refine⟨(by decide:8<=8),rfl,rfl,?_,rfl,λnid h=>?_,λnid h=>?_⟩
 .intro q hq;simp only[UC.po,nbU,QHM,List.mem_cons,List.not_mem_nil,or_false]at hq;rcases hq with rfl|rfl
  .exact⟨rfl,rfl,rfl,λh=>absurd (show 8<8 from h) (by decide)⟩
  .exact⟨rfl,rfl,rfl,λh=>absurd (show 9<8 from h) (by decide)⟩
 .have e0:=QGn 0 nid;simp only[UC.va,nbU,AV.mapId,Nat.add_zero]at e0 ⊢;rw[e0]
 .have e0:=QGn 0 nid;have e1:=QGn 1 nid;have l0:=Qbx (i:=0) (by decide) nid
  simp only[UC.po,nbU,QHM,KT,Qi.val,List.cons_append,List.nil_append,List.map_cons,List.map_nil,Blk.mapId,AV.mapId,AV.mapIdL,Nat.add_zero,Nat.zero_add]at e0 e1 l0 ⊢;rw[e0,e1,l0]
theorem Zw(hn:d.ps.n<2^62):QR prog 60 (uFC (nbU d (m1 d d.ps.n))):=by
 refine Kw (E:=mkF prog KG) (JJ JH) func60 (by kernel_rfl) (by kernel_rfl) (QeL ..) (QeB d hn) ⟨?_⟩
 generalize m1 d d.ps.n=E;refine Qe (QTD d E) ?_
 iterate 35 refine Qp (by first|exact tv|exact qRr|rfl) ?_
 refine Qf λa0=>?_;refine Qh λg0=>?_;refine⟨rfl,rfl,_,QWb d E,?_⟩
 rotate_left
 all_goals (repeat' first|exact tv|exact qRr|refine aI ?_ ?_)
structure Lay where
 piece:Int
 turn:Int
instance : QA Lay where
  ks := [.int .i64,.int .i64]
  enc p j := match j with
    | 0 => p.piece
    | _ => p.turn
  dec f := ⟨f 0,f 1⟩
  ok _ := rfl
instance : Enc Lay where
  enc x := .agg [.int false .i64 x.piece,.int false .i64 x.turn]
  dec | .agg [.int _ .i64 a0,.int _ .i64 a1] => some ⟨a0,a1⟩ | _ => none
  ok v x h := by
    split at h <;> (try (cases h; done))
    simp only[qsI]at h; subst h; exact⟨λ_=>rfl,rfl⟩
structure Pt where
 cell:Int
 lay:Lay
instance : QA Pt where
  ks := [.int .i64,.int .i64,.int .i64]
  enc p j := match j with
    | 0 => p.cell
    | 1 => p.lay.piece
    | _ => p.lay.turn
  dec f := ⟨f 0,⟨f 1,f 2⟩⟩
  ok _ := rfl
def QAB(id:Nat)(L:List Lay):Nat×Blk:=(id,.frz kB L.length λi=>QA.enc (L.getD i ⟨0,0⟩))
def brC:List AV:=KT d++[.map 201,.slz 210 0 n (.of 0)]
def brR:List (Nat×Blk):=(200,.cellsR 0 152 (brC d n))::Qi.blk 0 d.ps
def KZ(a b:Int):Bool:=(ZW (d.ps.get a.toNat) b.toNat).kind==0
def flU(a b:Int):UC:=⟨0,⟨2,[(0,.ptr 200 0 0),(1,.agg [.int false .i64 a,.int false .i64 b])],brR d n,216⟩,λ_=>.bool false (KZ d a b),λ_=>[]⟩
def tnV:Int:=cond (d.turn&&decide (0<a)) 4 1
def tnU:UC:=⟨0,⟨2,[(0,.ptr 200 0 0),(1,.int false .i64 a)],brR d n,216⟩,λ_=>.int false .i64 (tnV d a),λ_=>[]⟩
theorem Qch(a b:Int):VM (mkF prog KG) (hnd (mkF prog KG) 1) f137 (flU d n a b)=QC.need (decide ((0:Int)<=a/\a<(↑d.ps.n:Int))&&decide (d.ps.n<=d.ps.n)) (QC.need (decide ((0:Int)<=b/\b<(4:Int))) (QC.br (decide (b=(0:Int))) (QC.need (decide (a.toNat<d.ps.n)) (QC.leaf (AV.bool false ((d.ps.get a.toNat).up.kind==(0:Int))) ([]))) (QC.br (decide (b=(1:Int))) (QC.need (decide (a.toNat<d.ps.n)) (QC.leaf (AV.bool false ((d.ps.get a.toNat).right.kind==(0:Int))) ([]))) (QC.br (decide (b=(2:Int))) (QC.need (decide (a.toNat<d.ps.n)) (QC.leaf (AV.bool false ((d.ps.get a.toNat).down.kind==(0:Int))) ([]))) (QC.need (decide (a.toNat<d.ps.n)) (QC.leaf (AV.bool false ((d.ps.get a.toNat).left.kind==(0:Int))) ([]))))))):=by kernel_rfl
theorem Qav(a b:Int)(c v:Bool):QE 216 [.bool c v] [] (KQ (flU d n a b))=( some [v=KZ d a b]):=by kernel_rfl
theorem QW6:VM (mkF prog KG) (hnd (mkF prog KG) 1) f52 (tnU d n a)=QC.br (d.turn) (QC.br (decide (a>(0:Int))) (QC.leaf (vj (4:Int)) ([])) (QC.leaf (vj (1:Int)) ([]))) (QC.leaf (vj (1:Int)) ([])):=by kernel_rfl
theorem QdJ(a v:Int)(c:Bool):QE 216 [.int c .i64 v] [] (KQ (tnU d n a))=( some [v=tnV d a]):=by kernel_rfl
theorem QNu(a b:Int)(h1:0<=a)(h2:a<d.ps.n)(h3:0<=b)(h4:b<4):QR prog 137 (uFC (flU d n a b)):=by
 refine Kw (E:=mkF prog KG) (JJ JH) (c:=Qk f137) func137 (by kernel_rfl) (by kernel_rfl) (QIx (Nat.zero_le _) rfl rfl λ_=>rfl) (λG h1 _=>Qu (JJ JH) 1 G _ h1) ⟨?_⟩
 refine Qe (Qch d n a b) ?_;have fin:∀(v:Bool),v=KZ d a b->(QC.leaf (.bool false v) []).den (jR (flU d n a b)):=λv h=>⟨rfl,rfl,_,Qav d n a b false v,⟨h,trivial⟩⟩
 iterate 2 (refine QG ?_ ?_;rotate_left)
 refine QF (λb0=>?_) (λb0=>?_);refine QG ?_ ?_;rotate_left
 .obtain rfl:b=0:=qdt b0;exact fin _ rfl
 refine QF (λb1=>?_) (λb1=>?_);refine QG ?_ ?_;rotate_left
 .obtain rfl:b=1:=qdt b1;exact fin _ rfl
 refine QF (λb2=>?_) (λb2=>?_);refine QG ?_ ?_;rotate_left
 .obtain rfl:b=2:=qdt b2;exact fin _ rfl
 refine QG ?_ ?_;rotate_left
 .obtain rfl:b=3:=by
   have h0:=qdf b0;have h1:=qdf b1;have h2:=qdf b2;omega
  exact fin _ rfl
 all_goals simp;omega
theorem YP:QR prog 52 (uFC (tnU d n a)):=by
 refine Kw (E:=mkF prog KG) (JJ JH) (c:=Qk f52) func52 (by kernel_rfl) (by kernel_rfl) (QIx (Nat.zero_le _) rfl rfl λ_=>rfl) (λG h1 _=>Qu (JJ JH) 1 G _ h1) ⟨?_⟩
 refine Qe (QW6 d n a) ?_;have fin:∀(v:Int),v=tnV d a->(QC.leaf (.int true .i64 v) []).den (jR (tnU d n a)):=λv h=>⟨rfl,rfl,_,QdJ d n a v true,⟨h,trivial⟩⟩;refine QF (λb0=>?_) (λb0=>?_);refine QF ?_ ?_<;>intro b1
 .refine fin _ ?_;have:decide (0<a)=true:=b1;rw[tnV,b0,this];rfl
 .refine fin _ ?_;have:decide (0<a)=false:=b1;rw[tnV,b0,this];rfl
 .refine fin _ ?_;rw[tnV,b0];rfl
def WO(K:Rw Pt)(c:Int)(x:Lay)(k:Nat):Bool:=((K.get k).cell==c && !((K.get k).lay.piece==x.piece&&(K.get k).lay.turn==x.turn))||((K.get k).lay.piece==x.piece && !((K.get k).cell==c))
def Qq(K:Rw Pt)(c:Int)(x:Lay):Bool:=(QU (WO K c x) K.n 0).isNone
def alJ(K:Rw Pt)(c:Int)(x:Lay)(k:Nat):JSt:=⟨40,[(1,.int false .i64 c),(5,.ptr 8 0 0),(9,.slz 0 0 K.n (.of 0)),(10,.int false .i64 K.n),(11,.int false .i64 k)],[(8,.cells 0 49 (Enc.enc x).cells)]++Qi.blk 0 K,48⟩
def QGz:JSt:=⟨40,[(6,.bool false false)],[],48⟩
def QIG:JSt:=⟨40,[],[],48⟩
def QKv:Ex->List Nat
 | .normal=>[1,5,9,10,11]
 | .exit _=>[]
 | .ret=>[6]
theorem QdE(K:Rw Pt)(c:Int)(x:Lay)(k:Nat)(g:Nat->Value):exec (mkS prog KG) (hnd (mkS prog KG) 1) (QH f104 0) (JSt.inst (alJ K c x k) g) (Q8 [] QKv) = .br (decide ((k:Int)<(K.n:Int))) (.need (decide ((0:Int)<=(k:Int)/\(k:Int)<(K.n:Int))&&decide (K.n<=K.n)) (.need (decide (k<K.n)) (.need (!(K.get k).cell==c||(K.get k).cell==c) (.need (!(K.get k).cell==c||(K.get k).cell==c&&(K.get k).cell==c) (.need (!(K.get k).cell==c||(K.get k).cell==c) (.bnd ((K.get k).cell==c&&!((K.get k).lay.piece==x.piece&&((K.get k).lay.turn==x.turn&&true))) (λ(x0:Bool)=>.need (!!x0||!x0) (.need (!!x0||!x0) (.need (!!x0||!x0) (.need (!!x0||!x0&&!x0) (.need (!!x0||!x0) (.need (!(!x0&&(K.get k).lay.piece==x.piece)||!x0&&(K.get k).lay.piece==x.piece) (.need (!(!x0&&(K.get k).lay.piece==x.piece)||!x0&&(K.get k).lay.piece==x.piece&&(!x0&&(K.get k).lay.piece==x.piece)) (.need (!!x0||!x0&&(!(K.get k).lay.piece==x.piece||!x0&&(K.get k).lay.piece==x.piece)) (.bnd ((K.get k).lay.piece==x.piece&&(K.get k).cell != c) (λ(x1:Bool)=>.need (x0||!x0) (.bnd (x0||x1) (λ(x2:Bool)=>.br (x2) (.leaf (.tup [.nili,.ptr 40 0 0,.bool true false]) ([])) (.leaf (.tup [.nilp,.ptr 40 0 0,vi c,.ptr 8 0 0,.slz 0 0 K.n cO,vi (K.n:Int),vi (i64.wrap ((k:Int)+1))]) ([(8,.cells 0 49 [vi x.piece,vi x.turn]),(0,.frz (wbA) K.n λi=>QA.enc (K.get i))])))))))))))))))))))) (.leaf (.tup [.ptr 0 0 0,.ptr 40 0 0]) ([])):=by kernel_rfl
theorem QSa :QE 8 [AV.bool true false] ([]) QGz=( some [false=false]):=by kernel_rfl
abbrev wbz(x:Lay):List Prop:=[x.piece=x.piece,x.turn=x.turn]
theorem QdL(K:Rw Pt)(c:Int)(x:Lay)(k k':Nat):QE 8 [vi c,AV.ptr (8:Nat) (0:Nat) (0:Nat),AV.slz (0:Nat) (0:Nat) K.n cO,vi (↑K.n:Int),vi (i64.wrap ((↑k:Int)+(1:Int)))] ([((8:Nat),Blk.cells (0:Nat) (49:Nat) [vi x.piece,vi x.turn]),((0:Nat),Blk.frz [CK.int i64,CK.int i64,CK.int i64] K.n λi=>QA.enc (K.get i))]) (alJ K c x k')=( some ([c=c,0=0,0=0,0=0,K.n=K.n,cO=cO,(↑K.n:Int)=(↑K.n:Int),i64.wrap ((↑k:Int)+(1:Int))=(↑k':Int)]++wbz x++[K.n<=K.n,QB (3:Nat) K.n (λi=>QA.enc (K.get i)) λi=>QA.enc (K.get i)])):=by kernel_rfl
theorem QcI :QE 8 [] ([]) QIG=( some []):=by kernel_rfl
def alR(K:Rw Pt)(c:Int)(x:Lay)(k:Nat)(e:Ex)(J:JSt):Prop:=(e = .ret/\(QU (WO K c x) (K.n-k) k).isNone=false/\J=QGz)∨(e = .exit 0/\(QU (WO K c x) (K.n-k) k).isNone=true/\J=QIG)
theorem QaR(K:Rw Pt)(c:Int)(x:Lay)(hn:K.n<=1000):JL (alJ K c x) (λk=>k<=K.n) (λk=>K.n-k) (alR K c x) 8 QKv [] (mkS prog KG) (λ_=>hnd (mkS prog KG) 1) (QH f104 0):=by
 refine⟨λk g0 hk=>Qe (QdE K c x k g0) ?_⟩;have hk:k<=K.n:=hk;refine QF (λb0=>?_) (λb0=>?_);have h:k<K.n:=by have:=qdt b0;omega
 have hf:=J4 (p:=WO K c x) h
 iterate 5 (refine QG ?_ ?_;rotate_left)
 refine ZC λz0 y0=>?_
 iterate 8 (refine QG ?_ ?_;rotate_left)
 refine ZC λz1 y1=>?_;refine QG ?_ ?_;rotate_left;refine ZC λz2 y2=>?_;refine QF ?_ ?_<;>intro b1
 .have hb:WO K c x k=true:=by rw[<-b1,y2,y1,y0,WO];simp[bne]
  exact⟨_,.inl ⟨rfl,by rw[hf.1 hb];rfl,rfl⟩,rfl,rfl,_,QSa,⟨rfl,trivial⟩⟩
 have hb:WO K c x k=false:=by rw[<-b1,y2,y1,y0,WO];simp[bne]
 refine⟨k+1,h,by show K.n-(k+1)<K.n-k;omega,λe J h=>by unfold alR at h ⊢;rw[hf.2 hb];exact h,rfl,rfl,_,QdL K c x k (k+1),?_⟩
 rotate_left
 .have h:K.n<=k:=by have:=qdf b0;omega
  exact⟨_,.inr ⟨rfl,by rw[show K.n-k=0 by omega];rfl,rfl⟩,rfl,rfl,_,QcI,trivial⟩
 all_goals first|((with_reducible show _=true);(first|rfl|(simp at b0 ⊢;omega)|grind))|(repeat' first|with_reducible refine QO ?_ ?_|exact tv|exact qRr|exact Vj h hn|refine aI ?_ ?_)
def alX(K:Rw Pt)(c:Int)(x:Lay):List (Prop×Ex×JSt):=[(Qq K c x=false,.ret,QGz),(Qq K c x=true,.exit 0,QIG)]
abbrev alH(P:Program)(K:Rw Pt)(c:Int)(x:Lay):Hnd:={ hnd (mkS P KG) 1 with loop:=λ_=>Kr (K.n<=1000) (Q4 8 [] (alJ K c x (0:Nat)) (alX K c x)) }
theorem Qfd(K:Rw Pt)(c:Int)(x:Lay)(G:Ctx)(hrd:G.rd=none)(hG:G.n=8):Qx (mkS prog KG) G (alH prog K c x) (Qk f104):=by
 refine KR (body:=QH f104 0) (zd JH) hrd (by kernel_rfl) ?_
 refine JK λhl=>?_;refine Jt (n0:=8) (zd JH) (by omega) (λs hs=>Qu (zd JH) 1 G _ hrd) (λs hs=>(by decide:8<=48)) ?_ (QaR K c x hl) (s0:=0) (Nat.zero_le _) ?_
 .rintro s e J (⟨_,_,rfl⟩|⟨_,_,rfl⟩)<;>exact(by decide:8<=48)
 .rintro e J (⟨rfl,h,rfl⟩|⟨rfl,h,rfl⟩)
  .exact⟨_,qmc,h,rfl,rfl⟩
  .exact⟨_,List.mem_cons_of_mem _ qmc,h,rfl,rfl⟩
def QA5:WF ((Rw Pt)×Int×Lay×Unit):=λ|(K,(c,(x,_)))=>(decide (K.n<=1000),.bool false (Qq K c x),[])
def QJ5:FC:=wFC QA5
theorem QYR(K:(Rw Pt))(c:Int)(x:Lay):Kl (mkS prog KG) (alH prog K c x) f104 (Qd.vals 0 ((K,c,x,()):(Rw Pt)×Int×Lay×Unit)) (Qd.blks 0 ((K,c,x,()):(Rw Pt)×Int×Lay×Unit)) 8=QC.ask (K.n<=(1000:Nat)) (QC.ask (c=c) (QC.ask (0=0) (QC.ask (0=0) (QC.ask (0=0) (QC.ask (K.n=K.n) (QC.ask (cO=cO) (QC.ask ((↑K.n:Int)=(↑K.n:Int)) (QC.ask ((0:Int)=(0:Int)) (QC.ask (x.piece=x.piece) (QC.ask (x.turn=x.turn) (QC.ask (K.n<=K.n) (QC.ask (QB (3:Nat) K.n (λi=>QA.enc (K.get i)) λi=>QA.enc (K.get i)) (QC.both (QC.asm (Qq K c x=false) (QC.all (λ(g0:Nat->Value)=>QC.leaf (AV.bool false false) ([])))) (QC.asm (Qq K c x=true) (QC.all (λ(g1:Nat->Value)=>QC.leaf (AV.bool true true) ([]))))))))))))))))):=by kernel_rfl
theorem QS6:JP (mkS prog KG) (Qk f104) 8 QA5 (λx_=>(alH prog x_.1 x_.2.1 x_.2.2.1)):=by
 refine⟨?_⟩;rintro⟨K,⟨c,⟨x,⟨⟩⟩⟩⟩ hp G h1 h2;exact Qfd K c x G h1 h2
theorem QbO:JQ (mkS prog KG) f104 8 QA5 (λx_=>(alH prog x_.1 x_.2.1 x_.2.2.1)):=by
 refine⟨?_⟩;rintro⟨K,⟨c,⟨x,⟨⟩⟩⟩⟩ hp;refine⟨⟨rfl,by simp[QA5],rfl⟩,⟨?_⟩⟩
 rw[QYR K c x];simp only[QA5]at hp;have hp:=qdt hp
 iterate 13 refine Qp (by first|exact tv|exact hp|exact qRr) ?_
 refine Kb ?_ ?_;refine Qf λa0=>?_;refine Qh λg0=>?_
 .exact Kd a0.symm rfl
 refine Qf λa1=>?_;refine Qh λg1=>?_
 .exact Kd a1.symm rfl
theorem QcS:QR prog 104 QJ5:=
 Ji (zd JH) func104 (by kernel_rfl) (by kernel_rfl) (by decide) QS6 QbO
def Wr:Tab:=Qa KG 104 QJ5
theorem QFp:Qc Wr:=JH.add QcS
def onS(x:Lay)(s:Int):Int:=(s+4-x.turn).tmod 4
def QBB:WF (Lay×Int×Unit):=λ|(x,(s,_))=>(decide ((0<=x.turn/\x.turn<=3)/\0<=s/\s<=3),.agg [vi x.piece,vi (onS x s)],[])
def QRw:FC:=wFC QBB
theorem Qc9(x:Lay)(s:Int):Kl (mkE prog Wr) (hnd (mkE prog Wr) 1) f134 (Qd.vals 0 ((x,s,()):Lay×Int×Unit)) (Qd.blks 0 ((x,s,()):Lay×Int×Unit)) 8=QC.leaf (AV.agg [vi x.piece,vi ((i64.wrap (i64.wrap (s+(4:Int))-x.turn)).tmod (4:Int))]) ([]):=by kernel_rfl
theorem QeS:JP (mkE prog Wr) (Qk f134) 8 QBB (λx_=>(hnd (mkE prog Wr) 1)):=by
 refine⟨?_⟩;rintro⟨x,⟨s,⟨⟩⟩⟩ hp G h1 h2;exact Qu (QN QFp) 1 G _ h1
theorem QaO:JQ (mkE prog Wr) f134 8 QBB (λx_=>(hnd (mkE prog Wr) 1)):=by
 refine⟨?_⟩;rintro⟨x,⟨s,⟨⟩⟩⟩ hp;refine⟨⟨rfl,by simp[QBB],rfl⟩,⟨?_⟩⟩
 rw[Qc9 x s];simp only[QBB]at hp;have hp:=qdt hp
 .refine Kd ?_ rfl
  have:(i64.wrap (i64.wrap (s+4)-x.turn)).tmod 4=onS x s:=by
   rw[w64 (n:=s+4) (by omega) (by omega),w64 (by omega) (by omega)];rfl
  rw[this];exact⟨⟨rfl,rfl⟩,⟨rfl,rfl⟩,trivial⟩
theorem QYh:QR prog 134 QRw:=
 Ji (QN QFp) func134 (by kernel_rfl) (by kernel_rfl) (by decide) QeS QaO
def QS:Tab:=Qa Wr 134 QRw
theorem Qb:Qc QS:=QFp.add QYh
def Qo(c:Nat):Int:=(c:Int).tdiv d.wide
def Q2(c:Nat):Int:=(c:Int).tmod d.wide
def QT(c:Nat):Nat->Bool
 | 0=>Qo d c==0
 | 1=>Q2 d c==d.wide-1
 | 2=>Qo d c==d.high-1
 | _=>Q2 d c==0
def Ks(c:Nat)(x:Lay)(s:Nat):Bool:=QT d c s && !KZ d x.piece (onS x s)
def QGh(L:List Lay):List (Nat×Blk):=(200,.cellsR 0 152 (brC d L.length))::QAB 210 L::(201,.mp E.1 E.2)::Qi.blk 0 d.ps
def myJ(L:List Lay)(x:Lay)(s:Nat):JSt:=⟨113,[(0,.ptr 200 0 0),(3,.ptr 216 0 0),(5,.int false .i64 L.length),(6,.int false .i64 (Qo d L.length)),(7,.int false .i64 (Q2 d L.length)),(49,.agg [.bool false (QT d L.length 0),.bool false (QT d L.length 1),.bool false (QT d L.length 2),.bool false (QT d L.length 3)]),(50,.int false .i64 s)],(216,.cells 0 49 (Enc.enc x).cells)::QGh d E L,224⟩
def GK:JSt:=⟨113,[(4,.bool false false)],[(201,.mp E.1 E.2)],224⟩
def QH8(L:List Lay)(x:Lay):JSt:=⟨113,[(0,.ptr 200 0 0),(3,.ptr 216 0 0),(5,.int false .i64 L.length),(6,.int false .i64 (Qo d L.length)),(7,.int false .i64 (Q2 d L.length))],(216,.cells 0 49 (Enc.enc x).cells)::QGh d E L,224⟩
def QQg:Ex->List Nat
 | .normal=>[0,3,5,6,7,49,50]
 | .exit _=>[0,3,5,6,7]
 | .ret=>[4]
def Gd(pb:List Prop->Bool)(U:UC):Tab:=Qa QS 137 (KE pb U)
abbrev QDv(L:List Lay)(d:Puz)(s:Nat)(x:Lay):List Prop:=
  ([0=0,0=0,x.piece=x.piece,onS x (s:Int)=onS x (s:Int)]++waa d++([cO=cO,0=0,L.length=L.length,cO
  = cO]++wad d))
abbrev qF(L:List Lay)(d:Puz):List AV:=
  [.bool false (QT d L.length 0),.bool false (QT d L.length 1),.bool false (QT d L.length 2),.bool false (QT d L.length 3)]
abbrev was(L:List Lay)(d:Puz):List AV:=[vi (L.length:Int),vi (Qo d L.length),vi (Q2 d L.length)]
abbrev QLF(L:List Lay)(d:Puz):List AV:=
  (.nilp::.ptr 113 0 0::.ptr 200 0 0::.ptr 216 0 0::List.append (was L d) ([.agg (qF L d),.int true
  .i64 1]))
abbrev J7(L:List Lay)(d:Puz)(x:Lay):List (Nat×Blk):=
  [(201,.mp E.1 E.2),(200,.cellsR 0 152 (List.append (wbK d) ([.int false .i64
  d.pK.dK.hi,vi d.wide,vi d.high,.bool false d.turn,.slz 0 0 d.ps.n cO,.map 201,.slz 210 0 L.length cO]))),(216,.cells 0 49 [.int
  false .i64 x.piece,vi x.turn]),(0,.frz (wae)
  d.ps.n λi=>QA.enc (d.ps.get i)),(210,.frz kB L.length λi=>QA.enc (L.getD i (Lay.mk (0:Int) (0:Int))))]
abbrev QRm(L:List Lay)(d:Puz):List AV:=
  (.nilp::.ptr 113 0 0::.ptr 200 0 0::.ptr 216 0 0::List.append (was L d) ([.agg (qF L d),.int true
  .i64 2]))
abbrev QMk(L:List Lay)(d:Puz):List AV:=
  (.nilp::.ptr 113 0 0::.ptr 200 0 0::.ptr 216 0 0::List.append (was L d) ([.agg (qF L d),.int true
  .i64 3]))
abbrev QLJ(L:List Lay)(d:Puz):List AV:=
  (.nilp::.ptr 113 0 0::.ptr 200 0 0::.ptr 216 0 0::List.append (was L d) ([.agg (qF L d),.int true
  .i64 4]))
abbrev wbw:List AV:=[.nili,.ptr 113 0 0,.bool true false]
theorem QfF(pb:List Prop->Bool)(d:Puz)(E:ECt)(L:List Lay)(x:Lay)(s:Nat)(g:Nat->Value):exec (mkF prog (Gd pb (flU d L.length x.piece (onS x s)))) (hnd (mkF prog (Gd pb (flU d L.length x.piece (onS x s)))) 1) (QH f105 0) (JSt.inst (myJ d E L x s) g) (Q8 [201] QQg) = .br (decide ((s:Int)<4)) (.need (decide ((0:Int)<=(s:Int)/\(s:Int)<4)) (.br (decide ((s:Int)=0)) (.br (QT d L.length 0) (.need (true&&(true&&true)&&decide (((0:Int)<=x.turn/\x.turn<=3)/\(0:Int)<=(s:Int)/\(s:Int)<=3)) (.need (pb ((QDv L d s x))) (.br (!KZ d x.piece (onS x (s:Int))) (.leaf (.tup (wbw)) ([(201,.mp E.1 E.2)])) (.leaf (.tup (QLF L d)) ((J7 E L d x)))))) (.leaf (.tup (QLF L d)) ((J7 E L d x)))) (.br (decide ((s:Int)=1)) (.br (QT d L.length 1) (.need (true&&(true&&true)&&decide (((0:Int)<=x.turn/\x.turn<=3)/\(0:Int)<=(s:Int)/\(s:Int)<=3)) (.need (pb ((QDv L d s x))) (.br (!KZ d x.piece (onS x (s:Int))) (.leaf (.tup (wbw)) ([(201,.mp E.1 E.2)])) (.leaf (.tup (QRm L d)) ((J7 E L d x)))))) (.leaf (.tup (QRm L d)) ((J7 E L d x)))) (.br (decide ((s:Int)=2)) (.br (QT d L.length 2) (.need (true&&(true&&true)&&decide (((0:Int)<=x.turn/\x.turn<=3)/\(0:Int)<=(s:Int)/\(s:Int)<=3)) (.need (pb ((QDv L d s x))) (.br (!KZ d x.piece (onS x (s:Int))) (.leaf (.tup (wbw)) ([(201,.mp E.1 E.2)])) (.leaf (.tup (QMk L d)) ((J7 E L d x)))))) (.leaf (.tup (QMk L d)) ((J7 E L d x)))) (.br (QT d L.length 3) (.need (true&&(true&&true)&&decide (((0:Int)<=x.turn/\x.turn<=3)/\(0:Int)<=(s:Int)/\(s:Int)<=3)) (.need (pb ((QDv L d s x))) (.br (!KZ d x.piece (onS x (s:Int))) (.leaf (.tup (wbw)) ([(201,.mp E.1 E.2)])) (.leaf (.tup (QLJ L d)) ((J7 E L d x)))))) (.leaf (.tup (QLJ L d)) ((J7 E L d x)))))))) (.leaf (.tup (.ptr 0 0 0::.ptr 113 0 0::.ptr 200 0 0::.ptr 216 0 0::was L d)) ((J7 E L d x))):=by kernel_rfl
theorem QYv:QE 216 [AV.bool true false] ([((201:Nat),Blk.mp E.1 E.2)]) (GK E)=( some [false=false,E.1=E.1,E.2=E.2]):=by kernel_rfl
abbrev QOs(L:List Lay)(d:Puz):List AV:=
  (.ptr 200 0 0::.ptr 216 0 0::List.append (was L d) ([.agg (qF L d),vj 1]))
abbrev wal(E:ECt)(L:List Lay):List Prop:=[L.length=L.length,cO=cO,L.length<=L.length,QB 2 L.length (λi=>QA.enc
  (L.getD i (Lay.mk (0:Int) (0:Int)))) λi=>QA.enc (L.getD i (Lay.mk (0:Int) (0:Int))),E.1=E.1,E.2=E.2]
abbrev wbj(L:List Lay)(d:Puz):List Prop:=[(L.length:Int)=(L.length:Int),Qo d L.length=Qo d L.length,Q2 d L.length=Q2 d L.length]
abbrev wb0(L:List Lay)(d:Puz):List Prop:=[QT d L.length 0=QT d L.length 0,QT d
  L.length 1=QT d L.length 1,QT d L.length 2=QT d L.length 2,QT d L.length 3=QT d L.length 3]
abbrev QRc(L:List Lay)(d:Puz)(s':Nat)(x:Lay):List Prop:=
  (([0=0,0=0,0=0,0=0]++wbj L d++((wb0 L d++[(1:Int)=(s':Int)])++wbz x))++waa d++(([cO=cO,0=0]++wal E L)++wad d))
theorem Qaj(L:List Lay)(x:Lay)(s':Nat):QE 216 (QOs L d) ((J7 E L d x)) (myJ d E L x s')=(some (QRc E L d s' x)):=by kernel_rfl
theorem QTH(L:List Lay)(x:Lay)(s':Nat):QE 216 (QOs L d) ((J7 E L d x)) (myJ d E L x s')=(some (QRc E L d s' x)):=by kernel_rfl
theorem Qbr:QE 216 [AV.bool true false] ([((201:Nat),Blk.mp E.1 E.2)]) (GK E)=( some [false=false,E.1=E.1,E.2=E.2]):=by kernel_rfl
abbrev QN3(L:List Lay)(d:Puz):List AV:=
  (.ptr 200 0 0::.ptr 216 0 0::List.append (was L d) ([.agg (qF L d),vj 2]))
abbrev wan(L:List Lay)(d:Puz):List Prop:=(wbj L d++(wb0 L d))
abbrev QSF(L:List Lay)(d:Puz)(s':Nat)(x:Lay):List Prop:=
  (([0=0,0=0,0=0,0=0]++wan L d++([(2:Int)=(s':Int)]++wbz x))++waa d++(([cO=cO,0=0]++wal E L)++wad d))
theorem Qdu(L:List Lay)(x:Lay)(s':Nat):QE 216 (QN3 L d) ((J7 E L d x)) (myJ d E L x s')=(some (QSF E L d s' x)):=by kernel_rfl
theorem QfY(L:List Lay)(x:Lay)(s':Nat):QE 216 (QN3 L d) ((J7 E L d x)) (myJ d E L x s')=(some (QSF E L d s' x)):=by kernel_rfl
theorem QWR:QE 216 [AV.bool true false] ([((201:Nat),Blk.mp E.1 E.2)]) (GK E)=( some [false=false,E.1=E.1,E.2=E.2]):=by kernel_rfl
abbrev QPI(L:List Lay)(d:Puz):List AV:=
  (.ptr 200 0 0::.ptr 216 0 0::List.append (was L d) ([.agg (qF L d),vj 3]))
abbrev QNS(L:List Lay)(d:Puz)(s':Nat)(x:Lay):List Prop:=
  (([0=0,0=0,0=0,0=0]++wan L d++([(3:Int)=(s':Int)]++wbz x))++waa d++(([cO=cO,0=0]++wal E L)++wad d))
theorem Qbf(L:List Lay)(x:Lay)(s':Nat):QE 216 (QPI L d) ((J7 E L d x)) (myJ d E L x s')=(some (QNS E L d s' x)):=by kernel_rfl
theorem QZA(L:List Lay)(x:Lay)(s':Nat):QE 216 (QPI L d) ((J7 E L d x)) (myJ d E L x s')=(some (QNS E L d s' x)):=by kernel_rfl
theorem QTP:QE 216 [AV.bool true false] ([((201:Nat),Blk.mp E.1 E.2)]) (GK E)=( some [false=false,E.1=E.1,E.2=E.2]):=by kernel_rfl
abbrev QK4(L:List Lay)(d:Puz):List AV:=
  (.ptr 200 0 0::.ptr 216 0 0::List.append (was L d) ([.agg (qF L d),vj 4]))
abbrev QQE(L:List Lay)(d:Puz)(s':Nat)(x:Lay):List Prop:=
  (([0=0,0=0,0=0,0=0]++wan L d++([(4:Int)=(s':Int)]++wbz x))++waa d++(([cO=cO,0=0]++wal E L)++wad d))
theorem QcP(L:List Lay)(x:Lay)(s':Nat):QE 216 (QK4 L d) ((J7 E L d x)) (myJ d E L x s')=(some (QQE E L d s' x)):=by kernel_rfl
theorem QbQ(L:List Lay)(x:Lay)(s':Nat):QE 216 (QK4 L d) ((J7 E L d x)) (myJ d E L x s')=(some (QQE E L d s' x)):=by kernel_rfl
theorem QaL(L:List Lay)(x:Lay):QE 216 (.ptr 200 0 0::.ptr 216 0 0::was L d) ((J7 E L d x)) (QH8 d E L x)=( some (([0=0,0=0,0=0,0=0]++wbj L d++(wbz x))++waa d++(([cO=cO,0=0]++wal E L)++wad d))):=by kernel_rfl
structure Q9 (d:Puz) (x:Lay):Prop where
 p:0<=x.piece/\x.piece<d.ps.n
 t:0<=x.turn/\x.turn<=3
theorem QCh{d:Puz}{x:Lay}(hx:Q9 d x)(s:Nat):0<=onS x s/\onS x s<4:=by
 have:=hx.t;have h1:=Int.tmod_nonneg 4 (show(0:Int)<=(s:Int)+4-x.turn by omega)
 have h2:=Int.tmod_lt_of_pos ((s:Int)+4-x.turn) (show(0:Int)<4 by decide)
 exact⟨h1,h2⟩
def zr(P:Program)(d:Puz)(L:List Lay)(x:Lay)(s:Nat):Env:=mkF P (Gd QP (flU d L.length x.piece (onS x s)))
theorem QJ2{d:Puz}{L:List Lay}{x:Lay}(hx:Q9 d x)(s:Nat):(zr prog d L x s).Sound:=
 JJ (Qb.add (QNu d L.length x.piece (onS x s) hx.p.1 hx.p.2 (QCh hx s).1 (QCh hx s).2))
def myR(L:List Lay)(x:Lay)(s:Nat)(e:Ex)(J:JSt):Prop:=(e = .ret/\(QU (Ks d L.length x) (4-s) s).isNone=false/\J=GK E)∨(e = .exit 0/\(QU (Ks d L.length x) (4-s) s).isNone=true/\J=QH8 d E L x)
set_option maxHeartbeats 4000000 in
theorem QcX(L:List Lay)(x:Lay)(hx:Q9 d x):Jf (myJ d E L x) (λs=>s<=4) (λs=>4-s) (myR d E L x) 216 QQg [201] (zr prog d L x) (λs=>hnd (zr prog d L x s) 1) (QH f105 0):=by
 refine⟨λs g0 hk=>?_⟩;unfold zr;refine Qe (QfF QP d E L x s g0) ?_;have hk:s<=4:=hk;refine QF (λb0=>?_) (λb0=>?_);have h:s<4:=by have:=qdt b0;omega
 have hf:=J4 (p:=Ks d L.length x) h;have ht:=hx.t;refine QG ?_ ?_;rotate_left;refine QF (λb1=>?_) (λb1=>?_);obtain rfl:s=0:=by have:=qdt b1;omega
 refine QF ?_ ?_<;>intro b2
 iterate 2 (refine QG ?_ ?_;rotate_left)
 refine QF ?_ ?_<;>intro b3
 .have hb:Ks d L.length x 0=true:=by show(QT d L.length 0 && !KZ d x.piece (onS x _))=true;rw[b2];exact b3
  exact⟨_,.inl ⟨rfl,by rw[hf.1 hb];rfl,rfl⟩,rfl,rfl,_,QYv E,⟨rfl,rfl,rfl,trivial⟩⟩
 have hb:Ks d L.length x 0=false:=by show(QT d L.length 0 && !KZ d x.piece (onS x _))=false;rw[b2];exact b3
 refine⟨1,by show 1<=4;omega,by show 4-1<4-0;omega,λe J h=>by unfold myR at h ⊢;rw[hf.2 hb];exact h,rfl,rfl,_,Qaj d E L x 1,?_⟩
 rotate_left
 have hb:Ks d L.length x 0=false:=by show(QT d L.length 0 && !KZ d x.piece (onS x _))=false;rw[b2];rfl
 refine⟨1,by show 1<=4;omega,by show 4-1<4-0;omega,λe J h=>by unfold myR at h ⊢;rw[hf.2 hb];exact h,rfl,rfl,_,QTH d E L x 1,?_⟩
 rotate_left
 refine QF (λb4=>?_) (λb4=>?_);obtain rfl:s=1:=by have:=qdt b4;omega
 refine QF ?_ ?_<;>intro b5
 iterate 2 (refine QG ?_ ?_;rotate_left)
 refine QF ?_ ?_<;>intro b6
 .have hb:Ks d L.length x 1=true:=by show(QT d L.length 1 && !KZ d x.piece (onS x _))=true;rw[b5];exact b6
  exact⟨_,.inl ⟨rfl,by rw[hf.1 hb];rfl,rfl⟩,rfl,rfl,_,Qbr E,⟨rfl,rfl,rfl,trivial⟩⟩
 have hb:Ks d L.length x 1=false:=by show(QT d L.length 1 && !KZ d x.piece (onS x _))=false;rw[b5];exact b6
 refine⟨2,by show 2<=4;omega,by show 4-2<4-1;omega,λe J h=>by unfold myR at h ⊢;rw[hf.2 hb];exact h,rfl,rfl,_,Qdu d E L x 2,?_⟩
 rotate_left
 have hb:Ks d L.length x 1=false:=by show(QT d L.length 1 && !KZ d x.piece (onS x _))=false;rw[b5];rfl
 refine⟨2,by show 2<=4;omega,by show 4-2<4-1;omega,λe J h=>by unfold myR at h ⊢;rw[hf.2 hb];exact h,rfl,rfl,_,QfY d E L x 2,?_⟩
 rotate_left
 refine QF (λb7=>?_) (λb7=>?_);obtain rfl:s=2:=by have:=qdt b7;omega
 refine QF ?_ ?_<;>intro b8
 iterate 2 (refine QG ?_ ?_;rotate_left)
 refine QF ?_ ?_<;>intro b9
 .have hb:Ks d L.length x 2=true:=by show(QT d L.length 2 && !KZ d x.piece (onS x _))=true;rw[b8];exact b9
  exact⟨_,.inl ⟨rfl,by rw[hf.1 hb];rfl,rfl⟩,rfl,rfl,_,QWR E,⟨rfl,rfl,rfl,trivial⟩⟩
 have hb:Ks d L.length x 2=false:=by show(QT d L.length 2 && !KZ d x.piece (onS x _))=false;rw[b8];exact b9
 refine⟨3,by show 3<=4;omega,by show 4-3<4-2;omega,λe J h=>by unfold myR at h ⊢;rw[hf.2 hb];exact h,rfl,rfl,_,Qbf d E L x 3,?_⟩
 rotate_left
 have hb:Ks d L.length x 2=false:=by show(QT d L.length 2 && !KZ d x.piece (onS x _))=false;rw[b8];rfl
 refine⟨3,by show 3<=4;omega,by show 4-3<4-2;omega,λe J h=>by unfold myR at h ⊢;rw[hf.2 hb];exact h,rfl,rfl,_,QZA d E L x 3,?_⟩
 rotate_left
 obtain rfl:s=3:=by
  have h1:=qdf b1;have h2:=qdf b4;have h3:=qdf b7;omega
 refine QF ?_ ?_<;>intro b10
 iterate 2 (refine QG ?_ ?_;rotate_left)
 refine QF ?_ ?_<;>intro b11
 .have hb:Ks d L.length x 3=true:=by show(QT d L.length 3 && !KZ d x.piece (onS x _))=true;rw[b10];exact b11
  exact⟨_,.inl ⟨rfl,by rw[hf.1 hb];rfl,rfl⟩,rfl,rfl,_,QTP E,⟨rfl,rfl,rfl,trivial⟩⟩
 have hb:Ks d L.length x 3=false:=by show(QT d L.length 3 && !KZ d x.piece (onS x _))=false;rw[b10];exact b11
 refine⟨4,by show 4<=4;omega,by show 4-4<4-3;omega,λe J h=>by unfold myR at h ⊢;rw[hf.2 hb];exact h,rfl,rfl,_,QcP d E L x 4,?_⟩
 rotate_left
 have hb:Ks d L.length x 3=false:=by show(QT d L.length 3 && !KZ d x.piece (onS x _))=false;rw[b10];rfl
 refine⟨4,by show 4<=4;omega,by show 4-4<4-3;omega,λe J h=>by unfold myR at h ⊢;rw[hf.2 hb];exact h,rfl,rfl,_,QbQ d E L x 4,?_⟩
 rotate_left
 obtain rfl:s=4:=by have:=qdf b0;omega
 refine⟨_,.inr ⟨rfl,rfl,rfl⟩,rfl,rfl,_,QaL d E L x,?_⟩
 rotate_left
 all_goals first|((with_reducible show _=true);(first|(refine Q7.2 ?_;repeat' first|exact tv|exact qRr|refine aI ?_ ?_)|(simp;omega)))|(repeat' first|with_reducible refine QO ?_ ?_|exact tv|exact qRr|exact rfl|refine aI ?_ ?_)
def Zf(c:Nat)(x:Lay):Bool:=(QU (Ks d c x) 4 0).isNone
def myX(L:List Lay)(x:Lay):List (Prop×Ex×JSt):=[(Zf d L.length x=false,.ret,GK E),(Zf d L.length x=true,.exit 0,QH8 d E L x)]
abbrev myH(P:Program)(d:Puz)(E:ECt)(L:List Lay)(x:Lay):Hnd:={ hnd (mkF P QS) 1 with loop:=λ_=>Q4 216 [201] (myJ d E L x (0:Nat)) (myX d E L x) }
theorem QSn(L:List Lay)(x:Lay)(hx:Q9 d x)(G:Ctx)(hrd:G.rd=none)(hG:G.n<=216):Qx (mkF prog QS) G (myH prog d E L x) (Qk f105):=by
 refine KR (body:=QH f105 0) (JJ Qb) hrd (by kernel_rfl) ?_
 refine Jp (E0:=mkF prog QS) (E:=zr prog d L x) (H:=λs=>hnd (zr prog d L x s) 1) (n0:=216) (s0:=0) (λ_=>rfl) (QJ2 hx) hG (λs _=>Qu (QJ2 hx s) 1 G _ hrd) (λs _=>(by decide:216<=224)) ?_ (QcX d E L x hx) (Nat.zero_le _) ?_
 .rintro s e J (⟨_,_,rfl⟩|⟨_,_,rfl⟩)<;>exact(by decide:216<=224)
 .rintro e J (⟨rfl,h,rfl⟩|⟨rfl,h,rfl⟩)
  .exact⟨_,qmc,h,rfl,rfl⟩
  .exact⟨_,List.mem_cons_of_mem _ qmc,h,rfl,rfl⟩
def myU(L:List Lay)(x:Lay)(v:Bool):UC:=⟨208,⟨2,[(0,.ptr 200 0 0),(1,Enc.enc x)],QGh d E L,216⟩,λ_=>.bool false v,λ_=>[(201,.mp E.1 E.2)]⟩
abbrev waS(L:List Lay)(d:Puz):List Prop:=[(L.length:Int)=(L.length:Int),i64.wrap ((L.length:Int).tdiv d.wide)=Qo d L.length,(L.length:Int).tmod d.wide=Q2 d L.length,(i64.wrap ((L.length:Int).tdiv d.wide)==0)=QT d L.length 0,((L.length:Int).tmod d.wide==i64.wrap (d.wide-1))=QT d L.length 1,(i64.wrap ((L.length:Int).tdiv d.wide)==i64.wrap (d.high-1))=QT d L.length 2,((L.length:Int).tmod d.wide==0)=QT d L.length 3]
theorem QXH(L:List Lay)(x:Lay)(v:Bool):VM (mkF prog QS) (myH prog d E L x) f105 (myU d E L x v) = .need (!decide (d.wide=0)) (.need (!decide (d.wide=0)) (.ak [0=0,0=0,0=0,0=0,(L.length:Int)=(L.length:Int),i64.wrap ((L.length:Int).tdiv d.wide)=Qo d L.length,(L.length:Int).tmod d.wide=Q2 d L.length,(i64.wrap ((L.length:Int).tdiv d.wide)==0)=QT d L.length 0,((L.length:Int).tmod d.wide==i64.wrap (d.wide-1))=QT d L.length 1,(i64.wrap ((L.length:Int).tdiv d.wide)==i64.wrap (d.high-1))=QT d L.length 2,((L.length:Int).tmod d.wide==0)=QT d L.length 3,(0:Int)=0,x.piece=x.piece,x.turn=x.turn,d.pK.length=d.pK.length,d.pK.aK=d.pK.aK,d.pK.oK=d.pK.oK,d.pK.dK.lo=d.pK.dK.lo,d.pK.dK.hi=d.pK.dK.hi,d.wide=d.wide,d.high=d.high,d.turn=d.turn,0=0,d.ps.n=d.ps.n,cO=cO,0=0,L.length=L.length,cO=cO,L.length<=L.length,QB 2 L.length (λi=>QA.enc (L.getD i (Lay.mk (0:Int) (0:Int)))) λi=>QA.enc (L.getD i (Lay.mk (0:Int) (0:Int))),E.1=E.1,E.2=E.2,d.ps.n<=d.ps.n,QB 28 d.ps.n (λi=>QA.enc (d.ps.get i)) λi=>QA.enc (d.ps.get i)] (.both (.asm (Zf d L.length x=false) (.all (λ(g0:Nat->Value)=>.leaf (.bool false false) ([(201, .mp E.1 E.2)])))) (.asm (Zf d L.length x=true) (.all (λ(g1:Nat->Value)=>.br (decide (Qo d L.length>0)) (.need (decide ((0:Int)<=i64.wrap ((L.length:Int)-d.wide)/\i64.wrap ((L.length:Int)-d.wide)<(L.length:Int))&&decide (L.length<=L.length)) (.need (decide ((i64.wrap ((L.length:Int)-d.wide)).toNat<L.length)) (.need (true&&(true&&true)&&decide (((0:Int)<=(L.getD (i64.wrap ((L.length:Int)-d.wide)).toNat (Lay.mk (0:Int) (0:Int))).turn/\(L.getD (i64.wrap ((L.length:Int)-d.wide)).toNat (Lay.mk (0:Int) (0:Int))).turn<=3)/\(0:Int)<=2/\(2:Int)<=3)) (.need (true&&(true&&true)&&decide (((0:Int)<=x.turn/\x.turn<=3)/\(0:Int)<=0/\(0:Int)<=3)) (.need (wf4 i64 E.1) (.br (KJ E.1 [(L.getD (i64.wrap ((L.length:Int)-d.wide)).toNat (Lay.mk (0:Int) (0:Int))).piece,onS (L.getD (i64.wrap ((L.length:Int)-d.wide)).toNat (Lay.mk (0:Int) (0:Int))) (2:Int),x.piece,onS x (0:Int)]==0) (.leaf (.bool true false) ([(201,.mp E.1 E.2)])) (.br (Q2 d L.length==0) (.leaf (.bool true true) ([(201,.mp E.1 E.2)])) (.need (decide ((0:Int)<=i64.wrap ((L.length:Int)-1)/\i64.wrap ((L.length:Int)-1)<(L.length:Int))&&decide (L.length<=L.length)) (.need (decide ((i64.wrap ((L.length:Int)-1)).toNat<L.length)) (.need (true&&(true&&true)&&decide (((0:Int)<=(L.getD (i64.wrap ((L.length:Int)-1)).toNat (Lay.mk (0:Int) (0:Int))).turn/\(L.getD (i64.wrap ((L.length:Int)-1)).toNat (Lay.mk (0:Int) (0:Int))).turn<=3)/\(0:Int)<=1/\(1:Int)<=3)) (.need (true&&(true&&true)&&decide (((0:Int)<=x.turn/\x.turn<=3)/\(0:Int)<=3/\(3:Int)<=3)) (.need (wf4 i64 E.1) (.leaf (.bool false (KJ E.1 [(L.getD (i64.wrap ((L.length:Int)-1)).toNat (Lay.mk (0:Int) (0:Int))).piece,onS (L.getD (i64.wrap ((L.length:Int)-1)).toNat (Lay.mk (0:Int) (0:Int))) (1:Int),x.piece,onS x (3:Int)] != 0)) ([(201,.mp E.1 E.2)])))))))))))))) (.br (Q2 d L.length==0) (.leaf (.bool true true) ([(201,.mp E.1 E.2)])) (.need (decide ((0:Int)<=i64.wrap ((L.length:Int)-1)/\i64.wrap ((L.length:Int)-1)<(L.length:Int))&&decide (L.length<=L.length)) (.need (decide ((i64.wrap ((L.length:Int)-1)).toNat<L.length)) (.need (true&&(true&&true)&&decide (((0:Int)<=(L.getD (i64.wrap ((L.length:Int)-1)).toNat (Lay.mk (0:Int) (0:Int))).turn/\(L.getD (i64.wrap ((L.length:Int)-1)).toNat (Lay.mk (0:Int) (0:Int))).turn<=3)/\(0:Int)<=1/\(1:Int)<=3)) (.need (true&&(true&&true)&&decide (((0:Int)<=x.turn/\x.turn<=3)/\(0:Int)<=3/\(3:Int)<=3)) (.need (wf4 i64 E.1) (.leaf (.bool false (KJ E.1 [(L.getD (i64.wrap ((L.length:Int)-1)).toNat (Lay.mk (0:Int) (0:Int))).piece,onS (L.getD (i64.wrap ((L.length:Int)-1)).toNat (Lay.mk (0:Int) (0:Int))) (1:Int),x.piece,onS x (3:Int)] != 0)) ([(201,.mp E.1 E.2)])))))))))))))):=by kernel_rfl
structure KK (d:Puz):Prop where
 n:d.ps.n<=1000
 w1:1<=d.wide
 wn:d.wide<=d.ps.n
 h1:1<=d.high
 hn:d.high<=d.ps.n
 wh:d.wide*d.high=d.ps.n
def atL(L:List Lay)(i:Int):Lay:=L.getD i.toNat ⟨0,0⟩
def Wn(p q:Lay)(s t:Int):Int:=KJ E.1 [p.piece,onS p s,q.piece,onS q t]
def Q0(L:List Lay)(x:Lay):Bool:=Zf d L.length x&&((!decide (0<Qo d L.length) || !(Wn E (atL L ((L.length:Int)-d.wide)) x 2 0==0))&&(Q2 d L.length==0||Wn E (atL L ((L.length:Int)-1)) x 1 3 != 0))
theorem QQV{d:Puz}(h:KK d)(c:Nat):0<=Qo d c/\Qo d c<=c:=by
 have:=h.w1;refine⟨Int.tdiv_nonneg (by omega) (by omega),?_⟩
 rw[Qo,Int.tdiv_eq_ediv_of_nonneg (by omega)]
 exact Int.ediv_le_self _ (by omega)
theorem QRS{d:Puz}(h:KK d){c:Nat}(hr:0<Qo d c):d.wide<=c:=by
 have:=h.w1;rw[Qo,Int.tdiv_eq_ediv_of_nonneg (by omega)]at hr
 have:=(Int.le_ediv_iff_mul_le (a:=1) (b:=(c:Int)) (c:=d.wide) (by omega)).1 (by omega)
 omega
theorem QCl{d:Puz}{c:Nat}(hr:(Q2 d c==0)=false):1<=c:=by
 cases c with
 | zero=>simp[Q2]at hr
 | succ c=>omega
theorem Gg{d:Puz}{L:List Lay}(hL:∀ y∈L,Q9 d y){i:Int}(h1:0<=i)(h2:i<L.length):Q9 d (atL L i):=by
 have h:i.toNat<L.length:=by omega
 exact hL _ (by rw[atL,Xs h];exact List.getElem_mem h)
theorem QZT(L:List Lay)(x:Lay)(v b:Bool)(k:Bool)(h:v=b):(QC.leaf (.bool k v) [(201,.mp E.1 E.2)]).den (jR (myU d E L x b)):=⟨rfl,rfl,_,by cases k<;>rfl,by subst h;exact⟨rfl,rfl,rfl,trivial⟩⟩
theorem QTl(L:List Lay)(x:Lay)(v:Bool):(myU d E L x v).Ok:=by
 refine⟨(by decide:208<=216),rfl,rfl,?_,rfl,λ_ _=>rfl,λnid h=>rfl⟩
 intro q hq;simp only[UC.po,myU,List.mem_cons,List.not_mem_nil,or_false]at hq;subst hq;exact⟨rfl,rfl,rfl,λ_=>rfl⟩
theorem QBd(L:List Lay)(x:Lay)(hd:KK d)(hE:WfE E)(hl:L.length<=1000)(hL:∀ y∈L,Q9 d y)(hx:Q9 d x):QR prog 105 (uFC (myU d E L x (Q0 d E L x))):=by
 refine Kw (E:=mkF prog QS) (JJ Qb) func105 (by kernel_rfl) (by kernel_rfl) (QTl ..) (λG h1 h2=>QSn d E L x hx G h1 (by rw[h2];exact qlr _)) ⟨?_⟩
 have fin:∀(v k:Bool),v=Q0 d E L x->(QC.leaf (.bool k v) [(201,.mp E.1 E.2)]).den (jR (myU d E L x (Q0 d E L x))):=λv k h=>QZT d E L x v _ k h;have hw1:=hd.w1;have hwn:=hd.wn;have hh1:=hd.h1;have hhn:=hd.hn;have hn:=hd.n;have hr:=QQV hd L.length;have ht:=hx.t;have hE:wf4 .i64 E.1=true:=hE;have wr:i64.wrap ((L.length:Int).tdiv d.wide)=Qo d L.length:=w64 (by have:=hr.1;unfold Qo at this;omega) (by have:=hr.2;unfold Qo at this;omega)
 have ww:i64.wrap (d.wide-1)=d.wide-1:=w64 (by omega) (by omega)
 have wh:i64.wrap (d.high-1)=d.high-1:=w64 (by omega) (by omega)
 have wu:i64.wrap ((L.length:Int)-d.wide)=(L.length:Int)-d.wide:=w64 (by omega) (by omega)
 have wl:i64.wrap ((L.length:Int)-1)=(L.length:Int)-1:=w64 (by omega) (by omega)
 generalize hv:Q0 d E L x=v at fin;refine Qe (QXH d E L x v) ?_;rw[wr,ww,wh,wu,wl]
 iterate 2 (refine QG ?_ ?_;rotate_left)
 iterate 34 refine Qp (by first|exact tv|exact Nat.le_refl _|exact qRr|exact rfl) ?_
 refine Kb ?_ ?_;refine Qf λa0=>?_;refine Qh λg0=>?_
 .refine fin _ _ ?_;rw[<-hv,Q0,a0];rfl
 refine Qf λa1=>?_;refine Qh λg1=>?_;refine QF (λb0=>?_) (λb0=>?_);have hcw:=QRS hd (qdt b0);have hU:=(Gg hL (i:=(L.length:Int)-d.wide) (by omega) (by omega)).t
 iterate 5 (refine QG ?_ ?_;rotate_left)
 refine QF ?_ ?_<;>intro b1
 .refine fin _ _ ?_;rw[<-hv,Q0,a1,show decide (0<Qo d L.length)=true from b0,show(Wn E (atL L ((L.length:Int)-d.wide)) x 2 0==0)=true from b1];rfl
 refine QF ?_ ?_<;>intro b2
 .refine fin _ _ ?_;rw[<-hv,Q0,a1,show decide (0<Qo d L.length)=true from b0,show(Wn E (atL L ((L.length:Int)-d.wide)) x 2 0==0)=false from b1,b2];rfl
 have hc1:=QCl b2;have hV:=(Gg hL (i:=(L.length:Int)-1) (by omega) (by omega)).t
 iterate 5 (refine QG ?_ ?_;rotate_left)
 .refine fin _ _ ?_;rw[<-hv,Q0,a1,show decide (0<Qo d L.length)=true from b0,show(Wn E (atL L ((L.length:Int)-d.wide)) x 2 0==0)=false from b1,b2];rfl
 refine QF ?_ ?_<;>intro b3
 .refine fin _ _ ?_;rw[<-hv,Q0,a1,show decide (0<Qo d L.length)=false from b0,b3];rfl
 have hc1:=QCl b3;have hV:=(Gg hL (i:=(L.length:Int)-1) (by omega) (by omega)).t
 iterate 5 (refine QG ?_ ?_;rotate_left)
 .refine fin _ _ ?_;rw[<-hv,Q0,a1,show decide (0<Qo d L.length)=false from b0,b3];rfl
 all_goals first|exact hE|rfl|exact qde (show(0<=(atL L _).turn/\_)/\_ from⟨hU,by decide,by decide⟩)|exact qde (show(0<=(atL L _).turn/\_)/\_ from⟨hV,by decide,by decide⟩)|exact qde ⟨ht,by decide,by decide⟩|(simp;omega)
