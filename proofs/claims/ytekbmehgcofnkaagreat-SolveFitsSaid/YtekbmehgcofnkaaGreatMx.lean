/- - -/
import Derived.Test.YtekbmehgcofnkaaGreatMw
open Go.Proofs.Tryz
open Go.IntKind (i64)
set_option maxRecDepth 100000
namespace Go.Proofs.YtekbmehgcofnkaaGreat
open Go.SX Go.SX.Told
variable {p q:QY}{t:Nat}(d:Puz)(E:ECt)(i:Nat)
def meF(p q:QY)(s t:Nat):Int:=(Kq d.pK (K1 p s) (K1 q t)).1
def QCW(i s k t:Nat)(n:Int)(E:ECt):ECt:=(JS [(i:Int),(s:Int),(k:Int),(t:Int)] (KX i s k t) (.int .i64 n) E.2 E.1,clL [(i:Int),(s:Int),(k:Int),(t:Int)] E.2 E.1)
def stE(p q:QY)(i k s t:Nat)(E:ECt):ECt:=cond (((i:Int) != (k:Int))&&(meF d p q s t != 0)) (QCW i s k t (meF d p q s t) E) E
def m4(d:Puz)(p q:QY)(i k s:Nat)(E:ECt):Nat->ECt
 | 0=>E
 | t+1=>stE d p q i k s t (m4 d p q i k s E t)
def m3(d:Puz)(p q:QY)(i k:Nat)(E:ECt):Nat->ECt
 | 0=>E
 | s+1=>m4 d p q i k s (m3 d p q i k E s) 4
def m2(d:Puz)(p:QY)(i:Nat)(E:ECt):Nat->ECt
 | 0=>E
 | k+1=>m3 d p (d.ps.get k) i k (m2 d p i E k) 4
def m1(d:Puz):Nat->ECt
 | 0=>([],0)
 | i+1=>m2 d (d.ps.get i) i (m1 d i) d.ps.n
def WfE:Prop:=wf4 .i64 E.1=true
theorem QiO{es:List MapEntry}(h:wf4 .i64 es=true)(a b c d n:Int):∀ i,wf4 .i64 (VB (KX a b c d) (.int .i64 n) es i)=true:=by
 induction es with
 | nil=>intro i;cases i<;>rfl
 | cons e es ih=>
  simp only[wf4,List.all_cons,qbA]at h;intro i;cases i with
  | zero=>simp only[VB,wf4,List.all_cons,qbA];exact⟨⟨rfl,rfl⟩,h.2⟩
  | succ i=>
   have:=ih h.2 i;simp only[wf4]at this;simp only[VB,wf4,List.all_cons,qbA];exact⟨h.1,this⟩
theorem QSY{E:ECt}(h:WfE E)(i s k t:Nat)(n:Int):WfE (QCW i s k t n E):=by
 show wf4 .i64 (JS _ _ _ E.2 E.1)=true;unfold JS;split
 .exact QiO h _ _ _ _ _ _
 .have h:wf4 .i64 E.1=true:=h;simp only[wf4,List.all_append,qbA]at h ⊢;exact⟨h,rfl⟩
theorem QhT{d:Puz}{i k s:Nat}{E:ECt}(h:WfE E):WfE (stE d p q i k s t E):=by
 unfold stE;cases ((i:Int) != (k:Int))&&(meF d p q s t != 0)
 .exact h
 .exact QSY h _ _ _ _ _
theorem QJf{d:Puz}{p q:QY}{i k s:Nat}{E:ECt}(h:WfE E):∀ t,WfE (m4 d p q i k s E t)
 | 0=>h
 | t+1=>QhT (QJf h t)
theorem QIY{d:Puz}{p q:QY}{i k:Nat}{E:ECt}(h:WfE E):∀ s,WfE (m3 d p q i k E s)
 | 0=>h
 | s+1=>QJf (QIY h s) 4
theorem QHJ{d:Puz}{p:QY}{i:Nat}{E:ECt}(h:WfE E):∀ k,WfE (m2 d p i E k)
 | 0=>h
 | k+1=>QIY (QHJ h k) 4
theorem QJj(d:Puz):∀ i,WfE (m1 d i)
 | 0=>rfl
 | i+1=>QHJ (QJj d i) _
theorem QCk{d:Puz}{i k s:Nat}{E:ECt}(h1:((i:Int) != (k:Int))=true)(h2:(meF d p q s t != 0)=true):stE d p q i k s t E=QCW i s k t (meF d p q s t) E:=by unfold stE;rw[h1,h2];rfl
theorem QDn{d:Puz}{i k s:Nat}{E:ECt}(h2:(meF d p q s t != 0)=false):stE d p q i k s t E=E:=by unfold stE;rw[h2,Bool.and_false];rfl
theorem QFq{d:Puz}{i k s:Nat}{E:ECt}(h1:((i:Int) != (k:Int))=false):stE d p q i k s t E=E:=by unfold stE;rw[h1];rfl
set_option maxHeartbeats 4000000 in
theorem Qa8(p q:QY)(i k s:Nat)(E:ECt)(hE:WfE E):JP (λt=>Vs d (m4 d p q i k s E t) p q (K1 p s) i k s t) (λt=>t<=4) (λt=>4-t) (λ_ e J=>e = .exit 6/\J=QF8 d (m4 d p q i k s E 4) p q i k s) 8 QNg [] (mkF prog KQ) (λ_=>hnd (mkF prog KQ) 1) (QU (QU (QU (QH f60 0)))):=by
 refine⟨λt g0 hk=>Qf (QgB d (m4 d p q i k s E t) p q (K1 p s) i k s t g0) ?_⟩;have hk:t<=4:=hk;have hw:wf4 .i64 (m4 d p q i k s E t).1=true:=QJf hE t;refine QE (λb0=>?_) (λb0=>?_);refine QG ?_ ?_;rotate_left;refine QE (λb1=>?_) (λb1=>?_);obtain rfl:t=0:=by have:=qdt b1;omega
 refine QG ?_ ?_;rotate_left;refine QE (λb2=>?_) (λb2=>?_);refine QE (λb3=>?_) (λb3=>?_);refine QG ?_ ?_;rotate_left
 .have hs:m4 d p q i k s E 1=_:=QCk b2 b3;refine⟨1,by show 1<=4;omega,by show 4-1<4-0;omega,λ_ _ r=>r,rfl,rfl,_,QgZ ..,?_⟩
  have q1:_=(m4 d p q i k s E 1).1:=congrArg Prod.fst hs.symm;have q2:_=(m4 d p q i k s E 1).2:=congrArg Prod.snd hs.symm
  repeat' first|with_reducible refine QL ?_ ?_|exact tv|exact qRr|exact q1|exact q2|exact rfl|refine aI ?_ ?_
 .have hs:m4 d p q i k s E 1=_:=QDn b3;refine⟨1,by show 1<=4;omega,by show 4-1<4-0;omega,λ_ _ r=>r,rfl,rfl,_,QXH ..,?_⟩
  have q1:_=(m4 d p q i k s E 1).1:=congrArg Prod.fst hs.symm;have q2:_=(m4 d p q i k s E 1).2:=congrArg Prod.snd hs.symm
  repeat' first|with_reducible refine QL ?_ ?_|exact tv|exact qRr|exact q1|exact q2|exact rfl|refine aI ?_ ?_
 .have hs:m4 d p q i k s E 1=_:=QFq b2;refine⟨1,by show 1<=4;omega,by show 4-1<4-0;omega,λ_ _ r=>r,rfl,rfl,_,Qif ..,?_⟩
  have q1:_=(m4 d p q i k s E 1).1:=congrArg Prod.fst hs.symm;have q2:_=(m4 d p q i k s E 1).2:=congrArg Prod.snd hs.symm
  repeat' first|with_reducible refine QL ?_ ?_|exact tv|exact qRr|exact q1|exact q2|exact rfl|refine aI ?_ ?_
 refine QE (λb4=>?_) (λb4=>?_);obtain rfl:t=1:=by have:=qdt b4;omega
 refine QG ?_ ?_;rotate_left;refine QE (λb5=>?_) (λb5=>?_);refine QE (λb6=>?_) (λb6=>?_);refine QG ?_ ?_;rotate_left
 .have hs:m4 d p q i k s E 2=_:=QCk b5 b6;refine⟨2,by show 2<=4;omega,by show 4-2<4-1;omega,λ_ _ r=>r,rfl,rfl,_,QWH ..,?_⟩
  have q1:_=(m4 d p q i k s E 2).1:=congrArg Prod.fst hs.symm;have q2:_=(m4 d p q i k s E 2).2:=congrArg Prod.snd hs.symm
  repeat' first|with_reducible refine QL ?_ ?_|exact tv|exact qRr|exact q1|exact q2|exact rfl|refine aI ?_ ?_
 .have hs:m4 d p q i k s E 2=_:=QDn b6;refine⟨2,by show 2<=4;omega,by show 4-2<4-1;omega,λ_ _ r=>r,rfl,rfl,_,QcY ..,?_⟩
  have q1:_=(m4 d p q i k s E 2).1:=congrArg Prod.fst hs.symm;have q2:_=(m4 d p q i k s E 2).2:=congrArg Prod.snd hs.symm
  repeat' first|with_reducible refine QL ?_ ?_|exact tv|exact qRr|exact q1|exact q2|exact rfl|refine aI ?_ ?_
 .have hs:m4 d p q i k s E 2=_:=QFq b5;refine⟨2,by show 2<=4;omega,by show 4-2<4-1;omega,λ_ _ r=>r,rfl,rfl,_,QeM ..,?_⟩
  have q1:_=(m4 d p q i k s E 2).1:=congrArg Prod.fst hs.symm;have q2:_=(m4 d p q i k s E 2).2:=congrArg Prod.snd hs.symm
  repeat' first|with_reducible refine QL ?_ ?_|exact tv|exact qRr|exact q1|exact q2|exact rfl|refine aI ?_ ?_
 refine QE (λb7=>?_) (λb7=>?_);obtain rfl:t=2:=by have:=qdt b7;omega
 refine QG ?_ ?_;rotate_left;refine QE (λb8=>?_) (λb8=>?_);refine QE (λb9=>?_) (λb9=>?_);refine QG ?_ ?_;rotate_left
 .have hs:m4 d p q i k s E 3=_:=QCk b8 b9;refine⟨3,by show 3<=4;omega,by show 4-3<4-2;omega,λ_ _ r=>r,rfl,rfl,_,Qda ..,?_⟩
  have q1:_=(m4 d p q i k s E 3).1:=congrArg Prod.fst hs.symm;have q2:_=(m4 d p q i k s E 3).2:=congrArg Prod.snd hs.symm
  repeat' first|with_reducible refine QL ?_ ?_|exact tv|exact qRr|exact q1|exact q2|exact rfl|refine aI ?_ ?_
 .have hs:m4 d p q i k s E 3=_:=QDn b9;refine⟨3,by show 3<=4;omega,by show 4-3<4-2;omega,λ_ _ r=>r,rfl,rfl,_,Qd0 ..,?_⟩
  have q1:_=(m4 d p q i k s E 3).1:=congrArg Prod.fst hs.symm;have q2:_=(m4 d p q i k s E 3).2:=congrArg Prod.snd hs.symm
  repeat' first|with_reducible refine QL ?_ ?_|exact tv|exact qRr|exact q1|exact q2|exact rfl|refine aI ?_ ?_
 .have hs:m4 d p q i k s E 3=_:=QFq b8;refine⟨3,by show 3<=4;omega,by show 4-3<4-2;omega,λ_ _ r=>r,rfl,rfl,_,Qii ..,?_⟩
  have q1:_=(m4 d p q i k s E 3).1:=congrArg Prod.fst hs.symm;have q2:_=(m4 d p q i k s E 3).2:=congrArg Prod.snd hs.symm
  repeat' first|with_reducible refine QL ?_ ?_|exact tv|exact qRr|exact q1|exact q2|exact rfl|refine aI ?_ ?_
 obtain rfl:t=3:=by
  have h0:=qdt b0;have h1:=qdf b1;have h2:=qdf b4;have h3:=qdf b7;omega
 refine QG ?_ ?_;rotate_left;refine QE (λb10=>?_) (λb10=>?_);refine QE (λb11=>?_) (λb11=>?_);refine QG ?_ ?_;rotate_left
 .have hs:m4 d p q i k s E 4=_:=QCk b10 b11;refine⟨4,by show 4<=4;omega,by show 4-4<4-3;omega,λ_ _ r=>r,rfl,rfl,_,QZd ..,?_⟩
  have q1:_=(m4 d p q i k s E 4).1:=congrArg Prod.fst hs.symm;have q2:_=(m4 d p q i k s E 4).2:=congrArg Prod.snd hs.symm
  repeat' first|with_reducible refine QL ?_ ?_|exact tv|exact qRr|exact q1|exact q2|exact rfl|refine aI ?_ ?_
 .have hs:m4 d p q i k s E 4=_:=QDn b11;refine⟨4,by show 4<=4;omega,by show 4-4<4-3;omega,λ_ _ r=>r,rfl,rfl,_,QZ1 ..,?_⟩
  have q1:_=(m4 d p q i k s E 4).1:=congrArg Prod.fst hs.symm;have q2:_=(m4 d p q i k s E 4).2:=congrArg Prod.snd hs.symm
  repeat' first|with_reducible refine QL ?_ ?_|exact tv|exact qRr|exact q1|exact q2|exact rfl|refine aI ?_ ?_
 .have hs:m4 d p q i k s E 4=_:=QFq b10;refine⟨4,by show 4<=4;omega,by show 4-4<4-3;omega,λ_ _ r=>r,rfl,rfl,_,Qiq ..,?_⟩
  have q1:_=(m4 d p q i k s E 4).1:=congrArg Prod.fst hs.symm;have q2:_=(m4 d p q i k s E 4).2:=congrArg Prod.snd hs.symm
  repeat' first|with_reducible refine QL ?_ ?_|exact tv|exact qRr|exact q1|exact q2|exact rfl|refine aI ?_ ?_
 obtain rfl:t=4:=by have:=qdf b0;omega
 refine⟨_,⟨rfl,rfl⟩,rfl,rfl,_,Qfb ..,?_⟩
 rotate_left
 all_goals first|((with_reducible show _=true);(first|exact hw|rfl|(simp;omega)|(simp at b0 ⊢;omega)))|(repeat' first|with_reducible refine QL ?_ ?_|exact tv|exact qRr|refine aI ?_ ?_)
theorem QgK(p q:QY)(i k s:Nat)(E:ECt)(hE:WfE E)(G:Ctx)(hrd:G.rd=none)(hG:G.n<=8):Qw (mkF prog KQ) G (QF1 prog d E (m4 d p q i k s E 4) p q (K1 p s) i k s) (QU (QU (QH f60 0))):=by
 refine KN (body:=QU (QU (QU (QH f60 0)))) (KF JV) hrd (by kernel_rfl) ?_
 refine Jq (I:=λt=>Vs d (m4 d p q i k s E t) p q (K1 p s) i k s t) (n0:=8) (KF JV) hG (λt ht=>Qv (KF JV) 1 G _ hrd) (λt ht=>(by decide:8<=104)) ?_ (Qa8 d p q i k s E hE) (s0:=0) (Nat.zero_le _) ?_
 .rintro s e J ⟨_,rfl⟩;exact(by decide:8<=104)
 .rintro e J ⟨rfl,rfl⟩;exact⟨_,qmc,trivial,rfl,rfl⟩
set_option maxHeartbeats 4000000 in
theorem QWg(p q:QY)(i k:Nat)(E:ECt):JP (λs=>W8 d (m3 d p q i k E s) p q i k s) (λs=>s<=4) (λs=>4-s) (λ_ e J=>e = .exit 4/\J=QHk d (m3 d p q i k E 4) p i k) 8 QSc [] (mkF prog KQ) (λs=>QF1 prog d (m3 d p q i k E s) (m4 d p q i k s (m3 d p q i k E s) 4) p q (K1 p s) i k s) (QU (QU (QH f60 0))):=by
 refine⟨λs g0 hk=>Qf (QX0 d (m3 d p q i k E s) (m4 d p q i k s (m3 d p q i k E s) 4) p q (K1 p s) i k s g0) ?_⟩;have hk:s<=4:=hk;refine QE (λb0=>?_) (λb0=>?_);refine QG ?_ ?_;rotate_left;refine QE (λb1=>?_) (λb1=>?_);obtain rfl:s=0:=by have:=qdt b1;omega
 iterate 170 refine Qu (by first|exact tv|exact qRr|rfl) ?_
 refine Qg λa0=>?_;refine Qj λg0=>?_;refine⟨1,by show 1<=4;omega,by show 4-1<4-0;omega,λ_ _ r=>r,rfl,rfl,_,Qhy ..,?_⟩
 rotate_left
 refine QE (λb2=>?_) (λb2=>?_);obtain rfl:s=1:=by have:=qdt b2;omega
 iterate 170 refine Qu (by first|exact tv|exact qRr|rfl) ?_
 refine Qg λa1=>?_;refine Qj λg1=>?_;refine⟨2,by show 2<=4;omega,by show 4-2<4-1;omega,λ_ _ r=>r,rfl,rfl,_,QiE ..,?_⟩
 rotate_left
 refine QE (λb3=>?_) (λb3=>?_);obtain rfl:s=2:=by have:=qdt b3;omega
 iterate 170 refine Qu (by first|exact tv|exact qRr|rfl) ?_
 refine Qg λa2=>?_;refine Qj λg2=>?_;refine⟨3,by show 3<=4;omega,by show 4-3<4-2;omega,λ_ _ r=>r,rfl,rfl,_,QVx ..,?_⟩
 rotate_left
 obtain rfl:s=3:=by
  have h0:=qdt b0;have h1:=qdf b1;have h2:=qdf b2;have h3:=qdf b3;omega
 iterate 170 refine Qu (by first|exact tv|exact qRr|rfl) ?_
 refine Qg λa3=>?_;refine Qj λg3=>?_;refine⟨4,by show 4<=4;omega,by show 4-4<4-3;omega,λ_ _ r=>r,rfl,rfl,_,QVO ..,?_⟩
 rotate_left
 obtain rfl:s=4:=by have:=qdf b0;omega
 refine⟨_,⟨rfl,rfl⟩,rfl,rfl,_,QYU ..,?_⟩
 rotate_left
 all_goals first|((with_reducible show _=true);(first|rfl|(simp at b0 ⊢;omega)))|(repeat' first|with_reducible refine QL ?_ ?_|exact tv|exact qRr|exact rfl|refine aI ?_ ?_)
theorem QbR(p:QY)(i k:Nat)(E:ECt)(hE:WfE E)(G:Ctx)(hrd:G.rd=none)(hG:G.n<=8):Qw (mkF prog KQ) G (QIp prog d E (m3 d p (d.ps.get k) i k E 4) p (d.ps.get k) i k) (QU (QH f60 0)):=by
 refine KN (body:=QU (QU (QH f60 0))) (KF JV) hrd (by kernel_rfl) ?_
 refine Jh λhi=>?_;refine Jq (I:=λs=>W8 d (m3 d p (d.ps.get k) i k E s) p (d.ps.get k) i k s) (n0:=8) (KF JV) hG (λs hs=>QgK d p (d.ps.get k) i k s _ (QIY hE s) G hrd hG) (λt ht=>(by decide:8<=104)) ?_ (QWg d p (d.ps.get k) i k E) (s0:=0) (Nat.zero_le _) ?_
 .rintro s e J ⟨_,rfl⟩;exact(by decide:8<=104)
 .rintro e J ⟨rfl,rfl⟩;exact⟨_,qmc,trivial,rfl,rfl⟩
set_option maxHeartbeats 4000000 in
theorem QXK(p:QY)(i:Nat)(E:ECt)(hE:WfE E)(hn:d.ps.n<2^62):JP (λk=>QBe d (m2 d p i E k) p i k) (λk=>k<=d.ps.n) (λk=>d.ps.n-k) (λ_ e J=>e = .exit 2/\J=QGs d (m2 d p i E d.ps.n) i) 8 QLQ [] (mkF prog KQ) (λk=>QIp prog d (m2 d p i E k) (m3 d p (d.ps.get k) i k (m2 d p i E k) 4) p (d.ps.get k) i k) (QU (QH f60 0)):=by
 refine⟨λk g0 hk=>Qf (QVn d (m2 d p i E k) (m3 d p (d.ps.get k) i k (m2 d p i E k) 4) p (d.ps.get k) i k g0) ?_⟩;have hk:k<=d.ps.n:=hk;refine QE (λb0=>?_) (λb0=>?_);have h:k<d.ps.n:=by have:=qdt b0;omega
 have hw:i64.wrap ((k:Int)+1)=((k+1:Nat):Int):=(w64 (by omega) (by omega)).trans (by omega)
 iterate 2 (refine QG ?_ ?_;rotate_left)
 iterate 132 refine Qu (by first|exact tv|exact h|exact qRr|rfl) ?_
 refine Qg λa0=>?_;refine Qj λg0=>?_;refine⟨k+1,h,by show d.ps.n-(k+1)<d.ps.n-k;omega,λ_ _ r=>r,rfl,rfl,_,Qgs ..,?_⟩
 rotate_left
 obtain rfl:k=d.ps.n:=by have:=qdf b0;omega
 refine⟨_,⟨rfl,rfl⟩,rfl,rfl,_,QiX ..,?_⟩
 rotate_left
 all_goals first|((with_reducible show _=true);(first|rfl|(simp at b0 ⊢;omega)))|(repeat' first|with_reducible refine QL ?_ ?_|exact tv|exact qRr|exact hw|exact rfl|refine aI ?_ ?_)
theorem QWB(hn:d.ps.n<2^62)(G:Ctx)(hrd:G.rd=none)(hG:G.n<=8):Qw (mkF prog KQ) G (QIC prog d (m1 d i) (m2 d (d.ps.get i) i (m1 d i) d.ps.n) (d.ps.get i) i) (QH f60 0):=by
 refine KN (body:=QU (QH f60 0)) (KF JV) hrd (by kernel_rfl) ?_
 refine Jh λhi=>?_;refine Jq (I:=λk=>QBe d (m2 d (d.ps.get i) i (m1 d i) k) (d.ps.get i) i k) (n0:=8) (KF JV) hG (λk hk=>QbR d (d.ps.get i) i k _ (QHJ (QJj d i) k) G hrd hG) (λt ht=>(by decide:8<=104)) ?_ (QXK d (d.ps.get i) i (m1 d i) (QJj d i) hn) (s0:=0) (Nat.zero_le _) ?_
 .rintro s e J ⟨_,rfl⟩;exact(by decide:8<=104)
 .rintro e J ⟨rfl,rfl⟩;exact⟨_,qmc,trivial,rfl,rfl⟩
set_option maxHeartbeats 4000000 in
theorem Qcz(hn:d.ps.n<2^62):JP (λi=>QAU d (m1 d i) i) (λi=>i<=d.ps.n) (λi=>d.ps.n-i) (λ_ e J=>e = .exit 0/\J=QHb d (m1 d d.ps.n)) 8 QMV [] (mkF prog KQ) (λi=>QIC prog d (m1 d i) (m2 d (d.ps.get i) i (m1 d i) d.ps.n) (d.ps.get i) i) (QH f60 0):=by
 refine⟨λi g0 hk=>Qf (QZp d (m1 d i) (m2 d (d.ps.get i) i (m1 d i) d.ps.n) (d.ps.get i) i g0) ?_⟩;have hk:i<=d.ps.n:=hk;refine QE (λb0=>?_) (λb0=>?_);have h:i<d.ps.n:=by have:=qdt b0;omega
 have hw:i64.wrap ((i:Int)+1)=((i+1:Nat):Int):=(w64 (by omega) (by omega)).trans (by omega)
 iterate 2 (refine QG ?_ ?_;rotate_left)
 iterate 72 refine Qu (by first|exact tv|exact h|exact qRr|rfl) ?_
 refine Qg λa0=>?_;refine Qj λg0=>?_;refine⟨i+1,h,by show d.ps.n-(i+1)<d.ps.n-i;omega,λ_ _ r=>r,rfl,rfl,_,QgA ..,?_⟩
 rotate_left
 obtain rfl:i=d.ps.n:=by have:=qdf b0;omega
 refine⟨_,⟨rfl,rfl⟩,rfl,rfl,_,QYv ..,?_⟩
 rotate_left
 all_goals first|((with_reducible show _=true);(first|rfl|(simp at b0 ⊢;omega)))|(repeat' first|with_reducible refine QL ?_ ?_|exact tv|exact qRr|exact hw|exact rfl|refine aI ?_ ?_)
end Go.Proofs.YtekbmehgcofnkaaGreat
namespace Go.SX
theorem Qcg{i n:Nat}(h:i<n):Nat.blt i n=true:=by rw[Nat.blt_eq];exact h
theorem QTi{i n:Nat}(h:¬ i<n):Nat.blt i n=false:=by
 cases hb:Nat.blt i n with
 | false=>rfl
 | true=>rw[Nat.blt_eq]at hb;exact absurd hb h
end Go.SX
namespace Go.Proofs.YtekbmehgcofnkaaGreat
open Go.SX Go.SX.Told
def QJu(id c:Nat)(d:Puz)(E:ECt):List (Nat×Blk):=[(id,.cells 0 152 (KS d++[.map c,.nils])),(c,.mp E.1 E.2)]
abbrev nbH(P:Program)(d:Puz)(E:ECt):Hnd:={ hnd (mkF P KQ) 1 with loop:=λ_=>KC 8 [] (QAU d ([],0) (0:Nat)) [(True,.exit 0,QHb d E)] }
variable (d:Puz)(n:Nat)(E:ECt)(a:Int)(k:Nat)
theorem QWh(hn:d.ps.n<2^62)(G:Ctx)(hrd:G.rd=none)(hG:G.n=8):Qw (mkF prog KQ) G (nbH prog d (m1 d d.ps.n)) (Qk f60):=by
 refine KN (body:=QH f60 0) (KF JV) hrd (by kernel_rfl) ?_
 refine Jq (I:=λi=>QAU d (m1 d i) i) (n0:=8) (KF JV) (by omega) (λi hs=>QWB d i hn G hrd (by omega)) (λs hs=>(by decide:8<=104)) ?_ (Qcz d hn) (s0:=0) (Nat.zero_le _) ?_
 .rintro s e J ⟨_,rfl⟩;exact(by decide:8<=104)
 .rintro e J ⟨rfl,rfl⟩;exact⟨_,qmc,trivial,rfl,rfl⟩
def nbU:UC:=⟨8,⟨1,[(0,.agg (KS d))],Qi.blk 0 d.ps,8⟩,λm=>.ptr m 0 0,λm=>QJu m (m+1) d E⟩
noncomputable abbrev QSw(d:Puz):List (Nat×Blk):=
  [(48,.cells 0 152 (List.append (waf d) ([.map 32,.nils]))),(0,.frz (wae) d.ps.n λi=>QA.enc (d.ps.get i)),(32,.mp E.1 E.2)]
theorem QjU :VS (mkF prog KQ) (nbH prog d E) f60 (nbU d E) = .ak (([0=0,0=0,0=0,0=0,0=0]++wbF d++[(0:Int)=0])++waa d++[cO=cO]++waa d++([cO=cO,([]:List MapEntry)=[],0=0]++wad d)) (.asm (True) (.all (λ(g0:Nat->Value)=>.leaf (.ptr 48 0 0) ((QSw E d))))):=by kernel_rfl
theorem Qc2 :QF 8 [(.ptr 48 0 0)] ((QSw E d)) (Kf (nbU d E))=(some ([0=0,0=0]++waa d++[cO=cO,E.1=E.1,E.2=E.2])):=by kernel_rfl
theorem QIQ(nid:Nat):Jw 8 8 nid (8+k)=nid+k:=by
 have:Nat.blt (8+k) 8=false:=QTi (by omega)
 simp only[Jw,this];omega
theorem Qiv{i:Nat}(h:i<8)(nid:Nat):Jw 8 8 nid i=i:=by
 simp only[Jw,Qcg h]
theorem Qd4:(nbU d E).Ok:=by
 refine⟨(by decide:8<=8),rfl,rfl,?_,rfl,λnid h=>?_,λnid h=>?_⟩
 .intro q hq;simp only[UC.po,nbU,QJu,List.mem_cons,List.not_mem_nil,or_false]at hq;rcases hq with rfl|rfl
  .exact⟨rfl,rfl,rfl,λh=>absurd (show 8<8 from h) (by decide)⟩
  .exact⟨rfl,rfl,rfl,λh=>absurd (show 9<8 from h) (by decide)⟩
 .have e0:=QIQ 0 nid;simp only[UC.va,nbU,AV.mapId,Nat.add_zero]at e0 ⊢;rw[e0]
 .have e0:=QIQ 0 nid;have e1:=QIQ 1 nid;have l0:=Qiv (i:=0) (by decide) nid
  simp only[UC.po,nbU,QJu,KS,Qi.val,List.cons_append,List.nil_append,List.map_cons,List.map_nil,Blk.mapId,AV.mapId,AV.mapIdL,Nat.add_zero,Nat.zero_add]at e0 e1 l0 ⊢;rw[e0,e1,l0]
theorem Zn(hn:d.ps.n<2^62):QR prog 60 (uFC (nbU d (m1 d d.ps.n))):=by
 refine K7 (E:=mkF prog KQ) (KF JV) func60 (by kernel_rfl) (by kernel_rfl) (Qd4 ..) (QWh d hn) ⟨?_⟩
 generalize m1 d d.ps.n=E;refine Qf (QjU d E) ?_
 iterate 35 refine Qu (by first|exact tv|exact qRr|rfl) ?_
 refine Qg λa0=>?_;refine Qj λg0=>?_;refine⟨rfl,rfl,_,Qc2 d E,?_⟩
 rotate_left
 all_goals (repeat' first|exact tv|exact qRr|refine aI ?_ ?_)
structure Lay where
 piece:Int
 turn:Int
instance : QA Lay where
  ks := [.int .i64,.int .i64]
  enc p j := match j with
    | 0 => p.piece
    | _ => p.turn
  dec f := ⟨f 0,f 1⟩
  ok _ := rfl
instance : Enc Lay where
  enc x := .agg [.int false .i64 x.piece,.int false .i64 x.turn]
  dec | .agg [.int _ .i64 a0,.int _ .i64 a1] => some ⟨a0,a1⟩ | _ => none
  ok v x h := by
    split at h <;> (try (cases h; done))
    simp only[qsI]at h; subst h; exact⟨λ_=>rfl,rfl⟩
structure Pt where
 cell:Int
 lay:Lay
instance : QA Pt where
  ks := [.int .i64,.int .i64,.int .i64]
  enc p j := match j with
    | 0 => p.cell
    | 1 => p.lay.piece
    | _ => p.lay.turn
  dec f := ⟨f 0,⟨f 1,f 2⟩⟩
  ok _ := rfl
def QAa(id:Nat)(L:List Lay):Nat×Blk:=(id,.frz kB L.length λi=>QA.enc (L.getD i ⟨0,0⟩))
def brC:List AV:=KS d++[.map 201,.slz 210 0 n (.of 0)]
def brR:List (Nat×Blk):=(200,.cellsR 0 152 (brC d n))::Qi.blk 0 d.ps
def Ko(a b:Int):Bool:=(K1 (d.ps.get a.toNat) b.toNat).kind==0
def flU(a b:Int):UC:=⟨0,⟨2,[(0,.ptr 200 0 0),(1,.agg [.int false .i64 a,.int false .i64 b])],brR d n,216⟩,λ_=>.bool false (Ko d a b),λ_=>[]⟩
def tnV:Int:=cond (d.turn&&decide (0<a)) 4 1
def tnU:UC:=⟨0,⟨2,[(0,.ptr 200 0 0),(1,.int false .i64 a)],brR d n,216⟩,λ_=>.int false .i64 (tnV d a),λ_=>[]⟩
theorem Qi5(a b:Int):VS (mkF prog KQ) (hnd (mkF prog KQ) 1) f137 (flU d n a b)=QC.need (decide ((0:Int)<=a/\a<(↑d.ps.n:Int))&&decide (d.ps.n<=d.ps.n)) (QC.need (decide ((0:Int)<=b/\b<(4:Int))) (QC.br (decide (b=(0:Int))) (QC.need (decide (a.toNat<d.ps.n)) (QC.leaf (AV.bool false ((d.ps.get a.toNat).up.kind==(0:Int))) ([]))) (QC.br (decide (b=(1:Int))) (QC.need (decide (a.toNat<d.ps.n)) (QC.leaf (AV.bool false ((d.ps.get a.toNat).right.kind==(0:Int))) ([]))) (QC.br (decide (b=(2:Int))) (QC.need (decide (a.toNat<d.ps.n)) (QC.leaf (AV.bool false ((d.ps.get a.toNat).down.kind==(0:Int))) ([]))) (QC.need (decide (a.toNat<d.ps.n)) (QC.leaf (AV.bool false ((d.ps.get a.toNat).left.kind==(0:Int))) ([]))))))):=by kernel_rfl
theorem QiL(a b:Int)(c v:Bool):QF 216 [.bool c v] [] (Kf (flU d n a b))=( some [v=Ko d a b]):=by kernel_rfl
theorem QhQ:VS (mkF prog KQ) (hnd (mkF prog KQ) 1) f52 (tnU d n a)=QC.br (d.turn) (QC.br (decide (a>(0:Int))) (QC.leaf (vj (4:Int)) ([])) (QC.leaf (vj (1:Int)) ([]))) (QC.leaf (vj (1:Int)) ([])):=by kernel_rfl
theorem Qi1(a v:Int)(c:Bool):QF 216 [.int c .i64 v] [] (Kf (tnU d n a))=( some [v=tnV d a]):=by kernel_rfl
theorem QOI(a b:Int)(h1:0<=a)(h2:a<d.ps.n)(h3:0<=b)(h4:b<4):QR prog 137 (uFC (flU d n a b)):=by
 refine K7 (E:=mkF prog KQ) (KF JV) (c:=Qk f137) func137 (by kernel_rfl) (by kernel_rfl) (QPC (Nat.zero_le _) rfl rfl λ_=>rfl) (λG h1 _=>Qv (KF JV) 1 G _ h1) ⟨?_⟩
 refine Qf (Qi5 d n a b) ?_;have fin:∀(v:Bool),v=Ko d a b->(QC.leaf (.bool false v) []).den (vB (flU d n a b)):=λv h=>⟨rfl,rfl,_,QiL d n a b false v,⟨h,trivial⟩⟩
 iterate 2 (refine QG ?_ ?_;rotate_left)
 refine QE (λb0=>?_) (λb0=>?_);refine QG ?_ ?_;rotate_left
 .obtain rfl:b=0:=qdt b0;exact fin _ rfl
 refine QE (λb1=>?_) (λb1=>?_);refine QG ?_ ?_;rotate_left
 .obtain rfl:b=1:=qdt b1;exact fin _ rfl
 refine QE (λb2=>?_) (λb2=>?_);refine QG ?_ ?_;rotate_left
 .obtain rfl:b=2:=qdt b2;exact fin _ rfl
 refine QG ?_ ?_;rotate_left
 .obtain rfl:b=3:=by
   have h0:=qdf b0;have h1:=qdf b1;have h2:=qdf b2;omega
  exact fin _ rfl
 all_goals simp;omega
theorem X6:QR prog 52 (uFC (tnU d n a)):=by
 refine K7 (E:=mkF prog KQ) (KF JV) (c:=Qk f52) func52 (by kernel_rfl) (by kernel_rfl) (QPC (Nat.zero_le _) rfl rfl λ_=>rfl) (λG h1 _=>Qv (KF JV) 1 G _ h1) ⟨?_⟩
 refine Qf (QhQ d n a) ?_;have fin:∀(v:Int),v=tnV d a->(QC.leaf (.int true .i64 v) []).den (vB (tnU d n a)):=λv h=>⟨rfl,rfl,_,Qi1 d n a v true,⟨h,trivial⟩⟩;refine QE (λb0=>?_) (λb0=>?_);refine QE ?_ ?_<;>intro b1
 .refine fin _ ?_;have:decide (0<a)=true:=b1;rw[tnV,b0,this];rfl
 .refine fin _ ?_;have:decide (0<a)=false:=b1;rw[tnV,b0,this];rfl
 .refine fin _ ?_;rw[tnV,b0];rfl
def Wk(K:Rw Pt)(c:Int)(x:Lay)(k:Nat):Bool:=((K.get k).cell==c && !((K.get k).lay.piece==x.piece&&(K.get k).lay.turn==x.turn))||((K.get k).lay.piece==x.piece && !((K.get k).cell==c))
def Qx(K:Rw Pt)(c:Int)(x:Lay):Bool:=(QP (Wk K c x) K.n 0).isNone
def alJ(K:Rw Pt)(c:Int)(x:Lay)(k:Nat):JSt:=⟨40,[(1,.int false .i64 c),(5,.ptr 8 0 0),(9,.slz 0 0 K.n (.of 0)),(10,.int false .i64 K.n),(11,.int false .i64 k)],[(8,.cells 0 49 (Enc.enc x).cells)]++Qi.blk 0 K,48⟩
def QKL:JSt:=⟨40,[(6,.bool false false)],[],48⟩
def QIe:JSt:=⟨40,[],[],48⟩
def QRi:Ex->List Nat
 | .normal=>[1,5,9,10,11]
 | .exit _=>[]
 | .ret=>[6]
theorem QZL(K:Rw Pt)(c:Int)(x:Lay)(k:Nat)(g:Nat->Value):exec (mkS prog KQ) (hnd (mkS prog KQ) 1) (QH f104 0) (JSt.inst (alJ K c x k) g) (Q9 [] QRi) = .br (decide ((k:Int)<(K.n:Int))) (.need (decide ((0:Int)<=(k:Int)/\(k:Int)<(K.n:Int))&&decide (K.n<=K.n)) (.need (decide (k<K.n)) (.need (!(K.get k).cell==c||(K.get k).cell==c) (.need (!(K.get k).cell==c||(K.get k).cell==c&&(K.get k).cell==c) (.need (!(K.get k).cell==c||(K.get k).cell==c) (.bnd ((K.get k).cell==c&&!((K.get k).lay.piece==x.piece&&((K.get k).lay.turn==x.turn&&true))) (λ(x0:Bool)=>.need (!!x0||!x0) (.need (!!x0||!x0) (.need (!!x0||!x0) (.need (!!x0||!x0&&!x0) (.need (!!x0||!x0) (.need (!(!x0&&(K.get k).lay.piece==x.piece)||!x0&&(K.get k).lay.piece==x.piece) (.need (!(!x0&&(K.get k).lay.piece==x.piece)||!x0&&(K.get k).lay.piece==x.piece&&(!x0&&(K.get k).lay.piece==x.piece)) (.need (!!x0||!x0&&(!(K.get k).lay.piece==x.piece||!x0&&(K.get k).lay.piece==x.piece)) (.bnd ((K.get k).lay.piece==x.piece&&(K.get k).cell != c) (λ(x1:Bool)=>.need (x0||!x0) (.bnd (x0||x1) (λ(x2:Bool)=>.br (x2) (.leaf (.tup [.nili,.ptr 40 0 0,.bool true false]) ([])) (.leaf (.tup [.nilp,.ptr 40 0 0,vi c,.ptr 8 0 0,.slz 0 0 K.n cO,vi (K.n:Int),vi (i64.wrap ((k:Int)+1))]) ([(8,.cells 0 49 [vi x.piece,vi x.turn]),(0,.frz [.int .i64,.int .i64,.int .i64] K.n λi=>QA.enc (K.get i))])))))))))))))))))))) (.leaf (.tup [.ptr 0 0 0,.ptr 40 0 0]) ([])):=by kernel_rfl
theorem Qay :QF 8 [AV.bool true false] ([]) QKL=( some [false=false]):=by kernel_rfl
theorem QXm(K:Rw Pt)(c:Int)(x:Lay)(k k':Nat):QF 8 [vi c,AV.ptr (8:Nat) (0:Nat) (0:Nat),AV.slz (0:Nat) (0:Nat) K.n cO,vi (↑K.n:Int),vi (i64.wrap ((↑k:Int)+(1:Int)))] ([((8:Nat),Blk.cells (0:Nat) (49:Nat) [vi x.piece,vi x.turn]),((0:Nat),Blk.frz [CK.int i64,CK.int i64,CK.int i64] K.n λi=>QA.enc (K.get i))]) (alJ K c x k')=( some [c=c,0=0,0=0,0=0,K.n=K.n,cO=cO,(↑K.n:Int)=(↑K.n:Int),i64.wrap ((↑k:Int)+(1:Int))=(↑k':Int),x.piece=x.piece,x.turn=x.turn,K.n<=K.n,QB (3:Nat) K.n (λi=>QA.enc (K.get i)) λi=>QA.enc (K.get i)]):=by kernel_rfl
theorem QcS :QF 8 [] ([]) QIe=( some []):=by kernel_rfl
def alR(K:Rw Pt)(c:Int)(x:Lay)(k:Nat)(e:Ex)(J:JSt):Prop:=(e = .ret/\(QP (Wk K c x) (K.n-k) k).isNone=false/\J=QKL)∨(e = .exit 0/\(QP (Wk K c x) (K.n-k) k).isNone=true/\J=QIe)
theorem QZB(K:Rw Pt)(c:Int)(x:Lay)(hn:K.n<=1000):JP (alJ K c x) (λk=>k<=K.n) (λk=>K.n-k) (alR K c x) 8 QRi [] (mkS prog KQ) (λ_=>hnd (mkS prog KQ) 1) (QH f104 0):=by
 refine⟨λk g0 hk=>Qf (QZL K c x k g0) ?_⟩;have hk:k<=K.n:=hk;refine QE (λb0=>?_) (λb0=>?_);have h:k<K.n:=by have:=qdt b0;omega
 have hf:=JK (p:=Wk K c x) h
 iterate 5 (refine QG ?_ ?_;rotate_left)
 refine QI1 λz0 y0=>?_
 iterate 8 (refine QG ?_ ?_;rotate_left)
 refine QI1 λz1 y1=>?_;refine QG ?_ ?_;rotate_left;refine QI1 λz2 y2=>?_;refine QE ?_ ?_<;>intro b1
 .have hb:Wk K c x k=true:=by rw[<-b1,y2,y1,y0,Wk];simp[bne]
  exact⟨_,.inl ⟨rfl,by rw[hf.1 hb];rfl,rfl⟩,rfl,rfl,_,Qay,⟨rfl,trivial⟩⟩
 have hb:Wk K c x k=false:=by rw[<-b1,y2,y1,y0,Wk];simp[bne]
 refine⟨k+1,h,by show K.n-(k+1)<K.n-k;omega,λe J h=>by unfold alR at h ⊢;rw[hf.2 hb];exact h,rfl,rfl,_,QXm K c x k (k+1),?_⟩
 rotate_left
 .have h:K.n<=k:=by have:=qdf b0;omega
  exact⟨_,.inr ⟨rfl,by rw[show K.n-k=0 by omega];rfl,rfl⟩,rfl,rfl,_,QcS,trivial⟩
 all_goals first|((with_reducible show _=true);(first|rfl|(simp at b0 ⊢;omega)|grind))|(repeat' first|with_reducible refine QL ?_ ?_|exact tv|exact qRr|exact Ja h hn|refine aI ?_ ?_)
def alX(K:Rw Pt)(c:Int)(x:Lay):List (Prop×Ex×JSt):=[(Qx K c x=false,.ret,QKL),(Qx K c x=true,.exit 0,QIe)]
abbrev alH(P:Program)(K:Rw Pt)(c:Int)(x:Lay):Hnd:={ hnd (mkS P KQ) 1 with loop:=λ_=>JT (K.n<=1000) (KC 8 [] (alJ K c x (0:Nat)) (alX K c x)) }
theorem Qeh(K:Rw Pt)(c:Int)(x:Lay)(G:Ctx)(hrd:G.rd=none)(hG:G.n=8):Qw (mkS prog KQ) G (alH prog K c x) (Qk f104):=by
 refine KN (body:=QH f104 0) (QCo JV) hrd (by kernel_rfl) ?_
 refine Jh λhl=>?_;refine Jq (n0:=8) (QCo JV) (by omega) (λs hs=>Qv (QCo JV) 1 G _ hrd) (λs hs=>(by decide:8<=48)) ?_ (QZB K c x hl) (s0:=0) (Nat.zero_le _) ?_
 .rintro s e J (⟨_,_,rfl⟩|⟨_,_,rfl⟩)<;>exact(by decide:8<=48)
 .rintro e J (⟨rfl,h,rfl⟩|⟨rfl,h,rfl⟩)
  .exact⟨_,qmc,h,rfl,rfl⟩
  .exact⟨_,List.mem_cons_of_mem _ qmc,h,rfl,rfl⟩
def QBV:WF ((Rw Pt)×Int×Lay×Unit):=λ|(K,(c,(x,_)))=>(decide (K.n<=1000),.bool false (Qx K c x),[])
def QLr:FC:=wFC QBV
theorem QVQ(K:(Rw Pt))(c:Int)(x:Lay):Kd (mkS prog KQ) (alH prog K c x) f104 (Qb.vals 0 ((K,c,x,()):(Rw Pt)×Int×Lay×Unit)) (Qb.blks 0 ((K,c,x,()):(Rw Pt)×Int×Lay×Unit)) 8=QC.ask (K.n<=(1000:Nat)) (QC.ask (c=c) (QC.ask (0=0) (QC.ask (0=0) (QC.ask (0=0) (QC.ask (K.n=K.n) (QC.ask (cO=cO) (QC.ask ((↑K.n:Int)=(↑K.n:Int)) (QC.ask ((0:Int)=(0:Int)) (QC.ask (x.piece=x.piece) (QC.ask (x.turn=x.turn) (QC.ask (K.n<=K.n) (QC.ask (QB (3:Nat) K.n (λi=>QA.enc (K.get i)) λi=>QA.enc (K.get i)) (QC.both (QC.asm (Qx K c x=false) (QC.all (λ(g0:Nat->Value)=>QC.leaf (AV.bool false false) ([])))) (QC.asm (Qx K c x=true) (QC.all (λ(g1:Nat->Value)=>QC.leaf (AV.bool true true) ([]))))))))))))))))):=by kernel_rfl
theorem Qet:JA (mkS prog KQ) (Qk f104) 8 QBV (λx_=>(alH prog x_.1 x_.2.1 x_.2.2.1)):=by
 refine⟨?_⟩;rintro⟨K,⟨c,⟨x,⟨⟩⟩⟩⟩ hp G h1 h2;exact Qeh K c x G h1 h2
theorem QjE:JB (mkS prog KQ) f104 8 QBV (λx_=>(alH prog x_.1 x_.2.1 x_.2.2.1)):=by
 refine⟨?_⟩;rintro⟨K,⟨c,⟨x,⟨⟩⟩⟩⟩ hp;refine⟨⟨rfl,by simp[QBV],rfl⟩,⟨?_⟩⟩
 rw[QVQ K c x];simp only[QBV]at hp;have hp:=qdt hp
 iterate 13 refine Qu (by first|exact tv|exact hp|exact qRr) ?_
 refine Kh ?_ ?_;refine Qg λa0=>?_;refine Qj λg0=>?_
 .exact KE a0.symm rfl
 refine Qg λa1=>?_;refine Qj λg1=>?_
 .exact KE a1.symm rfl
theorem QYG:QR prog 104 QLr:=
 JL (QCo JV) func104 (by kernel_rfl) (by kernel_rfl) (by decide) Qet QjE
def qV:Tab:=Qa KQ 104 QLr
theorem QGh:Qc qV:=JV.add QYG
def onS(x:Lay)(s:Int):Int:=(s+4-x.turn).tmod 4
def QAG:WF (Lay×Int×Unit):=λ|(x,(s,_))=>(decide ((0<=x.turn/\x.turn<=3)/\0<=s/\s<=3),.agg [vi x.piece,vi (onS x s)],[])
def QR9:FC:=wFC QAG
theorem QgF(x:Lay)(s:Int):Kd (mkE prog qV) (hnd (mkE prog qV) 1) f134 (Qb.vals 0 ((x,s,()):Lay×Int×Unit)) (Qb.blks 0 ((x,s,()):Lay×Int×Unit)) 8=QC.leaf (AV.agg [vi x.piece,vi ((i64.wrap (i64.wrap (s+(4:Int))-x.turn)).tmod (4:Int))]) ([]):=by kernel_rfl
theorem QiG:JA (mkE prog qV) (Qk f134) 8 QAG (λx_=>(hnd (mkE prog qV) 1)):=by
 refine⟨?_⟩;rintro⟨x,⟨s,⟨⟩⟩⟩ hp G h1 h2;exact Qv (QO QGh) 1 G _ h1
theorem QaN:JB (mkE prog qV) f134 8 QAG (λx_=>(hnd (mkE prog qV) 1)):=by
 refine⟨?_⟩;rintro⟨x,⟨s,⟨⟩⟩⟩ hp;refine⟨⟨rfl,by simp[QAG],rfl⟩,⟨?_⟩⟩
 rw[QgF x s];simp only[QAG]at hp;have hp:=qdt hp
 .refine KE ?_ rfl
  have:(i64.wrap (i64.wrap (s+4)-x.turn)).tmod 4=onS x s:=by
   rw[w64 (n:=s+4) (by omega) (by omega),w64 (by omega) (by omega)];rfl
  rw[this];exact⟨⟨rfl,rfl⟩,⟨rfl,rfl⟩,trivial⟩
theorem Qba:QR prog 134 QR9:=
 JL (QO QGh) func134 (by kernel_rfl) (by kernel_rfl) (by decide) QiG QaN
def QT:Tab:=Qa qV 134 QR9
theorem Qh:Qc QT:=QGh.add Qba
def Qq(c:Nat):Int:=(c:Int).tdiv d.wide
def KB(c:Nat):Int:=(c:Int).tmod d.wide
def QW(c:Nat):Nat->Bool
 | 0=>Qq d c==0
 | 1=>KB d c==d.wide-1
 | 2=>Qq d c==d.high-1
 | _=>KB d c==0
def Ky(c:Nat)(x:Lay)(s:Nat):Bool:=QW d c s && !Ko d x.piece (onS x s)
def QHs(L:List Lay):List (Nat×Blk):=(200,.cellsR 0 152 (brC d L.length))::QAa 210 L::(201,.mp E.1 E.2)::Qi.blk 0 d.ps
def myJ(L:List Lay)(x:Lay)(s:Nat):JSt:=⟨113,[(0,.ptr 200 0 0),(3,.ptr 216 0 0),(5,.int false .i64 L.length),(6,.int false .i64 (Qq d L.length)),(7,.int false .i64 (KB d L.length)),(49,.agg [.bool false (QW d L.length 0),.bool false (QW d L.length 1),.bool false (QW d L.length 2),.bool false (QW d L.length 3)]),(50,.int false .i64 s)],(216,.cells 0 49 (Enc.enc x).cells)::QHs d E L,224⟩
def HI:JSt:=⟨113,[(4,.bool false false)],[(201,.mp E.1 E.2)],224⟩
def QF4(L:List Lay)(x:Lay):JSt:=⟨113,[(0,.ptr 200 0 0),(3,.ptr 216 0 0),(5,.int false .i64 L.length),(6,.int false .i64 (Qq d L.length)),(7,.int false .i64 (KB d L.length))],(216,.cells 0 49 (Enc.enc x).cells)::QHs d E L,224⟩
def QS3:Ex->List Nat
 | .normal=>[0,3,5,6,7,49,50]
 | .exit _=>[0,3,5,6,7]
 | .ret=>[4]
def zA(pb:List Prop->Bool)(U:UC):Tab:=Qa QT 137 (KM pb U)
abbrev QFk(L:List Lay)(d:Puz)(s:Nat)(x:Lay):List Prop:=
  ([0=0,0=0,x.piece=x.piece,onS x (s:Int)=onS x (s:Int)]++waa d++([cO=cO,0=0,L.length=L.length,cO
  = cO]++wad d))
noncomputable abbrev qB(L:List Lay)(d:Puz):List AV:=
  [.bool false (QW d L.length 0),.bool false (QW d L.length 1),.bool false (QW d L.length 2),.bool false (QW d L.length 3)]
noncomputable abbrev waq(L:List Lay)(d:Puz):List AV:=[vi (L.length:Int),vi (Qq d L.length),vi (KB d L.length)]
noncomputable abbrev QR3(L:List Lay)(d:Puz):List AV:=
  (.nilp::.ptr 113 0 0::.ptr 200 0 0::.ptr 216 0 0::List.append (waq L d) ([.agg (qB L d),.int true
  .i64 1]))
noncomputable abbrev VI(L:List Lay)(d:Puz)(x:Lay):List (Nat×Blk):=
  [(201,.mp E.1 E.2),(200,.cellsR 0 152 (vi d.pK.length::vi d.pK.aK::vi d.pK.oK::vi d.pK.dK.lo::.int false .i64
  d.pK.dK.hi::vi d.wide::vi d.high::List.append (wby d) ([.map 201,.slz 210 0 L.length cO]))),(216,.cells 0 49 [.int
  false .i64 x.piece,vi x.turn]),(0,.frz (wae)
  d.ps.n λi=>QA.enc (d.ps.get i)),(210,.frz kB L.length λi=>QA.enc (L.getD i (Lay.mk (0:Int) (0:Int))))]
noncomputable abbrev QU0(L:List Lay)(d:Puz):List AV:=
  (.nilp::.ptr 113 0 0::.ptr 200 0 0::.ptr 216 0 0::List.append (waq L d) ([.agg (qB L d),.int true
  .i64 2]))
noncomputable abbrev QLF(L:List Lay)(d:Puz):List AV:=
  (.nilp::.ptr 113 0 0::.ptr 200 0 0::.ptr 216 0 0::List.append (waq L d) ([.agg (qB L d),.int true
  .i64 3]))
noncomputable abbrev QNw(L:List Lay)(d:Puz):List AV:=
  (.nilp::.ptr 113 0 0::.ptr 200 0 0::.ptr 216 0 0::List.append (waq L d) ([.agg (qB L d),.int true
  .i64 4]))
noncomputable abbrev wbu:List AV:=[.nili,.ptr 113 0 0,.bool true false]
theorem QfM(pb:List Prop->Bool)(d:Puz)(E:ECt)(L:List Lay)(x:Lay)(s:Nat)(g:Nat->Value):exec (mkF prog (zA pb (flU d L.length x.piece (onS x s)))) (hnd (mkF prog (zA pb (flU d L.length x.piece (onS x s)))) 1) (QH f105 0) (JSt.inst (myJ d E L x s) g) (Q9 [201] QS3) = .br (decide ((s:Int)<4)) (.need (decide ((0:Int)<=(s:Int)/\(s:Int)<4)) (.br (decide ((s:Int)=0)) (.br (QW d L.length 0) (.need (true&&(true&&true)&&decide (((0:Int)<=x.turn/\x.turn<=3)/\(0:Int)<=(s:Int)/\(s:Int)<=3)) (.need (pb ((QFk L d s x))) (.br (!Ko d x.piece (onS x (s:Int))) (.leaf (.tup (wbu)) ([(201,.mp E.1 E.2)])) (.leaf (.tup (QR3 L d)) ((VI E L d x)))))) (.leaf (.tup (QR3 L d)) ((VI E L d x)))) (.br (decide ((s:Int)=1)) (.br (QW d L.length 1) (.need (true&&(true&&true)&&decide (((0:Int)<=x.turn/\x.turn<=3)/\(0:Int)<=(s:Int)/\(s:Int)<=3)) (.need (pb ((QFk L d s x))) (.br (!Ko d x.piece (onS x (s:Int))) (.leaf (.tup (wbu)) ([(201,.mp E.1 E.2)])) (.leaf (.tup (QU0 L d)) ((VI E L d x)))))) (.leaf (.tup (QU0 L d)) ((VI E L d x)))) (.br (decide ((s:Int)=2)) (.br (QW d L.length 2) (.need (true&&(true&&true)&&decide (((0:Int)<=x.turn/\x.turn<=3)/\(0:Int)<=(s:Int)/\(s:Int)<=3)) (.need (pb ((QFk L d s x))) (.br (!Ko d x.piece (onS x (s:Int))) (.leaf (.tup (wbu)) ([(201,.mp E.1 E.2)])) (.leaf (.tup (QLF L d)) ((VI E L d x)))))) (.leaf (.tup (QLF L d)) ((VI E L d x)))) (.br (QW d L.length 3) (.need (true&&(true&&true)&&decide (((0:Int)<=x.turn/\x.turn<=3)/\(0:Int)<=(s:Int)/\(s:Int)<=3)) (.need (pb ((QFk L d s x))) (.br (!Ko d x.piece (onS x (s:Int))) (.leaf (.tup (wbu)) ([(201,.mp E.1 E.2)])) (.leaf (.tup (QNw L d)) ((VI E L d x)))))) (.leaf (.tup (QNw L d)) ((VI E L d x)))))))) (.leaf (.tup (.ptr 0 0 0::.ptr 113 0 0::.ptr 200 0 0::.ptr 216 0 0::waq L d)) ((VI E L d x))):=by kernel_rfl
theorem Qek:QF 216 [AV.bool true false] ([((201:Nat),Blk.mp E.1 E.2)]) (HI E)=( some [false=false,E.1=E.1,E.2=E.2]):=by kernel_rfl
noncomputable abbrev QRM(L:List Lay)(d:Puz):List AV:=
  (.ptr 200 0 0::.ptr 216 0 0::List.append (waq L d) ([.agg (qB L d),vj 1]))
abbrev waj(E:ECt)(L:List Lay):List Prop:=[L.length=L.length,cO=cO,L.length<=L.length,QB 2 L.length (λi=>QA.enc
  (L.getD i (Lay.mk (0:Int) (0:Int)))) λi=>QA.enc (L.getD i (Lay.mk (0:Int) (0:Int))),E.1=E.1,E.2=E.2]
abbrev wbg(L:List Lay)(d:Puz):List Prop:=[(L.length:Int)=(L.length:Int),Qq d L.length=Qq d L.length,KB d L.length=KB d L.length]
abbrev QL2(L:List Lay)(d:Puz)(s':Nat)(x:Lay):List Prop:=
  (([0=0,0=0,0=0,0=0]++wbg L d++[QW d L.length 0=QW d L.length 0,QW d
  L.length 1=QW d L.length 1,QW d L.length 2=QW d L.length 2,QW d L.length 3=QW d L.length 3,(1:Int)=(s':Int),x.piece=x.piece,x.turn=x.turn])++waa d++(([cO=cO,0=0]++waj E L)++wad d))
theorem QZm(L:List Lay)(x:Lay)(s':Nat):QF 216 (QRM L d) ((VI E L d x)) (myJ d E L x s')=(some (QL2 E L d s' x)):=by kernel_rfl
theorem Qh5(L:List Lay)(x:Lay)(s':Nat):QF 216 (QRM L d) ((VI E L d x)) (myJ d E L x s')=(some (QL2 E L d s' x)):=by kernel_rfl
theorem Qdg:QF 216 [AV.bool true false] ([((201:Nat),Blk.mp E.1 E.2)]) (HI E)=( some [false=false,E.1=E.1,E.2=E.2]):=by kernel_rfl
noncomputable abbrev QO9(L:List Lay)(d:Puz):List AV:=
  (.ptr 200 0 0::.ptr 216 0 0::List.append (waq L d) ([.agg (qB L d),vj 2]))
abbrev wal(L:List Lay)(d:Puz):List Prop:=(wbg L d++[QW d L.length 0=QW d L.length 0,QW d
  L.length 1=QW d L.length 1,QW d L.length 2=QW d L.length 2,QW d L.length 3=QW d L.length 3])
abbrev QM3(L:List Lay)(d:Puz)(s':Nat)(x:Lay):List Prop:=
  (([0=0,0=0,0=0,0=0]++wal L d++[(2:Int)=(s':Int),x.piece=x.piece,x.turn=x.turn])++waa d++(([cO=cO,0=0]++waj E L)++wad d))
theorem QWj(L:List Lay)(x:Lay)(s':Nat):QF 216 (QO9 L d) ((VI E L d x)) (myJ d E L x s')=(some (QM3 E L d s' x)):=by kernel_rfl
theorem QXs(L:List Lay)(x:Lay)(s':Nat):QF 216 (QO9 L d) ((VI E L d x)) (myJ d E L x s')=(some (QM3 E L d s' x)):=by kernel_rfl
theorem Qfn:QF 216 [AV.bool true false] ([((201:Nat),Blk.mp E.1 E.2)]) (HI E)=( some [false=false,E.1=E.1,E.2=E.2]):=by kernel_rfl
noncomputable abbrev QQO(L:List Lay)(d:Puz):List AV:=
  (.ptr 200 0 0::.ptr 216 0 0::List.append (waq L d) ([.agg (qB L d),vj 3]))
abbrev QN0(L:List Lay)(d:Puz)(s':Nat)(x:Lay):List Prop:=
  (([0=0,0=0,0=0,0=0]++wal L d++[(3:Int)=(s':Int),x.piece=x.piece,x.turn=x.turn])++waa d++(([cO=cO,0=0]++waj E L)++wad d))
theorem QYC(L:List Lay)(x:Lay)(s':Nat):QF 216 (QQO L d) ((VI E L d x)) (myJ d E L x s')=(some (QN0 E L d s' x)):=by kernel_rfl
theorem Qdq(L:List Lay)(x:Lay)(s':Nat):QF 216 (QQO L d) ((VI E L d x)) (myJ d E L x s')=(some (QN0 E L d s' x)):=by kernel_rfl
theorem QbI:QF 216 [AV.bool true false] ([((201:Nat),Blk.mp E.1 E.2)]) (HI E)=( some [false=false,E.1=E.1,E.2=E.2]):=by kernel_rfl
noncomputable abbrev QTU(L:List Lay)(d:Puz):List AV:=
  (.ptr 200 0 0::.ptr 216 0 0::List.append (waq L d) ([.agg (qB L d),vj 4]))
abbrev QQX(L:List Lay)(d:Puz)(s':Nat)(x:Lay):List Prop:=
  (([0=0,0=0,0=0,0=0]++wal L d++[(4:Int)=(s':Int),x.piece=x.piece,x.turn=x.turn])++waa d++(([cO=cO,0=0]++waj E L)++wad d))
theorem QYO(L:List Lay)(x:Lay)(s':Nat):QF 216 (QTU L d) ((VI E L d x)) (myJ d E L x s')=(some (QQX E L d s' x)):=by kernel_rfl
theorem QZR(L:List Lay)(x:Lay)(s':Nat):QF 216 (QTU L d) ((VI E L d x)) (myJ d E L x s')=(some (QQX E L d s' x)):=by kernel_rfl
theorem Qhe(L:List Lay)(x:Lay):QF 216 (.ptr 200 0 0::.ptr 216 0 0::waq L d) ((VI E L d x)) (QF4 d E L x)=( some (([0=0,0=0,0=0,0=0]++wbg L d++[x.piece=x.piece,x.turn=x.turn])++waa d++(([cO=cO,0=0]++waj E L)++wad d))):=by kernel_rfl
structure KD (d:Puz) (x:Lay):Prop where
 p:0<=x.piece/\x.piece<d.ps.n
 t:0<=x.turn/\x.turn<=3
theorem QFU{d:Puz}{x:Lay}(hx:KD d x)(s:Nat):0<=onS x s/\onS x s<4:=by
 have:=hx.t;have h1:=Int.tmod_nonneg 4 (show(0:Int)<=(s:Int)+4-x.turn by omega)
 have h2:=Int.tmod_lt_of_pos ((s:Int)+4-x.turn) (show(0:Int)<4 by decide)
 exact⟨h1,h2⟩
noncomputable def GY(P:Program)(d:Puz)(L:List Lay)(x:Lay)(s:Nat):Env:=mkF P (zA QQ (flU d L.length x.piece (onS x s)))
theorem QNl{d:Puz}{L:List Lay}{x:Lay}(hx:KD d x)(s:Nat):(GY prog d L x s).Sound:=
 KF (Qh.add (QOI d L.length x.piece (onS x s) hx.p.1 hx.p.2 (QFU hx s).1 (QFU hx s).2))
def myR(L:List Lay)(x:Lay)(s:Nat)(e:Ex)(J:JSt):Prop:=(e = .ret/\(QP (Ky d L.length x) (4-s) s).isNone=false/\J=HI E)∨(e = .exit 0/\(QP (Ky d L.length x) (4-s) s).isNone=true/\J=QF4 d E L x)
set_option maxHeartbeats 4000000 in
theorem QXN(L:List Lay)(x:Lay)(hx:KD d x):JW (myJ d E L x) (λs=>s<=4) (λs=>4-s) (myR d E L x) 216 QS3 [201] (GY prog d L x) (λs=>hnd (GY prog d L x s) 1) (QH f105 0):=by
 refine⟨λs g0 hk=>?_⟩;unfold GY;refine Qf (QfM QQ d E L x s g0) ?_;have hk:s<=4:=hk;refine QE (λb0=>?_) (λb0=>?_);have h:s<4:=by have:=qdt b0;omega
 have hf:=JK (p:=Ky d L.length x) h;have ht:=hx.t;refine QG ?_ ?_;rotate_left;refine QE (λb1=>?_) (λb1=>?_);obtain rfl:s=0:=by have:=qdt b1;omega
 refine QE ?_ ?_<;>intro b2
 iterate 2 (refine QG ?_ ?_;rotate_left)
 refine QE ?_ ?_<;>intro b3
 .have hb:Ky d L.length x 0=true:=by show(QW d L.length 0 && !Ko d x.piece (onS x _))=true;rw[b2];exact b3
  exact⟨_,.inl ⟨rfl,by rw[hf.1 hb];rfl,rfl⟩,rfl,rfl,_,Qek E,⟨rfl,rfl,rfl,trivial⟩⟩
 have hb:Ky d L.length x 0=false:=by show(QW d L.length 0 && !Ko d x.piece (onS x _))=false;rw[b2];exact b3
 refine⟨1,by show 1<=4;omega,by show 4-1<4-0;omega,λe J h=>by unfold myR at h ⊢;rw[hf.2 hb];exact h,rfl,rfl,_,QZm d E L x 1,?_⟩
 rotate_left
 have hb:Ky d L.length x 0=false:=by show(QW d L.length 0 && !Ko d x.piece (onS x _))=false;rw[b2];rfl
 refine⟨1,by show 1<=4;omega,by show 4-1<4-0;omega,λe J h=>by unfold myR at h ⊢;rw[hf.2 hb];exact h,rfl,rfl,_,Qh5 d E L x 1,?_⟩
 rotate_left
 refine QE (λb4=>?_) (λb4=>?_);obtain rfl:s=1:=by have:=qdt b4;omega
 refine QE ?_ ?_<;>intro b5
 iterate 2 (refine QG ?_ ?_;rotate_left)
 refine QE ?_ ?_<;>intro b6
 .have hb:Ky d L.length x 1=true:=by show(QW d L.length 1 && !Ko d x.piece (onS x _))=true;rw[b5];exact b6
  exact⟨_,.inl ⟨rfl,by rw[hf.1 hb];rfl,rfl⟩,rfl,rfl,_,Qdg E,⟨rfl,rfl,rfl,trivial⟩⟩
 have hb:Ky d L.length x 1=false:=by show(QW d L.length 1 && !Ko d x.piece (onS x _))=false;rw[b5];exact b6
 refine⟨2,by show 2<=4;omega,by show 4-2<4-1;omega,λe J h=>by unfold myR at h ⊢;rw[hf.2 hb];exact h,rfl,rfl,_,QWj d E L x 2,?_⟩
 rotate_left
 have hb:Ky d L.length x 1=false:=by show(QW d L.length 1 && !Ko d x.piece (onS x _))=false;rw[b5];rfl
 refine⟨2,by show 2<=4;omega,by show 4-2<4-1;omega,λe J h=>by unfold myR at h ⊢;rw[hf.2 hb];exact h,rfl,rfl,_,QXs d E L x 2,?_⟩
 rotate_left
 refine QE (λb7=>?_) (λb7=>?_);obtain rfl:s=2:=by have:=qdt b7;omega
 refine QE ?_ ?_<;>intro b8
 iterate 2 (refine QG ?_ ?_;rotate_left)
 refine QE ?_ ?_<;>intro b9
 .have hb:Ky d L.length x 2=true:=by show(QW d L.length 2 && !Ko d x.piece (onS x _))=true;rw[b8];exact b9
  exact⟨_,.inl ⟨rfl,by rw[hf.1 hb];rfl,rfl⟩,rfl,rfl,_,Qfn E,⟨rfl,rfl,rfl,trivial⟩⟩
 have hb:Ky d L.length x 2=false:=by show(QW d L.length 2 && !Ko d x.piece (onS x _))=false;rw[b8];exact b9
 refine⟨3,by show 3<=4;omega,by show 4-3<4-2;omega,λe J h=>by unfold myR at h ⊢;rw[hf.2 hb];exact h,rfl,rfl,_,QYC d E L x 3,?_⟩
 rotate_left
 have hb:Ky d L.length x 2=false:=by show(QW d L.length 2 && !Ko d x.piece (onS x _))=false;rw[b8];rfl
 refine⟨3,by show 3<=4;omega,by show 4-3<4-2;omega,λe J h=>by unfold myR at h ⊢;rw[hf.2 hb];exact h,rfl,rfl,_,Qdq d E L x 3,?_⟩
 rotate_left
 obtain rfl:s=3:=by
  have h1:=qdf b1;have h2:=qdf b4;have h3:=qdf b7;omega
 refine QE ?_ ?_<;>intro b10
 iterate 2 (refine QG ?_ ?_;rotate_left)
 refine QE ?_ ?_<;>intro b11
 .have hb:Ky d L.length x 3=true:=by show(QW d L.length 3 && !Ko d x.piece (onS x _))=true;rw[b10];exact b11
  exact⟨_,.inl ⟨rfl,by rw[hf.1 hb];rfl,rfl⟩,rfl,rfl,_,QbI E,⟨rfl,rfl,rfl,trivial⟩⟩
 have hb:Ky d L.length x 3=false:=by show(QW d L.length 3 && !Ko d x.piece (onS x _))=false;rw[b10];exact b11
 refine⟨4,by show 4<=4;omega,by show 4-4<4-3;omega,λe J h=>by unfold myR at h ⊢;rw[hf.2 hb];exact h,rfl,rfl,_,QYO d E L x 4,?_⟩
 rotate_left
 have hb:Ky d L.length x 3=false:=by show(QW d L.length 3 && !Ko d x.piece (onS x _))=false;rw[b10];rfl
 refine⟨4,by show 4<=4;omega,by show 4-4<4-3;omega,λe J h=>by unfold myR at h ⊢;rw[hf.2 hb];exact h,rfl,rfl,_,QZR d E L x 4,?_⟩
 rotate_left
 obtain rfl:s=4:=by have:=qdf b0;omega
 refine⟨_,.inr ⟨rfl,rfl,rfl⟩,rfl,rfl,_,Qhe d E L x,?_⟩
 rotate_left
 all_goals first|((with_reducible show _=true);(first|(refine KI.2 ?_;repeat' first|exact tv|exact qRr|refine aI ?_ ?_)|(simp;omega)))|(repeat' first|with_reducible refine QL ?_ ?_|exact tv|exact qRr|exact rfl|refine aI ?_ ?_)
def Yp(c:Nat)(x:Lay):Bool:=(QP (Ky d c x) 4 0).isNone
def myX(L:List Lay)(x:Lay):List (Prop×Ex×JSt):=[(Yp d L.length x=false,.ret,HI E),(Yp d L.length x=true,.exit 0,QF4 d E L x)]
abbrev myH(P:Program)(d:Puz)(E:ECt)(L:List Lay)(x:Lay):Hnd:={ hnd (mkF P QT) 1 with loop:=λ_=>KC 216 [201] (myJ d E L x (0:Nat)) (myX d E L x) }
theorem Qat(L:List Lay)(x:Lay)(hx:KD d x)(G:Ctx)(hrd:G.rd=none)(hG:G.n<=216):Qw (mkF prog QT) G (myH prog d E L x) (Qk f105):=by
 refine KN (body:=QH f105 0) (KF Qh) hrd (by kernel_rfl) ?_
 refine Jo (E0:=mkF prog QT) (E:=GY prog d L x) (H:=λs=>hnd (GY prog d L x s) 1) (n0:=216) (s0:=0) (λ_=>rfl) (QNl hx) hG (λs _=>Qv (QNl hx s) 1 G _ hrd) (λs _=>(by decide:216<=224)) ?_ (QXN d E L x hx) (Nat.zero_le _) ?_
 .rintro s e J (⟨_,_,rfl⟩|⟨_,_,rfl⟩)<;>exact(by decide:216<=224)
 .rintro e J (⟨rfl,h,rfl⟩|⟨rfl,h,rfl⟩)
  .exact⟨_,qmc,h,rfl,rfl⟩
  .exact⟨_,List.mem_cons_of_mem _ qmc,h,rfl,rfl⟩
def myU(L:List Lay)(x:Lay)(v:Bool):UC:=⟨208,⟨2,[(0,.ptr 200 0 0),(1,Enc.enc x)],QHs d E L,216⟩,λ_=>.bool false v,λ_=>[(201,.mp E.1 E.2)]⟩
noncomputable abbrev waP(L:List Lay)(d:Puz):List Prop:=[(L.length:Int)=(L.length:Int),i64.wrap ((L.length:Int).tdiv d.wide)=Qq d L.length,(L.length:Int).tmod d.wide=KB d L.length,(i64.wrap ((L.length:Int).tdiv d.wide)==0)=QW d L.length 0,((L.length:Int).tmod d.wide==i64.wrap (d.wide-1))=QW d L.length 1,(i64.wrap ((L.length:Int).tdiv d.wide)==i64.wrap (d.high-1))=QW d L.length 2,((L.length:Int).tmod d.wide==0)=QW d L.length 3]
theorem Qiz(L:List Lay)(x:Lay)(v:Bool):VS (mkF prog QT) (myH prog d E L x) f105 (myU d E L x v) = .need (!decide (d.wide=0)) (.need (!decide (d.wide=0)) (.ak [0=0,0=0,0=0,0=0,(L.length:Int)=(L.length:Int),i64.wrap ((L.length:Int).tdiv d.wide)=Qq d L.length,(L.length:Int).tmod d.wide=KB d L.length,(i64.wrap ((L.length:Int).tdiv d.wide)==0)=QW d L.length 0,((L.length:Int).tmod d.wide==i64.wrap (d.wide-1))=QW d L.length 1,(i64.wrap ((L.length:Int).tdiv d.wide)==i64.wrap (d.high-1))=QW d L.length 2,((L.length:Int).tmod d.wide==0)=QW d L.length 3,(0:Int)=0,x.piece=x.piece,x.turn=x.turn,d.pK.length=d.pK.length,d.pK.aK=d.pK.aK,d.pK.oK=d.pK.oK,d.pK.dK.lo=d.pK.dK.lo,d.pK.dK.hi=d.pK.dK.hi,d.wide=d.wide,d.high=d.high,d.turn=d.turn,0=0,d.ps.n=d.ps.n,cO=cO,0=0,L.length=L.length,cO=cO,L.length<=L.length,QB 2 L.length (λi=>QA.enc (L.getD i (Lay.mk (0:Int) (0:Int)))) λi=>QA.enc (L.getD i (Lay.mk (0:Int) (0:Int))),E.1=E.1,E.2=E.2,d.ps.n<=d.ps.n,QB 28 d.ps.n (λi=>QA.enc (d.ps.get i)) λi=>QA.enc (d.ps.get i)] (.both (.asm (Yp d L.length x=false) (.all (λ(g0:Nat->Value)=>.leaf (.bool false false) ([(201, .mp E.1 E.2)])))) (.asm (Yp d L.length x=true) (.all (λ(g1:Nat->Value)=>.br (decide (Qq d L.length>0)) (.need (decide ((0:Int)<=i64.wrap ((L.length:Int)-d.wide)/\i64.wrap ((L.length:Int)-d.wide)<(L.length:Int))&&decide (L.length<=L.length)) (.need (decide ((i64.wrap ((L.length:Int)-d.wide)).toNat<L.length)) (.need (true&&(true&&true)&&decide (((0:Int)<=(L.getD (i64.wrap ((L.length:Int)-d.wide)).toNat (Lay.mk (0:Int) (0:Int))).turn/\(L.getD (i64.wrap ((L.length:Int)-d.wide)).toNat (Lay.mk (0:Int) (0:Int))).turn<=3)/\(0:Int)<=2/\(2:Int)<=3)) (.need (true&&(true&&true)&&decide (((0:Int)<=x.turn/\x.turn<=3)/\(0:Int)<=0/\(0:Int)<=3)) (.need (wf4 i64 E.1) (.br (Kb E.1 [(L.getD (i64.wrap ((L.length:Int)-d.wide)).toNat (Lay.mk (0:Int) (0:Int))).piece,onS (L.getD (i64.wrap ((L.length:Int)-d.wide)).toNat (Lay.mk (0:Int) (0:Int))) (2:Int),x.piece,onS x (0:Int)]==0) (.leaf (.bool true false) ([(201,.mp E.1 E.2)])) (.br (KB d L.length==0) (.leaf (.bool true true) ([(201,.mp E.1 E.2)])) (.need (decide ((0:Int)<=i64.wrap ((L.length:Int)-1)/\i64.wrap ((L.length:Int)-1)<(L.length:Int))&&decide (L.length<=L.length)) (.need (decide ((i64.wrap ((L.length:Int)-1)).toNat<L.length)) (.need (true&&(true&&true)&&decide (((0:Int)<=(L.getD (i64.wrap ((L.length:Int)-1)).toNat (Lay.mk (0:Int) (0:Int))).turn/\(L.getD (i64.wrap ((L.length:Int)-1)).toNat (Lay.mk (0:Int) (0:Int))).turn<=3)/\(0:Int)<=1/\(1:Int)<=3)) (.need (true&&(true&&true)&&decide (((0:Int)<=x.turn/\x.turn<=3)/\(0:Int)<=3/\(3:Int)<=3)) (.need (wf4 i64 E.1) (.leaf (.bool false (Kb E.1 [(L.getD (i64.wrap ((L.length:Int)-1)).toNat (Lay.mk (0:Int) (0:Int))).piece,onS (L.getD (i64.wrap ((L.length:Int)-1)).toNat (Lay.mk (0:Int) (0:Int))) (1:Int),x.piece,onS x (3:Int)] != 0)) ([(201,.mp E.1 E.2)])))))))))))))) (.br (KB d L.length==0) (.leaf (.bool true true) ([(201,.mp E.1 E.2)])) (.need (decide ((0:Int)<=i64.wrap ((L.length:Int)-1)/\i64.wrap ((L.length:Int)-1)<(L.length:Int))&&decide (L.length<=L.length)) (.need (decide ((i64.wrap ((L.length:Int)-1)).toNat<L.length)) (.need (true&&(true&&true)&&decide (((0:Int)<=(L.getD (i64.wrap ((L.length:Int)-1)).toNat (Lay.mk (0:Int) (0:Int))).turn/\(L.getD (i64.wrap ((L.length:Int)-1)).toNat (Lay.mk (0:Int) (0:Int))).turn<=3)/\(0:Int)<=1/\(1:Int)<=3)) (.need (true&&(true&&true)&&decide (((0:Int)<=x.turn/\x.turn<=3)/\(0:Int)<=3/\(3:Int)<=3)) (.need (wf4 i64 E.1) (.leaf (.bool false (Kb E.1 [(L.getD (i64.wrap ((L.length:Int)-1)).toNat (Lay.mk (0:Int) (0:Int))).piece,onS (L.getD (i64.wrap ((L.length:Int)-1)).toNat (Lay.mk (0:Int) (0:Int))) (1:Int),x.piece,onS x (3:Int)] != 0)) ([(201,.mp E.1 E.2)])))))))))))))):=by kernel_rfl
structure KO (d:Puz):Prop where
 n:d.ps.n<=1000
 w1:1<=d.wide
 wn:d.wide<=d.ps.n
 h1:1<=d.high
 hn:d.high<=d.ps.n
 wh:d.wide*d.high=d.ps.n
def atL(L:List Lay)(i:Int):Lay:=L.getD i.toNat ⟨0,0⟩
def Xz(p q:Lay)(s t:Int):Int:=Kb E.1 [p.piece,onS p s,q.piece,onS q t]
def Q7(L:List Lay)(x:Lay):Bool:=Yp d L.length x&&((!decide (0<Qq d L.length) || !(Xz E (atL L ((L.length:Int)-d.wide)) x 2 0==0))&&(KB d L.length==0||Xz E (atL L ((L.length:Int)-1)) x 1 3 != 0))
theorem QCO{d:Puz}(h:KO d)(c:Nat):0<=Qq d c/\Qq d c<=c:=by
 have:=h.w1;refine⟨Int.tdiv_nonneg (by omega) (by omega),?_⟩
 rw[Qq,Int.tdiv_eq_ediv_of_nonneg (by omega)]
 exact Int.ediv_le_self _ (by omega)
theorem QGH{d:Puz}(h:KO d){c:Nat}(hr:0<Qq d c):d.wide<=c:=by
 have:=h.w1;rw[Qq,Int.tdiv_eq_ediv_of_nonneg (by omega)]at hr
 have:=(Int.le_ediv_iff_mul_le (a:=1) (b:=(c:Int)) (c:=d.wide) (by omega)).1 (by omega)
 omega
theorem QBa{d:Puz}{c:Nat}(hr:(KB d c==0)=false):1<=c:=by
 cases c with
 | zero=>simp[KB]at hr
 | succ c=>omega
theorem zD{d:Puz}{L:List Lay}(hL:∀ y∈L,KD d y){i:Int}(h1:0<=i)(h2:i<L.length):KD d (atL L i):=by
 have h:i.toNat<L.length:=by omega
 exact hL _ (by rw[atL,Vu h];exact List.getElem_mem h)
theorem Qi7(L:List Lay)(x:Lay)(v b:Bool)(k:Bool)(h:v=b):(QC.leaf (.bool k v) [(201,.mp E.1 E.2)]).den (vB (myU d E L x b)):=⟨rfl,rfl,_,by cases k<;>rfl,by subst h;exact⟨rfl,rfl,rfl,trivial⟩⟩
theorem Qf1(L:List Lay)(x:Lay)(v:Bool):(myU d E L x v).Ok:=by
 refine⟨(by decide:208<=216),rfl,rfl,?_,rfl,λ_ _=>rfl,λnid h=>rfl⟩
 intro q hq;simp only[UC.po,myU,List.mem_cons,List.not_mem_nil,or_false]at hq;subst hq;exact⟨rfl,rfl,rfl,λ_=>rfl⟩
theorem QE5(L:List Lay)(x:Lay)(hd:KO d)(hE:WfE E)(hl:L.length<=1000)(hL:∀ y∈L,KD d y)(hx:KD d x):QR prog 105 (uFC (myU d E L x (Q7 d E L x))):=by
 refine K7 (E:=mkF prog QT) (KF Qh) func105 (by kernel_rfl) (by kernel_rfl) (Qf1 ..) (λG h1 h2=>Qat d E L x hx G h1 (by rw[h2];exact qlr _)) ⟨?_⟩
 have fin:∀(v k:Bool),v=Q7 d E L x->(QC.leaf (.bool k v) [(201,.mp E.1 E.2)]).den (vB (myU d E L x (Q7 d E L x))):=λv k h=>Qi7 d E L x v _ k h;have hw1:=hd.w1;have hwn:=hd.wn;have hh1:=hd.h1;have hhn:=hd.hn;have hn:=hd.n;have hr:=QCO hd L.length;have ht:=hx.t;have hE:wf4 .i64 E.1=true:=hE;have wr:i64.wrap ((L.length:Int).tdiv d.wide)=Qq d L.length:=w64 (by have:=hr.1;unfold Qq at this;omega) (by have:=hr.2;unfold Qq at this;omega)
 have ww:i64.wrap (d.wide-1)=d.wide-1:=w64 (by omega) (by omega)
 have wh:i64.wrap (d.high-1)=d.high-1:=w64 (by omega) (by omega)
 have wu:i64.wrap ((L.length:Int)-d.wide)=(L.length:Int)-d.wide:=w64 (by omega) (by omega)
 have wl:i64.wrap ((L.length:Int)-1)=(L.length:Int)-1:=w64 (by omega) (by omega)
 generalize hv:Q7 d E L x=v at fin;refine Qf (Qiz d E L x v) ?_;rw[wr,ww,wh,wu,wl]
 iterate 2 (refine QG ?_ ?_;rotate_left)
 iterate 34 refine Qu (by first|exact tv|exact Nat.le_refl _|exact qRr|exact rfl) ?_
 refine Kh ?_ ?_;refine Qg λa0=>?_;refine Qj λg0=>?_
 .refine fin _ _ ?_;rw[<-hv,Q7,a0];rfl
 refine Qg λa1=>?_;refine Qj λg1=>?_;refine QE (λb0=>?_) (λb0=>?_);have hcw:=QGH hd (qdt b0);have hU:=(zD hL (i:=(L.length:Int)-d.wide) (by omega) (by omega)).t
 iterate 5 (refine QG ?_ ?_;rotate_left)
 refine QE ?_ ?_<;>intro b1
 .refine fin _ _ ?_;rw[<-hv,Q7,a1,show decide (0<Qq d L.length)=true from b0,show(Xz E (atL L ((L.length:Int)-d.wide)) x 2 0==0)=true from b1];rfl
 refine QE ?_ ?_<;>intro b2
 .refine fin _ _ ?_;rw[<-hv,Q7,a1,show decide (0<Qq d L.length)=true from b0,show(Xz E (atL L ((L.length:Int)-d.wide)) x 2 0==0)=false from b1,b2];rfl
 have hc1:=QBa b2;have hV:=(zD hL (i:=(L.length:Int)-1) (by omega) (by omega)).t
 iterate 5 (refine QG ?_ ?_;rotate_left)
 .refine fin _ _ ?_;rw[<-hv,Q7,a1,show decide (0<Qq d L.length)=true from b0,show(Xz E (atL L ((L.length:Int)-d.wide)) x 2 0==0)=false from b1,b2];rfl
 refine QE ?_ ?_<;>intro b3
 .refine fin _ _ ?_;rw[<-hv,Q7,a1,show decide (0<Qq d L.length)=false from b0,b3];rfl
 have hc1:=QBa b3;have hV:=(zD hL (i:=(L.length:Int)-1) (by omega) (by omega)).t
 iterate 5 (refine QG ?_ ?_;rotate_left)
 .refine fin _ _ ?_;rw[<-hv,Q7,a1,show decide (0<Qq d L.length)=false from b0,b3];rfl
 all_goals first|exact hE|rfl|exact qde (show(0<=(atL L _).turn/\_)/\_ from⟨hU,by decide,by decide⟩)|exact qde (show(0<=(atL L _).turn/\_)/\_ from⟨hV,by decide,by decide⟩)|exact qde ⟨ht,by decide,by decide⟩|(simp;omega)
