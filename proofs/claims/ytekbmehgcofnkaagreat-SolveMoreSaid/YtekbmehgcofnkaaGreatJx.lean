/- - -/
import Derived.Test.YtekbmehgcofnkaaGreatJw
set_option linter.all false
noncomputable section
open Go.Proofs.Tryz
open Go.IntKind (i64)
set_option maxRecDepth 100000
namespace Go.Proofs.YtekbmehgcofnkaaGreat
open Go.SX Go.SX.Told
variable {p q:QT}{t:Nat}(d:Puz)(E:ECt)(i:Nat)
def meF(p q:QT)(s t:Nat):Int:=(KG d.pK (Kq p s) (Kq q t)).1
def QCw(i s k t:Nat)(n:Int)(E:ECt):ECt:=(JL [(i:Int),(s:Int),(k:Int),(t:Int)] (KS i s k t) (.int .i64 n) E.2 E.1,clL [(i:Int),(s:Int),(k:Int),(t:Int)] E.2 E.1)
def stE(p q:QT)(i k s t:Nat)(E:ECt):ECt:=cond (((i:Int) != (k:Int))&&(meF d p q s t != 0)) (QCw i s k t (meF d p q s t) E) E
def m4(d:Puz)(p q:QT)(i k s:Nat)(E:ECt):Nat->ECt
 | 0=>E
 | t+1=>stE d p q i k s t (m4 d p q i k s E t)
def m3(d:Puz)(p q:QT)(i k:Nat)(E:ECt):Nat->ECt
 | 0=>E
 | s+1=>m4 d p q i k s (m3 d p q i k E s) 4
def m2(d:Puz)(p:QT)(i:Nat)(E:ECt):Nat->ECt
 | 0=>E
 | k+1=>m3 d p (d.ps.get k) i k (m2 d p i E k) 4
def m1(d:Puz):Nat->ECt
 | 0=>([],0)
 | i+1=>m2 d (d.ps.get i) i (m1 d i) d.ps.n
def WfE:Prop:=wf4 .i64 E.1=true
theorem QhL{es:List MapEntry}(h:wf4 .i64 es=true)(a b c d n:Int):∀ i,wf4 .i64 (VM (KS a b c d) (.int .i64 n) es i)=true:=by
 induction es with
 | nil=>intro i;cases i<;>rfl
 | cons e es ih=>
  simp only[wf4,List.all_cons,qbA]at h;intro i;cases i with
  | zero=>simp only[VM,wf4,List.all_cons,qbA];exact⟨⟨rfl,rfl⟩,h.2⟩
  | succ i=>
   have:=ih h.2 i;simp only[wf4]at this;simp only[VM,wf4,List.all_cons,qbA];exact⟨h.1,this⟩
theorem QSs{E:ECt}(h:WfE E)(i s k t:Nat)(n:Int):WfE (QCw i s k t n E):=by
 show wf4 .i64 (JL _ _ _ E.2 E.1)=true;unfold JL;split
 .exact QhL h _ _ _ _ _ _
 .have h:wf4 .i64 E.1=true:=h;simp only[wf4,List.all_append,qbA]at h ⊢;exact⟨h,rfl⟩
theorem QWK{d:Puz}{i k s:Nat}{E:ECt}(h:WfE E):WfE (stE d p q i k s t E):=by
 unfold stE;cases ((i:Int) != (k:Int))&&(meF d p q s t != 0)
 .exact h
 .exact QSs h _ _ _ _ _
theorem QIY{d:Puz}{p q:QT}{i k s:Nat}{E:ECt}(h:WfE E):∀ t,WfE (m4 d p q i k s E t)
 | 0=>h
 | t+1=>QWK (QIY h t)
theorem QId{d:Puz}{p q:QT}{i k:Nat}{E:ECt}(h:WfE E):∀ s,WfE (m3 d p q i k E s)
 | 0=>h
 | s+1=>QIY (QId h s) 4
theorem QJB{d:Puz}{p:QT}{i:Nat}{E:ECt}(h:WfE E):∀ k,WfE (m2 d p i E k)
 | 0=>h
 | k+1=>QId (QJB h k) 4
theorem QIt(d:Puz):∀ i,WfE (m1 d i)
 | 0=>rfl
 | i+1=>QJB (QIt d i) _
theorem QDE{d:Puz}{i k s:Nat}{E:ECt}(h1:((i:Int) != (k:Int))=true)(h2:(meF d p q s t != 0)=true):stE d p q i k s t E=QCw i s k t (meF d p q s t) E:=by unfold stE;rw[h1,h2];rfl
theorem QEL{d:Puz}{i k s:Nat}{E:ECt}(h2:(meF d p q s t != 0)=false):stE d p q i k s t E=E:=by unfold stE;rw[h2,Bool.and_false];rfl
theorem QCs{d:Puz}{i k s:Nat}{E:ECt}(h1:((i:Int) != (k:Int))=false):stE d p q i k s t E=E:=by unfold stE;rw[h1];rfl
set_option maxHeartbeats 4000000 in
theorem QVS(p q:QT)(i k s:Nat)(E:ECt)(hE:WfE E):J1 (λt=>Vb d (m4 d p q i k s E t) p q (Kq p s) i k s t) (λt=>t<=4) (λt=>4-t) (λ_ e J=>e = .exit 6/\J=QJZ d (m4 d p q i k s E 4) p q i k s) 8 QR6 [] (mkF prog KK) (λ_=>hnd (mkF prog KK) 1) (Qa (Qa (Qa (QJ f60 0)))):=by
 refine⟨λt g0 hk=>Qe (QUt d (m4 d p q i k s E t) p q (Kq p s) i k s t g0) ?_⟩;have hk:t<=4:=hk;have hw:wf4 .i64 (m4 d p q i k s E t).1=true:=QIY hE t;refine QE (λb0=>?_) (λb0=>?_);refine QG ?_ ?_;rotate_left;refine QE (λb1=>?_) (λb1=>?_);obtain rfl:t=0:=by have:=qdt b1;omega
 refine QG ?_ ?_;rotate_left;refine QE (λb2=>?_) (λb2=>?_);refine QE (λb3=>?_) (λb3=>?_);refine QG ?_ ?_;rotate_left
 .have hs:m4 d p q i k s E 1=_:=QDE b2 b3;refine⟨1,by show 1<=4;omega,by show 4-1<4-0;omega,λ_ _ r=>r,rfl,rfl,_,QXY ..,?_⟩
  have q1:_=(m4 d p q i k s E 1).1:=congrArg Prod.fst hs.symm;have q2:_=(m4 d p q i k s E 1).2:=congrArg Prod.snd hs.symm
  repeat' first|with_reducible refine QN ?_ ?_|exact tv|exact qRr|exact q1|exact q2|exact rfl|refine aI ?_ ?_
 .have hs:m4 d p q i k s E 1=_:=QEL b3;refine⟨1,by show 1<=4;omega,by show 4-1<4-0;omega,λ_ _ r=>r,rfl,rfl,_,QVk ..,?_⟩
  have q1:_=(m4 d p q i k s E 1).1:=congrArg Prod.fst hs.symm;have q2:_=(m4 d p q i k s E 1).2:=congrArg Prod.snd hs.symm
  repeat' first|with_reducible refine QN ?_ ?_|exact tv|exact qRr|exact q1|exact q2|exact rfl|refine aI ?_ ?_
 .have hs:m4 d p q i k s E 1=_:=QCs b2;refine⟨1,by show 1<=4;omega,by show 4-1<4-0;omega,λ_ _ r=>r,rfl,rfl,_,QiF ..,?_⟩
  have q1:_=(m4 d p q i k s E 1).1:=congrArg Prod.fst hs.symm;have q2:_=(m4 d p q i k s E 1).2:=congrArg Prod.snd hs.symm
  repeat' first|with_reducible refine QN ?_ ?_|exact tv|exact qRr|exact q1|exact q2|exact rfl|refine aI ?_ ?_
 refine QE (λb4=>?_) (λb4=>?_);obtain rfl:t=1:=by have:=qdt b4;omega
 refine QG ?_ ?_;rotate_left;refine QE (λb5=>?_) (λb5=>?_);refine QE (λb6=>?_) (λb6=>?_);refine QG ?_ ?_;rotate_left
 .have hs:m4 d p q i k s E 2=_:=QDE b5 b6;refine⟨2,by show 2<=4;omega,by show 4-2<4-1;omega,λ_ _ r=>r,rfl,rfl,_,Qfa ..,?_⟩
  have q1:_=(m4 d p q i k s E 2).1:=congrArg Prod.fst hs.symm;have q2:_=(m4 d p q i k s E 2).2:=congrArg Prod.snd hs.symm
  repeat' first|with_reducible refine QN ?_ ?_|exact tv|exact qRr|exact q1|exact q2|exact rfl|refine aI ?_ ?_
 .have hs:m4 d p q i k s E 2=_:=QEL b6;refine⟨2,by show 2<=4;omega,by show 4-2<4-1;omega,λ_ _ r=>r,rfl,rfl,_,QiH ..,?_⟩
  have q1:_=(m4 d p q i k s E 2).1:=congrArg Prod.fst hs.symm;have q2:_=(m4 d p q i k s E 2).2:=congrArg Prod.snd hs.symm
  repeat' first|with_reducible refine QN ?_ ?_|exact tv|exact qRr|exact q1|exact q2|exact rfl|refine aI ?_ ?_
 .have hs:m4 d p q i k s E 2=_:=QCs b5;refine⟨2,by show 2<=4;omega,by show 4-2<4-1;omega,λ_ _ r=>r,rfl,rfl,_,Qg8 ..,?_⟩
  have q1:_=(m4 d p q i k s E 2).1:=congrArg Prod.fst hs.symm;have q2:_=(m4 d p q i k s E 2).2:=congrArg Prod.snd hs.symm
  repeat' first|with_reducible refine QN ?_ ?_|exact tv|exact qRr|exact q1|exact q2|exact rfl|refine aI ?_ ?_
 refine QE (λb7=>?_) (λb7=>?_);obtain rfl:t=2:=by have:=qdt b7;omega
 refine QG ?_ ?_;rotate_left;refine QE (λb8=>?_) (λb8=>?_);refine QE (λb9=>?_) (λb9=>?_);refine QG ?_ ?_;rotate_left
 .have hs:m4 d p q i k s E 3=_:=QDE b8 b9;refine⟨3,by show 3<=4;omega,by show 4-3<4-2;omega,λ_ _ r=>r,rfl,rfl,_,Qf7 ..,?_⟩
  have q1:_=(m4 d p q i k s E 3).1:=congrArg Prod.fst hs.symm;have q2:_=(m4 d p q i k s E 3).2:=congrArg Prod.snd hs.symm
  repeat' first|with_reducible refine QN ?_ ?_|exact tv|exact qRr|exact q1|exact q2|exact rfl|refine aI ?_ ?_
 .have hs:m4 d p q i k s E 3=_:=QEL b9;refine⟨3,by show 3<=4;omega,by show 4-3<4-2;omega,λ_ _ r=>r,rfl,rfl,_,Qa9 ..,?_⟩
  have q1:_=(m4 d p q i k s E 3).1:=congrArg Prod.fst hs.symm;have q2:_=(m4 d p q i k s E 3).2:=congrArg Prod.snd hs.symm
  repeat' first|with_reducible refine QN ?_ ?_|exact tv|exact qRr|exact q1|exact q2|exact rfl|refine aI ?_ ?_
 .have hs:m4 d p q i k s E 3=_:=QCs b8;refine⟨3,by show 3<=4;omega,by show 4-3<4-2;omega,λ_ _ r=>r,rfl,rfl,_,Qb5 ..,?_⟩
  have q1:_=(m4 d p q i k s E 3).1:=congrArg Prod.fst hs.symm;have q2:_=(m4 d p q i k s E 3).2:=congrArg Prod.snd hs.symm
  repeat' first|with_reducible refine QN ?_ ?_|exact tv|exact qRr|exact q1|exact q2|exact rfl|refine aI ?_ ?_
 obtain rfl:t=3:=by
  have h0:=qdt b0;have h1:=qdf b1;have h2:=qdf b4;have h3:=qdf b7;omega
 refine QG ?_ ?_;rotate_left;refine QE (λb10=>?_) (λb10=>?_);refine QE (λb11=>?_) (λb11=>?_);refine QG ?_ ?_;rotate_left
 .have hs:m4 d p q i k s E 4=_:=QDE b10 b11;refine⟨4,by show 4<=4;omega,by show 4-4<4-3;omega,λ_ _ r=>r,rfl,rfl,_,QYp ..,?_⟩
  have q1:_=(m4 d p q i k s E 4).1:=congrArg Prod.fst hs.symm;have q2:_=(m4 d p q i k s E 4).2:=congrArg Prod.snd hs.symm
  repeat' first|with_reducible refine QN ?_ ?_|exact tv|exact qRr|exact q1|exact q2|exact rfl|refine aI ?_ ?_
 .have hs:m4 d p q i k s E 4=_:=QEL b11;refine⟨4,by show 4<=4;omega,by show 4-4<4-3;omega,λ_ _ r=>r,rfl,rfl,_,Qa4 ..,?_⟩
  have q1:_=(m4 d p q i k s E 4).1:=congrArg Prod.fst hs.symm;have q2:_=(m4 d p q i k s E 4).2:=congrArg Prod.snd hs.symm
  repeat' first|with_reducible refine QN ?_ ?_|exact tv|exact qRr|exact q1|exact q2|exact rfl|refine aI ?_ ?_
 .have hs:m4 d p q i k s E 4=_:=QCs b10;refine⟨4,by show 4<=4;omega,by show 4-4<4-3;omega,λ_ _ r=>r,rfl,rfl,_,QXC ..,?_⟩
  have q1:_=(m4 d p q i k s E 4).1:=congrArg Prod.fst hs.symm;have q2:_=(m4 d p q i k s E 4).2:=congrArg Prod.snd hs.symm
  repeat' first|with_reducible refine QN ?_ ?_|exact tv|exact qRr|exact q1|exact q2|exact rfl|refine aI ?_ ?_
 obtain rfl:t=4:=by have:=qdf b0;omega
 refine⟨_,⟨rfl,rfl⟩,rfl,rfl,_,QY2 ..,?_⟩
 rotate_left
 all_goals first|((with_reducible show _=true);(first|exact hw|rfl|(simp;omega)|(simp at b0 ⊢;omega)))|(repeat' first|with_reducible refine QN ?_ ?_|exact tv|exact qRr|refine aI ?_ ?_)
theorem Qbv(p q:QT)(i k s:Nat)(E:ECt)(hE:WfE E)(G:Ctx)(hrd:G.rd=none)(hG:G.n<=8):Q1 (mkF prog KK) G (QFz prog d E (m4 d p q i k s E 4) p q (Kq p s) i k s) (Qa (Qa (QJ f60 0))):=by
 refine Kk (body:=Qa (Qa (Qa (QJ f60 0)))) (Kl JO) hrd (by kernel_rfl) ?_
 refine V7 (I:=λt=>Vb d (m4 d p q i k s E t) p q (Kq p s) i k s t) (n0:=8) (Kl JO) hG (λt ht=>Qw (Kl JO) 1 G _ hrd) (λt ht=>(by decide:8<=104)) ?_ (QVS d p q i k s E hE) (s0:=0) (Nat.zero_le _) ?_
 .rintro s e J ⟨_,rfl⟩;exact(by decide:8<=104)
 .rintro e J ⟨rfl,rfl⟩;exact⟨_,qmc,trivial,rfl,rfl⟩
set_option maxHeartbeats 4000000 in
theorem QaM(p q:QT)(i k:Nat)(E:ECt):J1 (λs=>Wv d (m3 d p q i k E s) p q i k s) (λs=>s<=4) (λs=>4-s) (λ_ e J=>e = .exit 4/\J=QGB d (m3 d p q i k E 4) p i k) 8 QM5 [] (mkF prog KK) (λs=>QFz prog d (m3 d p q i k E s) (m4 d p q i k s (m3 d p q i k E s) 4) p q (Kq p s) i k s) (Qa (Qa (QJ f60 0))):=by
 refine⟨λs g0 hk=>Qe (QeK d (m3 d p q i k E s) (m4 d p q i k s (m3 d p q i k E s) 4) p q (Kq p s) i k s g0) ?_⟩;have hk:s<=4:=hk;refine QE (λb0=>?_) (λb0=>?_);refine QG ?_ ?_;rotate_left;refine QE (λb1=>?_) (λb1=>?_);obtain rfl:s=0:=by have:=qdt b1;omega
 iterate 170 refine Q2 (by first|exact tv|exact qRr|rfl) ?_
 refine Qh λa0=>?_;refine Qj λg0=>?_;refine⟨1,by show 1<=4;omega,by show 4-1<4-0;omega,λ_ _ r=>r,rfl,rfl,_,QZD ..,?_⟩
 rotate_left
 refine QE (λb2=>?_) (λb2=>?_);obtain rfl:s=1:=by have:=qdt b2;omega
 iterate 170 refine Q2 (by first|exact tv|exact qRr|rfl) ?_
 refine Qh λa1=>?_;refine Qj λg1=>?_;refine⟨2,by show 2<=4;omega,by show 4-2<4-1;omega,λ_ _ r=>r,rfl,rfl,_,Qb6 ..,?_⟩
 rotate_left
 refine QE (λb3=>?_) (λb3=>?_);obtain rfl:s=2:=by have:=qdt b3;omega
 iterate 170 refine Q2 (by first|exact tv|exact qRr|rfl) ?_
 refine Qh λa2=>?_;refine Qj λg2=>?_;refine⟨3,by show 3<=4;omega,by show 4-3<4-2;omega,λ_ _ r=>r,rfl,rfl,_,QbF ..,?_⟩
 rotate_left
 obtain rfl:s=3:=by
  have h0:=qdt b0;have h1:=qdf b1;have h2:=qdf b2;have h3:=qdf b3;omega
 iterate 170 refine Q2 (by first|exact tv|exact qRr|rfl) ?_
 refine Qh λa3=>?_;refine Qj λg3=>?_;refine⟨4,by show 4<=4;omega,by show 4-4<4-3;omega,λ_ _ r=>r,rfl,rfl,_,QeD ..,?_⟩
 rotate_left
 obtain rfl:s=4:=by have:=qdf b0;omega
 refine⟨_,⟨rfl,rfl⟩,rfl,rfl,_,QVE ..,?_⟩
 rotate_left
 all_goals first|((with_reducible show _=true);(first|rfl|(simp at b0 ⊢;omega)))|(repeat' first|with_reducible refine QN ?_ ?_|exact tv|exact qRr|exact rfl|refine aI ?_ ?_)
theorem QZh(p:QT)(i k:Nat)(E:ECt)(hE:WfE E)(G:Ctx)(hrd:G.rd=none)(hG:G.n<=8):Q1 (mkF prog KK) G (QHi prog d E (m3 d p (d.ps.get k) i k E 4) p (d.ps.get k) i k) (Qa (QJ f60 0)):=by
 refine Kk (body:=Qa (Qa (QJ f60 0))) (Kl JO) hrd (by kernel_rfl) ?_
 refine Vy λhi=>?_;refine V7 (I:=λs=>Wv d (m3 d p (d.ps.get k) i k E s) p (d.ps.get k) i k s) (n0:=8) (Kl JO) hG (λs hs=>Qbv d p (d.ps.get k) i k s _ (QId hE s) G hrd hG) (λt ht=>(by decide:8<=104)) ?_ (QaM d p (d.ps.get k) i k E) (s0:=0) (Nat.zero_le _) ?_
 .rintro s e J ⟨_,rfl⟩;exact(by decide:8<=104)
 .rintro e J ⟨rfl,rfl⟩;exact⟨_,qmc,trivial,rfl,rfl⟩
set_option maxHeartbeats 4000000 in
theorem QiB(p:QT)(i:Nat)(E:ECt)(hE:WfE E)(hn:d.ps.n<2^62):J1 (λk=>QAS d (m2 d p i E k) p i k) (λk=>k<=d.ps.n) (λk=>d.ps.n-k) (λ_ e J=>e = .exit 2/\J=QJj d (m2 d p i E d.ps.n) i) 8 QLR [] (mkF prog KK) (λk=>QHi prog d (m2 d p i E k) (m3 d p (d.ps.get k) i k (m2 d p i E k) 4) p (d.ps.get k) i k) (Qa (QJ f60 0)):=by
 refine⟨λk g0 hk=>Qe (QUe d (m2 d p i E k) (m3 d p (d.ps.get k) i k (m2 d p i E k) 4) p (d.ps.get k) i k g0) ?_⟩;have hk:k<=d.ps.n:=hk;refine QE (λb0=>?_) (λb0=>?_);have h:k<d.ps.n:=by have:=qdt b0;omega
 have hw:i64.wrap ((k:Int)+1)=((k+1:Nat):Int):=(w64 (by omega) (by omega)).trans (by omega)
 iterate 2 (refine QG ?_ ?_;rotate_left)
 iterate 132 refine Q2 (by first|exact tv|exact h|exact qRr|rfl) ?_
 refine Qh λa0=>?_;refine Qj λg0=>?_;refine⟨k+1,h,by show d.ps.n-(k+1)<d.ps.n-k;omega,λ_ _ r=>r,rfl,rfl,_,QYf ..,?_⟩
 rotate_left
 obtain rfl:k=d.ps.n:=by have:=qdf b0;omega
 refine⟨_,⟨rfl,rfl⟩,rfl,rfl,_,QZA ..,?_⟩
 rotate_left
 all_goals first|((with_reducible show _=true);(first|rfl|(simp at b0 ⊢;omega)))|(repeat' first|with_reducible refine QN ?_ ?_|exact tv|exact qRr|exact hw|exact rfl|refine aI ?_ ?_)
theorem Qcf(hn:d.ps.n<2^62)(G:Ctx)(hrd:G.rd=none)(hG:G.n<=8):Q1 (mkF prog KK) G (QIZ prog d (m1 d i) (m2 d (d.ps.get i) i (m1 d i) d.ps.n) (d.ps.get i) i) (QJ f60 0):=by
 refine Kk (body:=Qa (QJ f60 0)) (Kl JO) hrd (by kernel_rfl) ?_
 refine Vy λhi=>?_;refine V7 (I:=λk=>QAS d (m2 d (d.ps.get i) i (m1 d i) k) (d.ps.get i) i k) (n0:=8) (Kl JO) hG (λk hk=>QZh d (d.ps.get i) i k _ (QJB (QIt d i) k) G hrd hG) (λt ht=>(by decide:8<=104)) ?_ (QiB d (d.ps.get i) i (m1 d i) (QIt d i) hn) (s0:=0) (Nat.zero_le _) ?_
 .rintro s e J ⟨_,rfl⟩;exact(by decide:8<=104)
 .rintro e J ⟨rfl,rfl⟩;exact⟨_,qmc,trivial,rfl,rfl⟩
set_option maxHeartbeats 4000000 in
theorem QZJ(hn:d.ps.n<2^62):J1 (λi=>QAV d (m1 d i) i) (λi=>i<=d.ps.n) (λi=>d.ps.n-i) (λ_ e J=>e = .exit 0/\J=QI5 d (m1 d d.ps.n)) 8 QLF [] (mkF prog KK) (λi=>QIZ prog d (m1 d i) (m2 d (d.ps.get i) i (m1 d i) d.ps.n) (d.ps.get i) i) (QJ f60 0):=by
 refine⟨λi g0 hk=>Qe (QXx d (m1 d i) (m2 d (d.ps.get i) i (m1 d i) d.ps.n) (d.ps.get i) i g0) ?_⟩;have hk:i<=d.ps.n:=hk;refine QE (λb0=>?_) (λb0=>?_);have h:i<d.ps.n:=by have:=qdt b0;omega
 have hw:i64.wrap ((i:Int)+1)=((i+1:Nat):Int):=(w64 (by omega) (by omega)).trans (by omega)
 iterate 2 (refine QG ?_ ?_;rotate_left)
 iterate 72 refine Q2 (by first|exact tv|exact h|exact qRr|rfl) ?_
 refine Qh λa0=>?_;refine Qj λg0=>?_;refine⟨i+1,h,by show d.ps.n-(i+1)<d.ps.n-i;omega,λ_ _ r=>r,rfl,rfl,_,Qe1 ..,?_⟩
 rotate_left
 obtain rfl:i=d.ps.n:=by have:=qdf b0;omega
 refine⟨_,⟨rfl,rfl⟩,rfl,rfl,_,Qdi ..,?_⟩
 rotate_left
 all_goals first|((with_reducible show _=true);(first|rfl|(simp at b0 ⊢;omega)))|(repeat' first|with_reducible refine QN ?_ ?_|exact tv|exact qRr|exact hw|exact rfl|refine aI ?_ ?_)
end Go.Proofs.YtekbmehgcofnkaaGreat
namespace Go.SX
theorem Qba{i n:Nat}(h:i<n):Nat.blt i n=true:=by rw[Nat.blt_eq];exact h
theorem QOo{i n:Nat}(h:¬ i<n):Nat.blt i n=false:=by
 cases hb:Nat.blt i n with
 | false=>rfl
 | true=>rw[Nat.blt_eq]at hb;exact absurd hb h
end Go.SX
namespace Go.Proofs.YtekbmehgcofnkaaGreat
open Go.SX Go.SX.Told
def QHU(id c:Nat)(d:Puz)(E:ECt):List (Nat×Blk):=[(id,.cells 0 152 (Kb d++[.map c,.nils])),(c,.mp E.1 E.2)]
abbrev nbH(P:Program)(d:Puz)(E:ECt):Hnd:={ hnd (mkF P KK) 1 with loop:=λ_=>KJ 8 [] (QAV d ([],0) (0:Nat)) [(True,.exit 0,QI5 d E)] }
variable (d:Puz)(n:Nat)(E:ECt)(a:Int)(k:Nat)
theorem QVi(hn:d.ps.n<2^62)(G:Ctx)(hrd:G.rd=none)(hG:G.n=8):Q1 (mkF prog KK) G (nbH prog d (m1 d d.ps.n)) (Qk f60):=by
 refine Kk (body:=QJ f60 0) (Kl JO) hrd (by kernel_rfl) ?_
 refine V7 (I:=λi=>QAV d (m1 d i) i) (n0:=8) (Kl JO) (by omega) (λi hs=>Qcf d i hn G hrd (by omega)) (λs hs=>(by decide:8<=104)) ?_ (QZJ d hn) (s0:=0) (Nat.zero_le _) ?_
 .rintro s e J ⟨_,rfl⟩;exact(by decide:8<=104)
 .rintro e J ⟨rfl,rfl⟩;exact⟨_,qmc,trivial,rfl,rfl⟩
def nbU:UC:=⟨8,⟨1,[(0,.agg (Kb d))],Qo.blk 0 d.ps,8⟩,λm=>.ptr m 0 0,λm=>QHU m (m+1) d E⟩
abbrev QKH(d:Puz):List (Nat×Blk):=[(48,.cells 0 152 (List.append (waf d) ([.map 32,.nils]))),(0,.frz (wae) d.ps.n λi=>QA.enc (d.ps.get i)),(32,.mp E.1 E.2)]
theorem Qcv :VZ (mkF prog KK) (nbH prog d E) f60 (nbU d E) = .ak (([0=0,0=0,0=0,0=0,0=0]++wbZ d++[(0:Int)=0])++waa d++[cO=cO]++waa d++([cO=cO,([]:List MapEntry)=[],0=0]++wad d)) (.asm (True) (.all (λ(g0:Nat->Value)=>.leaf (.ptr 48 0 0) ((QKH E d))))):=by kernel_rfl
theorem QZ6 :QF 8 [(.ptr 48 0 0)] ((QKH E d)) (KX (nbU d E))=(some ([0=0,0=0]++waa d++[cO=cO,E.1=E.1,E.2=E.2])):=by kernel_rfl
theorem QI0(nid:Nat):Jg 8 8 nid (8+k)=nid+k:=by
 have:Nat.blt (8+k) 8=false:=QOo (by omega)
 simp only[Jg,this];omega
theorem QVr{i:Nat}(h:i<8)(nid:Nat):Jg 8 8 nid i=i:=by
 simp only[Jg,Qba h]
theorem QWw:(nbU d E).Ok:=by
 refine⟨(by decide:8<=8),rfl,rfl,?_,rfl,λnid h=>?_,λnid h=>?_⟩
 .intro q hq;simp only[UC.po,nbU,QHU,List.mem_cons,List.not_mem_nil,or_false]at hq;rcases hq with rfl|rfl
  .exact⟨rfl,rfl,rfl,λh=>absurd (show 8<8 from h) (by decide)⟩
  .exact⟨rfl,rfl,rfl,λh=>absurd (show 9<8 from h) (by decide)⟩
 .have e0:=QI0 0 nid;simp only[UC.va,nbU,AV.mapId,Nat.add_zero]at e0 ⊢;rw[e0]
 .have e0:=QI0 0 nid;have e1:=QI0 1 nid;have l0:=QVr (i:=0) (by decide) nid
  simp only[UC.po,nbU,QHU,Kb,Qo.val,List.cons_append,List.nil_append,List.map_cons,List.map_nil,Blk.mapId,AV.mapId,AV.mapIdL,Nat.add_zero,Nat.zero_add]at e0 e1 l0 ⊢;rw[e0,e1,l0]
theorem Zy(hn:d.ps.n<2^62):QQ prog 60 (uFC (nbU d (m1 d d.ps.n))):=by
 refine K4 (E:=mkF prog KK) (Kl JO) func60 (by kernel_rfl) (by kernel_rfl) (QWw ..) (QVi d hn) ⟨?_⟩
 generalize m1 d d.ps.n=E;refine Qe (Qcv d E) ?_
 iterate 35 refine Q2 (by first|exact tv|exact qRr|rfl) ?_
 refine Qh λa0=>?_;refine Qj λg0=>?_;refine⟨rfl,rfl,_,QZ6 d E,?_⟩
 rotate_left
 all_goals (repeat' first|exact tv|exact qRr|refine aI ?_ ?_)
structure Lay where
 piece:Int
 turn:Int
instance : QA Lay where
  ks := [.int .i64,.int .i64]
  enc p j := match j with
    | 0 => p.piece
    | _ => p.turn
  dec f := ⟨f 0,f 1⟩
  ok _ := rfl
instance : Enc Lay where
  enc x := .agg [.int false .i64 x.piece,.int false .i64 x.turn]
  dec | .agg [.int _ .i64 a0,.int _ .i64 a1] => some ⟨a0,a1⟩ | _ => none
  ok v x h := by
    split at h <;> (try (cases h; done))
    simp only[qsI]at h; subst h; exact⟨λ_=>rfl,rfl⟩
structure Pt where
 cell:Int
 lay:Lay
instance : QA Pt where
  ks := [.int .i64,.int .i64,.int .i64]
  enc p j := match j with
    | 0 => p.cell
    | 1 => p.lay.piece
    | _ => p.lay.turn
  dec f := ⟨f 0,⟨f 1,f 2⟩⟩
  ok _ := rfl
def QAj(id:Nat)(L:List Lay):Nat×Blk:=(id,.frz kB L.length λi=>QA.enc (L.getD i ⟨0,0⟩))
def brC:List AV:=Kb d++[.map 201,.slz 210 0 n (.of 0)]
def brR:List (Nat×Blk):=(200,.cellsR 0 152 (brC d n))::Qo.blk 0 d.ps
def KR(a b:Int):Bool:=(Kq (d.ps.get a.toNat) b.toNat).kind==0
def flU(a b:Int):UC:=⟨0,⟨2,[(0,.ptr 200 0 0),(1,.agg [.int false .i64 a,.int false .i64 b])],brR d n,216⟩,λ_=>.bool false (KR d a b),λ_=>[]⟩
def tnV:Int:=cond (d.turn&&decide (0<a)) 4 1
def tnU:UC:=⟨0,⟨2,[(0,.ptr 200 0 0),(1,.int false .i64 a)],brR d n,216⟩,λ_=>.int false .i64 (tnV d a),λ_=>[]⟩
theorem Qbp(a b:Int):VZ (mkF prog KK) (hnd (mkF prog KK) 1) f137 (flU d n a b)=QC.need (decide ((0:Int)<=a/\a<(↑d.ps.n:Int))&&decide (d.ps.n<=d.ps.n)) (QC.need (decide ((0:Int)<=b/\b<(4:Int))) (QC.br (decide (b=(0:Int))) (QC.need (decide (a.toNat<d.ps.n)) (QC.leaf (AV.bool false ((d.ps.get a.toNat).up.kind==(0:Int))) ([]))) (QC.br (decide (b=(1:Int))) (QC.need (decide (a.toNat<d.ps.n)) (QC.leaf (AV.bool false ((d.ps.get a.toNat).right.kind==(0:Int))) ([]))) (QC.br (decide (b=(2:Int))) (QC.need (decide (a.toNat<d.ps.n)) (QC.leaf (AV.bool false ((d.ps.get a.toNat).down.kind==(0:Int))) ([]))) (QC.need (decide (a.toNat<d.ps.n)) (QC.leaf (AV.bool false ((d.ps.get a.toNat).left.kind==(0:Int))) ([]))))))):=by kernel_rfl
theorem Qey(a b:Int)(c v:Bool):QF 216 [.bool c v] [] (KX (flU d n a b))=( some [v=KR d a b]):=by kernel_rfl
theorem QYk:VZ (mkF prog KK) (hnd (mkF prog KK) 1) f52 (tnU d n a)=QC.br (d.turn) (QC.br (decide (a>(0:Int))) (QC.leaf (vj (4:Int)) ([])) (QC.leaf (vj (1:Int)) ([]))) (QC.leaf (vj (1:Int)) ([])):=by kernel_rfl
theorem QeQ(a v:Int)(c:Bool):QF 216 [.int c .i64 v] [] (KX (tnU d n a))=( some [v=tnV d a]):=by kernel_rfl
theorem QMQ(a b:Int)(h1:0<=a)(h2:a<d.ps.n)(h3:0<=b)(h4:b<4):QQ prog 137 (uFC (flU d n a b)):=by
 refine K4 (E:=mkF prog KK) (Kl JO) (c:=Qk f137) func137 (by kernel_rfl) (by kernel_rfl) (QRq (Nat.zero_le _) rfl rfl λ_=>rfl) (λG h1 _=>Qw (Kl JO) 1 G _ h1) ⟨?_⟩
 refine Qe (Qbp d n a b) ?_;have fin:∀(v:Bool),v=KR d a b->(QC.leaf (.bool false v) []).den (jH (flU d n a b)):=λv h=>⟨rfl,rfl,_,Qey d n a b false v,⟨h,trivial⟩⟩
 iterate 2 (refine QG ?_ ?_;rotate_left)
 refine QE (λb0=>?_) (λb0=>?_);refine QG ?_ ?_;rotate_left
 .obtain rfl:b=0:=qdt b0;exact fin _ rfl
 refine QE (λb1=>?_) (λb1=>?_);refine QG ?_ ?_;rotate_left
 .obtain rfl:b=1:=qdt b1;exact fin _ rfl
 refine QE (λb2=>?_) (λb2=>?_);refine QG ?_ ?_;rotate_left
 .obtain rfl:b=2:=qdt b2;exact fin _ rfl
 refine QG ?_ ?_;rotate_left
 .obtain rfl:b=3:=by
   have h0:=qdf b0;have h1:=qdf b1;have h2:=qdf b2;omega
  exact fin _ rfl
 all_goals simp;omega
theorem Yg:QQ prog 52 (uFC (tnU d n a)):=by
 refine K4 (E:=mkF prog KK) (Kl JO) (c:=Qk f52) func52 (by kernel_rfl) (by kernel_rfl) (QRq (Nat.zero_le _) rfl rfl λ_=>rfl) (λG h1 _=>Qw (Kl JO) 1 G _ h1) ⟨?_⟩
 refine Qe (QYk d n a) ?_;have fin:∀(v:Int),v=tnV d a->(QC.leaf (.int true .i64 v) []).den (jH (tnU d n a)):=λv h=>⟨rfl,rfl,_,QeQ d n a v true,⟨h,trivial⟩⟩;refine QE (λb0=>?_) (λb0=>?_);refine QE ?_ ?_<;>intro b1
 .refine fin _ ?_;have:decide (0<a)=true:=b1;rw[tnV,b0,this];rfl
 .refine fin _ ?_;have:decide (0<a)=false:=b1;rw[tnV,b0,this];rfl
 .refine fin _ ?_;rw[tnV,b0];rfl
def ZR(K:Rw Pt)(c:Int)(x:Lay)(k:Nat):Bool:=((K.get k).cell==c && !((K.get k).lay.piece==x.piece&&(K.get k).lay.turn==x.turn))||((K.get k).lay.piece==x.piece && !((K.get k).cell==c))
def Qs(K:Rw Pt)(c:Int)(x:Lay):Bool:=(QR (ZR K c x) K.n 0).isNone
def alJ(K:Rw Pt)(c:Int)(x:Lay)(k:Nat):JSt:=⟨40,[(1,.int false .i64 c),(5,.ptr 8 0 0),(9,.slz 0 0 K.n (.of 0)),(10,.int false .i64 K.n),(11,.int false .i64 k)],[(8,.cells 0 49 (Enc.enc x).cells)]++Qo.blk 0 K,48⟩
def QHT:JSt:=⟨40,[(6,.bool false false)],[],48⟩
def QIv:JSt:=⟨40,[],[],48⟩
def QNb:Ex->List Nat
 | .normal=>[1,5,9,10,11]
 | .exit _=>[]
 | .ret=>[6]
theorem Qbr(K:Rw Pt)(c:Int)(x:Lay)(k:Nat)(g:Nat->Value):exec (mkS prog KK) (hnd (mkS prog KK) 1) (QJ f104 0) (JSt.inst (alJ K c x k) g) (KD [] QNb) = .br (decide ((k:Int)<(K.n:Int))) (.need (decide ((0:Int)<=(k:Int)/\(k:Int)<(K.n:Int))&&decide (K.n<=K.n)) (.need (decide (k<K.n)) (.need (!(K.get k).cell==c||(K.get k).cell==c) (.need (!(K.get k).cell==c||(K.get k).cell==c&&(K.get k).cell==c) (.need (!(K.get k).cell==c||(K.get k).cell==c) (.bnd ((K.get k).cell==c&&!((K.get k).lay.piece==x.piece&&((K.get k).lay.turn==x.turn&&true))) (λ(x0:Bool)=>.need (!!x0||!x0) (.need (!!x0||!x0) (.need (!!x0||!x0) (.need (!!x0||!x0&&!x0) (.need (!!x0||!x0) (.need (!(!x0&&(K.get k).lay.piece==x.piece)||!x0&&(K.get k).lay.piece==x.piece) (.need (!(!x0&&(K.get k).lay.piece==x.piece)||!x0&&(K.get k).lay.piece==x.piece&&(!x0&&(K.get k).lay.piece==x.piece)) (.need (!!x0||!x0&&(!(K.get k).lay.piece==x.piece||!x0&&(K.get k).lay.piece==x.piece)) (.bnd ((K.get k).lay.piece==x.piece&&(K.get k).cell != c) (λ(x1:Bool)=>.need (x0||!x0) (.bnd (x0||x1) (λ(x2:Bool)=>.br (x2) (.leaf (.tup [.nili,.ptr 40 0 0,.bool true false]) ([])) (.leaf (.tup [.nilp,.ptr 40 0 0,vi c,.ptr 8 0 0,.slz 0 0 K.n cO,vi (K.n:Int),vi (i64.wrap ((k:Int)+1))]) ([(8,.cells 0 49 [vi x.piece,vi x.turn]),(0,.frz (wbI) K.n λi=>QA.enc (K.get i))])))))))))))))))))))) (.leaf (.tup [.ptr 0 0 0,.ptr 40 0 0]) ([])):=by kernel_rfl
theorem QXV :QF 8 [AV.bool true false] ([]) QHT=( some [false=false]):=by kernel_rfl
abbrev wbe(x:Lay):List Prop:=[x.piece=x.piece,x.turn=x.turn]
theorem QcV(K:Rw Pt)(c:Int)(x:Lay)(k k':Nat):QF 8 [vi c,AV.ptr (8:Nat) (0:Nat) (0:Nat),AV.slz (0:Nat) (0:Nat) K.n cO,vi (↑K.n:Int),vi (i64.wrap ((↑k:Int)+(1:Int)))] ([((8:Nat),Blk.cells (0:Nat) (49:Nat) [vi x.piece,vi x.turn]),((0:Nat),Blk.frz [CK.int i64,CK.int i64,CK.int i64] K.n λi=>QA.enc (K.get i))]) (alJ K c x k')=( some ([c=c,0=0,0=0,0=0,K.n=K.n,cO=cO,(↑K.n:Int)=(↑K.n:Int),i64.wrap ((↑k:Int)+(1:Int))=(↑k':Int)]++wbe x++[K.n<=K.n,QB (3:Nat) K.n (λi=>QA.enc (K.get i)) λi=>QA.enc (K.get i)])):=by kernel_rfl
theorem Qfp :QF 8 [] ([]) QIv=( some []):=by kernel_rfl
def alR(K:Rw Pt)(c:Int)(x:Lay)(k:Nat)(e:Ex)(J:JSt):Prop:=(e = .ret/\(QR (ZR K c x) (K.n-k) k).isNone=false/\J=QHT)∨(e = .exit 0/\(QR (ZR K c x) (K.n-k) k).isNone=true/\J=QIv)
theorem QfK(K:Rw Pt)(c:Int)(x:Lay)(hn:K.n<=1000):J1 (alJ K c x) (λk=>k<=K.n) (λk=>K.n-k) (alR K c x) 8 QNb [] (mkS prog KK) (λ_=>hnd (mkS prog KK) 1) (QJ f104 0):=by
 refine⟨λk g0 hk=>Qe (Qbr K c x k g0) ?_⟩;have hk:k<=K.n:=hk;refine QE (λb0=>?_) (λb0=>?_);have h:k<K.n:=by have:=qdt b0;omega
 have hf:=JU (p:=ZR K c x) h
 iterate 5 (refine QG ?_ ?_;rotate_left)
 refine Jr λz0 y0=>?_
 iterate 8 (refine QG ?_ ?_;rotate_left)
 refine Jr λz1 y1=>?_;refine QG ?_ ?_;rotate_left;refine Jr λz2 y2=>?_;refine QE ?_ ?_<;>intro b1
 .have hb:ZR K c x k=true:=by rw[<-b1,y2,y1,y0,ZR];simp[bne]
  exact⟨_,.inl ⟨rfl,by rw[hf.1 hb];rfl,rfl⟩,rfl,rfl,_,QXV,⟨rfl,trivial⟩⟩
 have hb:ZR K c x k=false:=by rw[<-b1,y2,y1,y0,ZR];simp[bne]
 refine⟨k+1,h,by show K.n-(k+1)<K.n-k;omega,λe J h=>by unfold alR at h ⊢;rw[hf.2 hb];exact h,rfl,rfl,_,QcV K c x k (k+1),?_⟩
 rotate_left
 .have h:K.n<=k:=by have:=qdf b0;omega
  exact⟨_,.inr ⟨rfl,by rw[show K.n-k=0 by omega];rfl,rfl⟩,rfl,rfl,_,Qfp,trivial⟩
 all_goals first|((with_reducible show _=true);(first|rfl|(simp at b0 ⊢;omega)|grind))|(repeat' first|with_reducible refine QN ?_ ?_|exact tv|exact qRr|exact VJ h hn|refine aI ?_ ?_)
def alX(K:Rw Pt)(c:Int)(x:Lay):List (Prop×Ex×JSt):=[(Qs K c x=false,.ret,QHT),(Qs K c x=true,.exit 0,QIv)]
abbrev alH(P:Program)(K:Rw Pt)(c:Int)(x:Lay):Hnd:={ hnd (mkS P KK) 1 with loop:=λ_=>J9 (K.n<=1000) (KJ 8 [] (alJ K c x (0:Nat)) (alX K c x)) }
theorem QcP(K:Rw Pt)(c:Int)(x:Lay)(G:Ctx)(hrd:G.rd=none)(hG:G.n=8):Q1 (mkS prog KK) G (alH prog K c x) (Qk f104):=by
 refine Kk (body:=QJ f104 0) (vp JO) hrd (by kernel_rfl) ?_
 refine Vy λhl=>?_;refine V7 (n0:=8) (vp JO) (by omega) (λs hs=>Qw (vp JO) 1 G _ hrd) (λs hs=>(by decide:8<=48)) ?_ (QfK K c x hl) (s0:=0) (Nat.zero_le _) ?_
 .rintro s e J (⟨_,_,rfl⟩|⟨_,_,rfl⟩)<;>exact(by decide:8<=48)
 .rintro e J (⟨rfl,h,rfl⟩|⟨rfl,h,rfl⟩)
  .exact⟨_,qmc,h,rfl,rfl⟩
  .exact⟨_,List.mem_cons_of_mem _ qmc,h,rfl,rfl⟩
def QBb:WF ((Rw Pt)×Int×Lay×Unit):=λ|(K,(c,(x,_)))=>(decide (K.n<=1000),.bool false (Qs K c x),[])
def QO3:FC:=wFC QBb
theorem QcI(K:(Rw Pt))(c:Int)(x:Lay):Kf (mkS prog KK) (alH prog K c x) f104 (QX.vals 0 ((K,c,x,()):(Rw Pt)×Int×Lay×Unit)) (QX.blks 0 ((K,c,x,()):(Rw Pt)×Int×Lay×Unit)) 8=QC.ask (K.n<=(1000:Nat)) (QC.ask (c=c) (QC.ask (0=0) (QC.ask (0=0) (QC.ask (0=0) (QC.ask (K.n=K.n) (QC.ask (cO=cO) (QC.ask ((↑K.n:Int)=(↑K.n:Int)) (QC.ask ((0:Int)=(0:Int)) (QC.ask (x.piece=x.piece) (QC.ask (x.turn=x.turn) (QC.ask (K.n<=K.n) (QC.ask (QB (3:Nat) K.n (λi=>QA.enc (K.get i)) λi=>QA.enc (K.get i)) (QC.both (QC.asm (Qs K c x=false) (QC.all (λ(g0:Nat->Value)=>QC.leaf (AV.bool false false) ([])))) (QC.asm (Qs K c x=true) (QC.all (λ(g1:Nat->Value)=>QC.leaf (AV.bool true true) ([]))))))))))))))))):=by kernel_rfl
theorem Qew:JP (mkS prog KK) (Qk f104) 8 QBb (λx_=>(alH prog x_.1 x_.2.1 x_.2.2.1)):=by
 refine⟨?_⟩;rintro⟨K,⟨c,⟨x,⟨⟩⟩⟩⟩ hp G h1 h2;exact QcP K c x G h1 h2
theorem Qfz:JN (mkS prog KK) f104 8 QBb (λx_=>(alH prog x_.1 x_.2.1 x_.2.2.1)):=by
 refine⟨?_⟩;rintro⟨K,⟨c,⟨x,⟨⟩⟩⟩⟩ hp;refine⟨⟨rfl,by simp[QBb],rfl⟩,⟨?_⟩⟩
 rw[QcI K c x];simp only[QBb]at hp;have hp:=qdt hp
 iterate 13 refine Q2 (by first|exact tv|exact hp|exact qRr) ?_
 refine Km ?_ ?_;refine Qh λa0=>?_;refine Qj λg0=>?_
 .exact KY a0.symm rfl
 refine Qh λa1=>?_;refine Qj λg1=>?_
 .exact KY a1.symm rfl
theorem QXc:QQ prog 104 QO3:=
 JW (vp JO) func104 (by kernel_rfl) (by kernel_rfl) (by decide) Qew Qfz
def Wf:Tab:=QZ KK 104 QO3
theorem QH7:Qc Wf:=JO.add QXc
def onS(x:Lay)(s:Int):Int:=(s+4-x.turn).tmod 4
def QBq:WF (Lay×Int×Unit):=λ|(x,(s,_))=>(decide ((0<=x.turn/\x.turn<=3)/\0<=s/\s<=3),.agg [vi x.piece,vi (onS x s)],[])
def QN5:FC:=wFC QBq
theorem QWU(x:Lay)(s:Int):Kf (mkE prog Wf) (hnd (mkE prog Wf) 1) f134 (QX.vals 0 ((x,s,()):Lay×Int×Unit)) (QX.blks 0 ((x,s,()):Lay×Int×Unit)) 8=QC.leaf (AV.agg [vi x.piece,vi ((i64.wrap (i64.wrap (s+(4:Int))-x.turn)).tmod (4:Int))]) ([]):=by kernel_rfl
theorem QXF:JP (mkE prog Wf) (Qk f134) 8 QBq (λx_=>(hnd (mkE prog Wf) 1)):=by
 refine⟨?_⟩;rintro⟨x,⟨s,⟨⟩⟩⟩ hp G h1 h2;exact Qw (QP QH7) 1 G _ h1
theorem Qdp:JN (mkE prog Wf) f134 8 QBq (λx_=>(hnd (mkE prog Wf) 1)):=by
 refine⟨?_⟩;rintro⟨x,⟨s,⟨⟩⟩⟩ hp;refine⟨⟨rfl,by simp[QBq],rfl⟩,⟨?_⟩⟩
 rw[QWU x s];simp only[QBq]at hp;have hp:=qdt hp
 .refine KY ?_ rfl
  have:(i64.wrap (i64.wrap (s+4)-x.turn)).tmod 4=onS x s:=by
   rw[w64 (n:=s+4) (by omega) (by omega),w64 (by omega) (by omega)];rfl
  rw[this];exact⟨⟨rfl,rfl⟩,⟨rfl,rfl⟩,trivial⟩
theorem Qan:QQ prog 134 QN5:=
 JW (QP QH7) func134 (by kernel_rfl) (by kernel_rfl) (by decide) QXF Qdp
def QU:Tab:=QZ Wf 134 QN5
theorem Qd:Qc QU:=QH7.add Qan
def Qi(c:Nat):Int:=(c:Int).tdiv d.wide
def Qy(c:Nat):Int:=(c:Int).tmod d.wide
def QV(c:Nat):Nat->Bool
 | 0=>Qi d c==0
 | 1=>Qy d c==d.wide-1
 | 2=>Qi d c==d.high-1
 | _=>Qy d c==0
def Kr(c:Nat)(x:Lay)(s:Nat):Bool:=QV d c s && !KR d x.piece (onS x s)
def QGa(L:List Lay):List (Nat×Blk):=(200,.cellsR 0 152 (brC d L.length))::QAj 210 L::(201,.mp E.1 E.2)::Qo.blk 0 d.ps
def myJ(L:List Lay)(x:Lay)(s:Nat):JSt:=⟨113,[(0,.ptr 200 0 0),(3,.ptr 216 0 0),(5,.int false .i64 L.length),(6,.int false .i64 (Qi d L.length)),(7,.int false .i64 (Qy d L.length)),(49,.agg [.bool false (QV d L.length 0),.bool false (QV d L.length 1),.bool false (QV d L.length 2),.bool false (QV d L.length 3)]),(50,.int false .i64 s)],(216,.cells 0 49 (Enc.enc x).cells)::QGa d E L,224⟩
def zh:JSt:=⟨113,[(4,.bool false false)],[(201,.mp E.1 E.2)],224⟩
def QHl(L:List Lay)(x:Lay):JSt:=⟨113,[(0,.ptr 200 0 0),(3,.ptr 216 0 0),(5,.int false .i64 L.length),(6,.int false .i64 (Qi d L.length)),(7,.int false .i64 (Qy d L.length))],(216,.cells 0 49 (Enc.enc x).cells)::QGa d E L,224⟩
def QLT:Ex->List Nat
 | .normal=>[0,3,5,6,7,49,50]
 | .exit _=>[0,3,5,6,7]
 | .ret=>[4]
def HG(pb:List Prop->Bool)(U:UC):Tab:=QZ QU 137 (KI pb U)
abbrev QFL(L:List Lay)(d:Puz)(s:Nat)(x:Lay):List Prop:=([0=0,0=0,x.piece=x.piece,onS x (s:Int)=onS x (s:Int)]++waa d++([cO=cO,0=0,L.length=L.length,cO=cO]++wad d))
abbrev We(L:List Lay)(d:Puz):List AV:=[.bool false (QV d L.length 0),.bool false (QV d L.length 1),.bool false (QV d L.length 2),.bool false (QV d L.length 3)]
abbrev wap(L:List Lay)(d:Puz):List AV:=[vi (L.length:Int),vi (Qi d L.length),vi (Qy d L.length)]
abbrev QPS(L:List Lay)(d:Puz):List AV:=(.nilp::.ptr 113 0 0::.ptr 200 0 0::.ptr 216 0 0::List.append (wap L d) ([.agg (We L d),.int true .i64 1]))
abbrev VL(L:List Lay)(d:Puz)(x:Lay):List (Nat×Blk):=[(201,.mp E.1 E.2),(200,.cellsR 0 152 (List.append (wbF d) ((.int false .i64 d.pK.dK.hi::vi d.wide::vi d.high::List.append (wbS d) ([.map 201,.slz 210 0 L.length cO]))))),(216,.cells 0 49 [.int false .i64 x.piece,vi x.turn]),(0,.frz (wae) d.ps.n λi=>QA.enc (d.ps.get i)),(210,.frz kB L.length λi=>QA.enc (L.getD i (Lay.mk (0:Int) (0:Int))))]
abbrev QKW(L:List Lay)(d:Puz):List AV:=(.nilp::.ptr 113 0 0::.ptr 200 0 0::.ptr 216 0 0::List.append (wap L d) ([.agg (We L d),.int true .i64 2]))
abbrev QMe(L:List Lay)(d:Puz):List AV:=(.nilp::.ptr 113 0 0::.ptr 200 0 0::.ptr 216 0 0::List.append (wap L d) ([.agg (We L d),.int true .i64 3]))
abbrev QQ6(L:List Lay)(d:Puz):List AV:=(.nilp::.ptr 113 0 0::.ptr 200 0 0::.ptr 216 0 0::List.append (wap L d) ([.agg (We L d),.int true .i64 4]))
abbrev wbn:List AV:=[.nili,.ptr 113 0 0,.bool true false]
theorem QhO(pb:List Prop->Bool)(d:Puz)(E:ECt)(L:List Lay)(x:Lay)(s:Nat)(g:Nat->Value):exec (mkF prog (HG pb (flU d L.length x.piece (onS x s)))) (hnd (mkF prog (HG pb (flU d L.length x.piece (onS x s)))) 1) (QJ f105 0) (JSt.inst (myJ d E L x s) g) (KD [201] QLT) = .br (decide ((s:Int)<4)) (.need (decide ((0:Int)<=(s:Int)/\(s:Int)<4)) (.br (decide ((s:Int)=0)) (.br (QV d L.length 0) (.need (true&&(true&&true)&&decide (((0:Int)<=x.turn/\x.turn<=3)/\(0:Int)<=(s:Int)/\(s:Int)<=3)) (.need (pb ((QFL L d s x))) (.br (!KR d x.piece (onS x (s:Int))) (.leaf (.tup (wbn)) ([(201,.mp E.1 E.2)])) (.leaf (.tup (QPS L d)) ((VL E L d x)))))) (.leaf (.tup (QPS L d)) ((VL E L d x)))) (.br (decide ((s:Int)=1)) (.br (QV d L.length 1) (.need (true&&(true&&true)&&decide (((0:Int)<=x.turn/\x.turn<=3)/\(0:Int)<=(s:Int)/\(s:Int)<=3)) (.need (pb ((QFL L d s x))) (.br (!KR d x.piece (onS x (s:Int))) (.leaf (.tup (wbn)) ([(201,.mp E.1 E.2)])) (.leaf (.tup (QKW L d)) ((VL E L d x)))))) (.leaf (.tup (QKW L d)) ((VL E L d x)))) (.br (decide ((s:Int)=2)) (.br (QV d L.length 2) (.need (true&&(true&&true)&&decide (((0:Int)<=x.turn/\x.turn<=3)/\(0:Int)<=(s:Int)/\(s:Int)<=3)) (.need (pb ((QFL L d s x))) (.br (!KR d x.piece (onS x (s:Int))) (.leaf (.tup (wbn)) ([(201,.mp E.1 E.2)])) (.leaf (.tup (QMe L d)) ((VL E L d x)))))) (.leaf (.tup (QMe L d)) ((VL E L d x)))) (.br (QV d L.length 3) (.need (true&&(true&&true)&&decide (((0:Int)<=x.turn/\x.turn<=3)/\(0:Int)<=(s:Int)/\(s:Int)<=3)) (.need (pb ((QFL L d s x))) (.br (!KR d x.piece (onS x (s:Int))) (.leaf (.tup (wbn)) ([(201,.mp E.1 E.2)])) (.leaf (.tup (QQ6 L d)) ((VL E L d x)))))) (.leaf (.tup (QQ6 L d)) ((VL E L d x)))))))) (.leaf (.tup (.ptr 0 0 0::.ptr 113 0 0::.ptr 200 0 0::.ptr 216 0 0::wap L d)) ((VL E L d x))):=by kernel_rfl
theorem QhC:QF 216 [AV.bool true false] ([((201:Nat),Blk.mp E.1 E.2)]) (zh E)=( some [false=false,E.1=E.1,E.2=E.2]):=by kernel_rfl
abbrev QQD(L:List Lay)(d:Puz):List AV:=(.ptr 200 0 0::.ptr 216 0 0::List.append (wap L d) ([.agg (We L d),vj 1]))
abbrev waj(E:ECt)(L:List Lay):List Prop:=[L.length=L.length,cO=cO,L.length<=L.length,QB 2 L.length (λi=>QA.enc (L.getD i (Lay.mk (0:Int) (0:Int)))) λi=>QA.enc (L.getD i (Lay.mk (0:Int) (0:Int))),E.1=E.1,E.2=E.2]
abbrev wbf(L:List Lay)(d:Puz):List Prop:=[(L.length:Int)=(L.length:Int),Qi d L.length=Qi d L.length,Qy d L.length=Qy d L.length]
abbrev wbW(L:List Lay)(d:Puz):List Prop:=[QV d L.length 0=QV d L.length 0,QV d L.length 1=QV d L.length 1,QV d L.length 2=QV d L.length 2,QV d L.length 3=QV d L.length 3]
abbrev QNX(L:List Lay)(d:Puz)(s':Nat)(x:Lay):List Prop:=((([0=0,0=0,0=0,0=0]++wbf L d++(wbW L d++[(1:Int)=(s':Int)]))++wbe x)++waa d++(([cO=cO,0=0]++waj E L)++wad d))
theorem QVw(L:List Lay)(x:Lay)(s':Nat):QF 216 (QQD L d) ((VL E L d x)) (myJ d E L x s')=(some (QNX E L d s' x)):=by kernel_rfl
theorem QgD(L:List Lay)(x:Lay)(s':Nat):QF 216 (QQD L d) ((VL E L d x)) (myJ d E L x s')=(some (QNX E L d s' x)):=by kernel_rfl
theorem QVT:QF 216 [AV.bool true false] ([((201:Nat),Blk.mp E.1 E.2)]) (zh E)=( some [false=false,E.1=E.1,E.2=E.2]):=by kernel_rfl
abbrev QM8(L:List Lay)(d:Puz):List AV:=(.ptr 200 0 0::.ptr 216 0 0::List.append (wap L d) ([.agg (We L d),vj 2]))
abbrev wal(L:List Lay)(d:Puz):List Prop:=(wbf L d++(wbW L d))
abbrev QSu(L:List Lay)(d:Puz)(s':Nat)(x:Lay):List Prop:=(([0=0,0=0,0=0,0=0]++wal L d++([(2:Int)=(s':Int)]++wbe x))++waa d++(([cO=cO,0=0]++waj E L)++wad d))
theorem QcY(L:List Lay)(x:Lay)(s':Nat):QF 216 (QM8 L d) ((VL E L d x)) (myJ d E L x s')=(some (QSu E L d s' x)):=by kernel_rfl
theorem Qfe(L:List Lay)(x:Lay)(s':Nat):QF 216 (QM8 L d) ((VL E L d x)) (myJ d E L x s')=(some (QSu E L d s' x)):=by kernel_rfl
theorem Qc4:QF 216 [AV.bool true false] ([((201:Nat),Blk.mp E.1 E.2)]) (zh E)=( some [false=false,E.1=E.1,E.2=E.2]):=by kernel_rfl
abbrev QNO(L:List Lay)(d:Puz):List AV:=(.ptr 200 0 0::.ptr 216 0 0::List.append (wap L d) ([.agg (We L d),vj 3]))
abbrev QNa(L:List Lay)(d:Puz)(s':Nat)(x:Lay):List Prop:=(([0=0,0=0,0=0,0=0]++wal L d++([(3:Int)=(s':Int)]++wbe x))++waa d++(([cO=cO,0=0]++waj E L)++wad d))
theorem QaA(L:List Lay)(x:Lay)(s':Nat):QF 216 (QNO L d) ((VL E L d x)) (myJ d E L x s')=(some (QNa E L d s' x)):=by kernel_rfl
theorem QcK(L:List Lay)(x:Lay)(s':Nat):QF 216 (QNO L d) ((VL E L d x)) (myJ d E L x s')=(some (QNa E L d s' x)):=by kernel_rfl
theorem Qfq:QF 216 [AV.bool true false] ([((201:Nat),Blk.mp E.1 E.2)]) (zh E)=( some [false=false,E.1=E.1,E.2=E.2]):=by kernel_rfl
abbrev QLX(L:List Lay)(d:Puz):List AV:=(.ptr 200 0 0::.ptr 216 0 0::List.append (wap L d) ([.agg (We L d),vj 4]))
abbrev QRL(L:List Lay)(d:Puz)(s':Nat)(x:Lay):List Prop:=(([0=0,0=0,0=0,0=0]++wal L d++([(4:Int)=(s':Int)]++wbe x))++waa d++(([cO=cO,0=0]++waj E L)++wad d))
theorem Qfr(L:List Lay)(x:Lay)(s':Nat):QF 216 (QLX L d) ((VL E L d x)) (myJ d E L x s')=(some (QRL E L d s' x)):=by kernel_rfl
theorem QgR(L:List Lay)(x:Lay)(s':Nat):QF 216 (QLX L d) ((VL E L d x)) (myJ d E L x s')=(some (QRL E L d s' x)):=by kernel_rfl
theorem QZN(L:List Lay)(x:Lay):QF 216 (.ptr 200 0 0::.ptr 216 0 0::wap L d) ((VL E L d x)) (QHl d E L x)=( some ((([0=0,0=0,0=0,0=0]++wbf L d)++wbe x)++waa d++(([cO=cO,0=0]++waj E L)++wad d))):=by kernel_rfl
structure Q0 (d:Puz) (x:Lay):Prop where
 p:0<=x.piece/\x.piece<d.ps.n
 t:0<=x.turn/\x.turn<=3
theorem QD6{d:Puz}{x:Lay}(hx:Q0 d x)(s:Nat):0<=onS x s/\onS x s<4:=by
 have:=hx.t;have h1:=Int.tmod_nonneg 4 (show(0:Int)<=(s:Int)+4-x.turn by omega)
 have h2:=Int.tmod_lt_of_pos ((s:Int)+4-x.turn) (show(0:Int)<4 by decide)
 exact⟨h1,h2⟩
def zL(P:Program)(d:Puz)(L:List Lay)(x:Lay)(s:Nat):Env:=mkF P (HG QO (flU d L.length x.piece (onS x s)))
theorem QT2{d:Puz}{L:List Lay}{x:Lay}(hx:Q0 d x)(s:Nat):(zL prog d L x s).Sound:=
 Kl (Qd.add (QMQ d L.length x.piece (onS x s) hx.p.1 hx.p.2 (QD6 hx s).1 (QD6 hx s).2))
def myR(L:List Lay)(x:Lay)(s:Nat)(e:Ex)(J:JSt):Prop:=(e = .ret/\(QR (Kr d L.length x) (4-s) s).isNone=false/\J=zh E)∨(e = .exit 0/\(QR (Kr d L.length x) (4-s) s).isNone=true/\J=QHl d E L x)
set_option maxHeartbeats 4000000 in
theorem QYC(L:List Lay)(x:Lay)(hx:Q0 d x):Jm (myJ d E L x) (λs=>s<=4) (λs=>4-s) (myR d E L x) 216 QLT [201] (zL prog d L x) (λs=>hnd (zL prog d L x s) 1) (QJ f105 0):=by
 refine⟨λs g0 hk=>?_⟩;unfold zL;refine Qe (QhO QO d E L x s g0) ?_;have hk:s<=4:=hk;refine QE (λb0=>?_) (λb0=>?_);have h:s<4:=by have:=qdt b0;omega
 have hf:=JU (p:=Kr d L.length x) h;have ht:=hx.t;refine QG ?_ ?_;rotate_left;refine QE (λb1=>?_) (λb1=>?_);obtain rfl:s=0:=by have:=qdt b1;omega
 refine QE ?_ ?_<;>intro b2
 iterate 2 (refine QG ?_ ?_;rotate_left)
 refine QE ?_ ?_<;>intro b3
 .have hb:Kr d L.length x 0=true:=by show(QV d L.length 0 && !KR d x.piece (onS x _))=true;rw[b2];exact b3
  exact⟨_,.inl ⟨rfl,by rw[hf.1 hb];rfl,rfl⟩,rfl,rfl,_,QhC E,⟨rfl,rfl,rfl,trivial⟩⟩
 have hb:Kr d L.length x 0=false:=by show(QV d L.length 0 && !KR d x.piece (onS x _))=false;rw[b2];exact b3
 refine⟨1,by show 1<=4;omega,by show 4-1<4-0;omega,λe J h=>by unfold myR at h ⊢;rw[hf.2 hb];exact h,rfl,rfl,_,QVw d E L x 1,?_⟩
 rotate_left
 have hb:Kr d L.length x 0=false:=by show(QV d L.length 0 && !KR d x.piece (onS x _))=false;rw[b2];rfl
 refine⟨1,by show 1<=4;omega,by show 4-1<4-0;omega,λe J h=>by unfold myR at h ⊢;rw[hf.2 hb];exact h,rfl,rfl,_,QgD d E L x 1,?_⟩
 rotate_left
 refine QE (λb4=>?_) (λb4=>?_);obtain rfl:s=1:=by have:=qdt b4;omega
 refine QE ?_ ?_<;>intro b5
 iterate 2 (refine QG ?_ ?_;rotate_left)
 refine QE ?_ ?_<;>intro b6
 .have hb:Kr d L.length x 1=true:=by show(QV d L.length 1 && !KR d x.piece (onS x _))=true;rw[b5];exact b6
  exact⟨_,.inl ⟨rfl,by rw[hf.1 hb];rfl,rfl⟩,rfl,rfl,_,QVT E,⟨rfl,rfl,rfl,trivial⟩⟩
 have hb:Kr d L.length x 1=false:=by show(QV d L.length 1 && !KR d x.piece (onS x _))=false;rw[b5];exact b6
 refine⟨2,by show 2<=4;omega,by show 4-2<4-1;omega,λe J h=>by unfold myR at h ⊢;rw[hf.2 hb];exact h,rfl,rfl,_,QcY d E L x 2,?_⟩
 rotate_left
 have hb:Kr d L.length x 1=false:=by show(QV d L.length 1 && !KR d x.piece (onS x _))=false;rw[b5];rfl
 refine⟨2,by show 2<=4;omega,by show 4-2<4-1;omega,λe J h=>by unfold myR at h ⊢;rw[hf.2 hb];exact h,rfl,rfl,_,Qfe d E L x 2,?_⟩
 rotate_left
 refine QE (λb7=>?_) (λb7=>?_);obtain rfl:s=2:=by have:=qdt b7;omega
 refine QE ?_ ?_<;>intro b8
 iterate 2 (refine QG ?_ ?_;rotate_left)
 refine QE ?_ ?_<;>intro b9
 .have hb:Kr d L.length x 2=true:=by show(QV d L.length 2 && !KR d x.piece (onS x _))=true;rw[b8];exact b9
  exact⟨_,.inl ⟨rfl,by rw[hf.1 hb];rfl,rfl⟩,rfl,rfl,_,Qc4 E,⟨rfl,rfl,rfl,trivial⟩⟩
 have hb:Kr d L.length x 2=false:=by show(QV d L.length 2 && !KR d x.piece (onS x _))=false;rw[b8];exact b9
 refine⟨3,by show 3<=4;omega,by show 4-3<4-2;omega,λe J h=>by unfold myR at h ⊢;rw[hf.2 hb];exact h,rfl,rfl,_,QaA d E L x 3,?_⟩
 rotate_left
 have hb:Kr d L.length x 2=false:=by show(QV d L.length 2 && !KR d x.piece (onS x _))=false;rw[b8];rfl
 refine⟨3,by show 3<=4;omega,by show 4-3<4-2;omega,λe J h=>by unfold myR at h ⊢;rw[hf.2 hb];exact h,rfl,rfl,_,QcK d E L x 3,?_⟩
 rotate_left
 obtain rfl:s=3:=by
  have h1:=qdf b1;have h2:=qdf b4;have h3:=qdf b7;omega
 refine QE ?_ ?_<;>intro b10
 iterate 2 (refine QG ?_ ?_;rotate_left)
 refine QE ?_ ?_<;>intro b11
 .have hb:Kr d L.length x 3=true:=by show(QV d L.length 3 && !KR d x.piece (onS x _))=true;rw[b10];exact b11
  exact⟨_,.inl ⟨rfl,by rw[hf.1 hb];rfl,rfl⟩,rfl,rfl,_,Qfq E,⟨rfl,rfl,rfl,trivial⟩⟩
 have hb:Kr d L.length x 3=false:=by show(QV d L.length 3 && !KR d x.piece (onS x _))=false;rw[b10];exact b11
 refine⟨4,by show 4<=4;omega,by show 4-4<4-3;omega,λe J h=>by unfold myR at h ⊢;rw[hf.2 hb];exact h,rfl,rfl,_,Qfr d E L x 4,?_⟩
 rotate_left
 have hb:Kr d L.length x 3=false:=by show(QV d L.length 3 && !KR d x.piece (onS x _))=false;rw[b10];rfl
 refine⟨4,by show 4<=4;omega,by show 4-4<4-3;omega,λe J h=>by unfold myR at h ⊢;rw[hf.2 hb];exact h,rfl,rfl,_,QgR d E L x 4,?_⟩
 rotate_left
 obtain rfl:s=4:=by have:=qdf b0;omega
 refine⟨_,.inr ⟨rfl,rfl,rfl⟩,rfl,rfl,_,QZN d E L x,?_⟩
 rotate_left
 all_goals first|((with_reducible show _=true);(first|(refine Q9.2 ?_;repeat' first|exact tv|exact qRr|refine aI ?_ ?_)|(simp;omega)))|(repeat' first|with_reducible refine QN ?_ ?_|exact tv|exact qRr|exact rfl|refine aI ?_ ?_)
def YP(c:Nat)(x:Lay):Bool:=(QR (Kr d c x) 4 0).isNone
def myX(L:List Lay)(x:Lay):List (Prop×Ex×JSt):=[(YP d L.length x=false,.ret,zh E),(YP d L.length x=true,.exit 0,QHl d E L x)]
abbrev myH(P:Program)(d:Puz)(E:ECt)(L:List Lay)(x:Lay):Hnd:={ hnd (mkF P QU) 1 with loop:=λ_=>KJ 216 [201] (myJ d E L x (0:Nat)) (myX d E L x) }
theorem QfR(L:List Lay)(x:Lay)(hx:Q0 d x)(G:Ctx)(hrd:G.rd=none)(hG:G.n<=216):Q1 (mkF prog QU) G (myH prog d E L x) (Qk f105):=by
 refine Kk (body:=QJ f105 0) (Kl Qd) hrd (by kernel_rfl) ?_
 refine Jz (E0:=mkF prog QU) (E:=zL prog d L x) (H:=λs=>hnd (zL prog d L x s) 1) (n0:=216) (s0:=0) (λ_=>rfl) (QT2 hx) hG (λs _=>Qw (QT2 hx s) 1 G _ hrd) (λs _=>(by decide:216<=224)) ?_ (QYC d E L x hx) (Nat.zero_le _) ?_
 .rintro s e J (⟨_,_,rfl⟩|⟨_,_,rfl⟩)<;>exact(by decide:216<=224)
 .rintro e J (⟨rfl,h,rfl⟩|⟨rfl,h,rfl⟩)
  .exact⟨_,qmc,h,rfl,rfl⟩
  .exact⟨_,List.mem_cons_of_mem _ qmc,h,rfl,rfl⟩
def myU(L:List Lay)(x:Lay)(v:Bool):UC:=⟨208,⟨2,[(0,.ptr 200 0 0),(1,Enc.enc x)],QGa d E L,216⟩,λ_=>.bool false v,λ_=>[(201,.mp E.1 E.2)]⟩
abbrev waN(L:List Lay)(d:Puz):List Prop:=[(L.length:Int)=(L.length:Int),i64.wrap ((L.length:Int).tdiv d.wide)=Qi d L.length,(L.length:Int).tmod d.wide=Qy d L.length,(i64.wrap ((L.length:Int).tdiv d.wide)==0)=QV d L.length 0,((L.length:Int).tmod d.wide==i64.wrap (d.wide-1))=QV d L.length 1,(i64.wrap ((L.length:Int).tdiv d.wide)==i64.wrap (d.high-1))=QV d L.length 2,((L.length:Int).tmod d.wide==0)=QV d L.length 3]
theorem QW1(L:List Lay)(x:Lay)(v:Bool):VZ (mkF prog QU) (myH prog d E L x) f105 (myU d E L x v) = .need (!decide (d.wide=0)) (.need (!decide (d.wide=0)) (.ak [0=0,0=0,0=0,0=0,(L.length:Int)=(L.length:Int),i64.wrap ((L.length:Int).tdiv d.wide)=Qi d L.length,(L.length:Int).tmod d.wide=Qy d L.length,(i64.wrap ((L.length:Int).tdiv d.wide)==0)=QV d L.length 0,((L.length:Int).tmod d.wide==i64.wrap (d.wide-1))=QV d L.length 1,(i64.wrap ((L.length:Int).tdiv d.wide)==i64.wrap (d.high-1))=QV d L.length 2,((L.length:Int).tmod d.wide==0)=QV d L.length 3,(0:Int)=0,x.piece=x.piece,x.turn=x.turn,d.pK.length=d.pK.length,d.pK.aK=d.pK.aK,d.pK.oK=d.pK.oK,d.pK.dK.lo=d.pK.dK.lo,d.pK.dK.hi=d.pK.dK.hi,d.wide=d.wide,d.high=d.high,d.turn=d.turn,0=0,d.ps.n=d.ps.n,cO=cO,0=0,L.length=L.length,cO=cO,L.length<=L.length,QB 2 L.length (λi=>QA.enc (L.getD i (Lay.mk (0:Int) (0:Int)))) λi=>QA.enc (L.getD i (Lay.mk (0:Int) (0:Int))),E.1=E.1,E.2=E.2,d.ps.n<=d.ps.n,QB 28 d.ps.n (λi=>QA.enc (d.ps.get i)) λi=>QA.enc (d.ps.get i)] (.both (.asm (YP d L.length x=false) (.all (λ(g0:Nat->Value)=>.leaf (.bool false false) ([(201, .mp E.1 E.2)])))) (.asm (YP d L.length x=true) (.all (λ(g1:Nat->Value)=>.br (decide (Qi d L.length>0)) (.need (decide ((0:Int)<=i64.wrap ((L.length:Int)-d.wide)/\i64.wrap ((L.length:Int)-d.wide)<(L.length:Int))&&decide (L.length<=L.length)) (.need (decide ((i64.wrap ((L.length:Int)-d.wide)).toNat<L.length)) (.need (true&&(true&&true)&&decide (((0:Int)<=(L.getD (i64.wrap ((L.length:Int)-d.wide)).toNat (Lay.mk (0:Int) (0:Int))).turn/\(L.getD (i64.wrap ((L.length:Int)-d.wide)).toNat (Lay.mk (0:Int) (0:Int))).turn<=3)/\(0:Int)<=2/\(2:Int)<=3)) (.need (true&&(true&&true)&&decide (((0:Int)<=x.turn/\x.turn<=3)/\(0:Int)<=0/\(0:Int)<=3)) (.need (wf4 i64 E.1) (.br (KQ E.1 [(L.getD (i64.wrap ((L.length:Int)-d.wide)).toNat (Lay.mk (0:Int) (0:Int))).piece,onS (L.getD (i64.wrap ((L.length:Int)-d.wide)).toNat (Lay.mk (0:Int) (0:Int))) (2:Int),x.piece,onS x (0:Int)]==0) (.leaf (.bool true false) ([(201,.mp E.1 E.2)])) (.br (Qy d L.length==0) (.leaf (.bool true true) ([(201,.mp E.1 E.2)])) (.need (decide ((0:Int)<=i64.wrap ((L.length:Int)-1)/\i64.wrap ((L.length:Int)-1)<(L.length:Int))&&decide (L.length<=L.length)) (.need (decide ((i64.wrap ((L.length:Int)-1)).toNat<L.length)) (.need (true&&(true&&true)&&decide (((0:Int)<=(L.getD (i64.wrap ((L.length:Int)-1)).toNat (Lay.mk (0:Int) (0:Int))).turn/\(L.getD (i64.wrap ((L.length:Int)-1)).toNat (Lay.mk (0:Int) (0:Int))).turn<=3)/\(0:Int)<=1/\(1:Int)<=3)) (.need (true&&(true&&true)&&decide (((0:Int)<=x.turn/\x.turn<=3)/\(0:Int)<=3/\(3:Int)<=3)) (.need (wf4 i64 E.1) (.leaf (.bool false (KQ E.1 [(L.getD (i64.wrap ((L.length:Int)-1)).toNat (Lay.mk (0:Int) (0:Int))).piece,onS (L.getD (i64.wrap ((L.length:Int)-1)).toNat (Lay.mk (0:Int) (0:Int))) (1:Int),x.piece,onS x (3:Int)] != 0)) ([(201,.mp E.1 E.2)])))))))))))))) (.br (Qy d L.length==0) (.leaf (.bool true true) ([(201,.mp E.1 E.2)])) (.need (decide ((0:Int)<=i64.wrap ((L.length:Int)-1)/\i64.wrap ((L.length:Int)-1)<(L.length:Int))&&decide (L.length<=L.length)) (.need (decide ((i64.wrap ((L.length:Int)-1)).toNat<L.length)) (.need (true&&(true&&true)&&decide (((0:Int)<=(L.getD (i64.wrap ((L.length:Int)-1)).toNat (Lay.mk (0:Int) (0:Int))).turn/\(L.getD (i64.wrap ((L.length:Int)-1)).toNat (Lay.mk (0:Int) (0:Int))).turn<=3)/\(0:Int)<=1/\(1:Int)<=3)) (.need (true&&(true&&true)&&decide (((0:Int)<=x.turn/\x.turn<=3)/\(0:Int)<=3/\(3:Int)<=3)) (.need (wf4 i64 E.1) (.leaf (.bool false (KQ E.1 [(L.getD (i64.wrap ((L.length:Int)-1)).toNat (Lay.mk (0:Int) (0:Int))).piece,onS (L.getD (i64.wrap ((L.length:Int)-1)).toNat (Lay.mk (0:Int) (0:Int))) (1:Int),x.piece,onS x (3:Int)] != 0)) ([(201,.mp E.1 E.2)])))))))))))))):=by kernel_rfl
structure KB (d:Puz):Prop where
 n:d.ps.n<=1000
 w1:1<=d.wide
 wn:d.wide<=d.ps.n
 h1:1<=d.high
 hn:d.high<=d.ps.n
 wh:d.wide*d.high=d.ps.n
def atL(L:List Lay)(i:Int):Lay:=L.getD i.toNat ⟨0,0⟩
def Ve(p q:Lay)(s t:Int):Int:=KQ E.1 [p.piece,onS p s,q.piece,onS q t]
def Q3(L:List Lay)(x:Lay):Bool:=YP d L.length x&&((!decide (0<Qi d L.length) || !(Ve E (atL L ((L.length:Int)-d.wide)) x 2 0==0))&&(Qy d L.length==0||Ve E (atL L ((L.length:Int)-1)) x 1 3 != 0))
theorem QBv{d:Puz}(h:KB d)(c:Nat):0<=Qi d c/\Qi d c<=c:=by
 have:=h.w1;refine⟨Int.tdiv_nonneg (by omega) (by omega),?_⟩
 rw[Qi,Int.tdiv_eq_ediv_of_nonneg (by omega)]
 exact Int.ediv_le_self _ (by omega)
theorem QB8{d:Puz}(h:KB d){c:Nat}(hr:0<Qi d c):d.wide<=c:=by
 have:=h.w1;rw[Qi,Int.tdiv_eq_ediv_of_nonneg (by omega)]at hr
 have:=(Int.le_ediv_iff_mul_le (a:=1) (b:=(c:Int)) (c:=d.wide) (by omega)).1 (by omega)
 omega
theorem Gk{d:Puz}{c:Nat}(hr:(Qy d c==0)=false):1<=c:=by
 cases c with
 | zero=>simp[Qy]at hr
 | succ c=>omega
theorem Gy{d:Puz}{L:List Lay}(hL:∀ y∈L,Q0 d y){i:Int}(h1:0<=i)(h2:i<L.length):Q0 d (atL L i):=by
 have h:i.toNat<L.length:=by omega
 exact hL _ (by rw[atL,K8 h];exact List.getElem_mem h)
theorem QdG(L:List Lay)(x:Lay)(v b:Bool)(k:Bool)(h:v=b):(QC.leaf (.bool k v) [(201,.mp E.1 E.2)]).den (jH (myU d E L x b)):=⟨rfl,rfl,_,by cases k<;>rfl,by subst h;exact⟨rfl,rfl,rfl,trivial⟩⟩
theorem Qge(L:List Lay)(x:Lay)(v:Bool):(myU d E L x v).Ok:=by
 refine⟨(by decide:208<=216),rfl,rfl,?_,rfl,λ_ _=>rfl,λnid h=>rfl⟩
 intro q hq;simp only[UC.po,myU,List.mem_cons,List.not_mem_nil,or_false]at hq;subst hq;exact⟨rfl,rfl,rfl,λ_=>rfl⟩
theorem QCM(L:List Lay)(x:Lay)(hd:KB d)(hE:WfE E)(hl:L.length<=1000)(hL:∀ y∈L,Q0 d y)(hx:Q0 d x):QQ prog 105 (uFC (myU d E L x (Q3 d E L x))):=by
 refine K4 (E:=mkF prog QU) (Kl Qd) func105 (by kernel_rfl) (by kernel_rfl) (Qge ..) (λG h1 h2=>QfR d E L x hx G h1 (by rw[h2];exact qlr _)) ⟨?_⟩
 have fin:∀(v k:Bool),v=Q3 d E L x->(QC.leaf (.bool k v) [(201,.mp E.1 E.2)]).den (jH (myU d E L x (Q3 d E L x))):=λv k h=>QdG d E L x v _ k h;have hw1:=hd.w1;have hwn:=hd.wn;have hh1:=hd.h1;have hhn:=hd.hn;have hn:=hd.n;have hr:=QBv hd L.length;have ht:=hx.t;have hE:wf4 .i64 E.1=true:=hE;have wr:i64.wrap ((L.length:Int).tdiv d.wide)=Qi d L.length:=w64 (by have:=hr.1;unfold Qi at this;omega) (by have:=hr.2;unfold Qi at this;omega)
 have ww:i64.wrap (d.wide-1)=d.wide-1:=w64 (by omega) (by omega)
 have wh:i64.wrap (d.high-1)=d.high-1:=w64 (by omega) (by omega)
 have wu:i64.wrap ((L.length:Int)-d.wide)=(L.length:Int)-d.wide:=w64 (by omega) (by omega)
 have wl:i64.wrap ((L.length:Int)-1)=(L.length:Int)-1:=w64 (by omega) (by omega)
 generalize hv:Q3 d E L x=v at fin;refine Qe (QW1 d E L x v) ?_;rw[wr,ww,wh,wu,wl]
 iterate 2 (refine QG ?_ ?_;rotate_left)
 iterate 34 refine Q2 (by first|exact tv|exact Nat.le_refl _|exact qRr|exact rfl) ?_
 refine Km ?_ ?_;refine Qh λa0=>?_;refine Qj λg0=>?_
 .refine fin _ _ ?_;rw[<-hv,Q3,a0];rfl
 refine Qh λa1=>?_;refine Qj λg1=>?_;refine QE (λb0=>?_) (λb0=>?_);have hcw:=QB8 hd (qdt b0);have hU:=(Gy hL (i:=(L.length:Int)-d.wide) (by omega) (by omega)).t
 iterate 5 (refine QG ?_ ?_;rotate_left)
 refine QE ?_ ?_<;>intro b1
 .refine fin _ _ ?_;rw[<-hv,Q3,a1,show decide (0<Qi d L.length)=true from b0,show(Ve E (atL L ((L.length:Int)-d.wide)) x 2 0==0)=true from b1];rfl
 refine QE ?_ ?_<;>intro b2
 .refine fin _ _ ?_;rw[<-hv,Q3,a1,show decide (0<Qi d L.length)=true from b0,show(Ve E (atL L ((L.length:Int)-d.wide)) x 2 0==0)=false from b1,b2];rfl
 have hc1:=Gk b2;have hV:=(Gy hL (i:=(L.length:Int)-1) (by omega) (by omega)).t
 iterate 5 (refine QG ?_ ?_;rotate_left)
 .refine fin _ _ ?_;rw[<-hv,Q3,a1,show decide (0<Qi d L.length)=true from b0,show(Ve E (atL L ((L.length:Int)-d.wide)) x 2 0==0)=false from b1,b2];rfl
 refine QE ?_ ?_<;>intro b3
 .refine fin _ _ ?_;rw[<-hv,Q3,a1,show decide (0<Qi d L.length)=false from b0,b3];rfl
 have hc1:=Gk b3;have hV:=(Gy hL (i:=(L.length:Int)-1) (by omega) (by omega)).t
 iterate 5 (refine QG ?_ ?_;rotate_left)
 .refine fin _ _ ?_;rw[<-hv,Q3,a1,show decide (0<Qi d L.length)=false from b0,b3];rfl
 all_goals first|exact hE|rfl|exact qde (show(0<=(atL L _).turn/\_)/\_ from⟨hU,by decide,by decide⟩)|exact qde (show(0<=(atL L _).turn/\_)/\_ from⟨hV,by decide,by decide⟩)|exact qde ⟨ht,by decide,by decide⟩|(simp;omega)
