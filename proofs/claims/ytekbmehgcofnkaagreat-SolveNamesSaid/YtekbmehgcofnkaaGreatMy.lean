/- - -/
import Derived.Test.YtekbmehgcofnkaaGreatMx
open Go.Proofs.Tryz
open Go.IntKind (i64)
set_option maxRecDepth 100000
namespace Go.Proofs.YtekbmehgcofnkaaGreat
open Go.SX Go.SX.Told
variable {p q:QX}{t:Nat}(d:Puz)(n:Nat)(E:ECt)(i:Nat)(a:Int)(k:Nat)
def meF(p q:QX)(s t:Nat):Int:=(JA d.pK (Y5 p s) (Y5 q t)).1
def QDH(i s k t:Nat)(n:Int)(E:ECt):ECt:=(JH [(i:Int),(s:Int),(k:Int),(t:Int)] (KQ i s k t) (.int .i64 n) E.2 E.1,clL [(i:Int),(s:Int),(k:Int),(t:Int)] E.2 E.1)
def stE(p q:QX)(i k s t:Nat)(E:ECt):ECt:=cond (((i:Int) != (k:Int))&&(meF d p q s t != 0)) (QDH i s k t (meF d p q s t) E) E
def m4(d:Puz)(p q:QX)(i k s:Nat)(E:ECt):Nat->ECt
 | 0=>E
 | t+1=>stE d p q i k s t (m4 d p q i k s E t)
def m3(d:Puz)(p q:QX)(i k:Nat)(E:ECt):Nat->ECt
 | 0=>E
 | s+1=>m4 d p q i k s (m3 d p q i k E s) 4
def m2(d:Puz)(p:QX)(i:Nat)(E:ECt):Nat->ECt
 | 0=>E
 | k+1=>m3 d p (d.ps.get k) i k (m2 d p i E k) 4
def m1(d:Puz):Nat->ECt
 | 0=>([],0)
 | i+1=>m2 d (d.ps.get i) i (m1 d i) d.ps.n
def WfE:Prop:=wf4 .i64 E.1=true
theorem Qdq{es:List MapEntry}(h:wf4 .i64 es=true)(a b c d n:Int):∀ i,wf4 .i64 (VO (KQ a b c d) (.int .i64 n) es i)=true:=by
 induction es with
 | nil=>intro i;cases i<;>rfl
 | cons e es ih=>
  simp only[wf4,List.all_cons,qbA]at h;intro i;cases i with
  | zero=>simp only[VO,wf4,List.all_cons,qbA];exact⟨⟨rfl,rfl⟩,h.2⟩
  | succ i=>
   have:=ih h.2 i;simp only[wf4]at this;simp only[VO,wf4,List.all_cons,qbA];exact⟨h.1,this⟩
theorem QMk{E:ECt}(h:WfE E)(i s k t:Nat)(n:Int):WfE (QDH i s k t n E):=by
 show wf4 .i64 (JH _ _ _ E.2 E.1)=true;unfold JH;split
 .exact Qdq h _ _ _ _ _ _
 .have h:wf4 .i64 E.1=true:=h;simp only[wf4,List.all_append,qbA]at h ⊢;exact⟨h,rfl⟩
theorem QcA{d:Puz}{i k s:Nat}{E:ECt}(h:WfE E):WfE (stE d p q i k s t E):=by
 unfold stE;cases ((i:Int) != (k:Int))&&(meF d p q s t != 0)
 .exact h
 .exact QMk h _ _ _ _ _
theorem QIi{d:Puz}{p q:QX}{i k s:Nat}{E:ECt}(h:WfE E):∀ t,WfE (m4 d p q i k s E t)
 | 0=>h
 | t+1=>QcA (QIi h t)
theorem QJL{d:Puz}{p q:QX}{i k:Nat}{E:ECt}(h:WfE E):∀ s,WfE (m3 d p q i k E s)
 | 0=>h
 | s+1=>QIi (QJL h s) 4
theorem QJB{d:Puz}{p:QX}{i:Nat}{E:ECt}(h:WfE E):∀ k,WfE (m2 d p i E k)
 | 0=>h
 | k+1=>QJL (QJB h k) 4
theorem QJg(d:Puz):∀ i,WfE (m1 d i)
 | 0=>rfl
 | i+1=>QJB (QJg d i) _
theorem QCV{d:Puz}{i k s:Nat}{E:ECt}(h1:((i:Int) != (k:Int))=true)(h2:(meF d p q s t != 0)=true):stE d p q i k s t E=QDH i s k t (meF d p q s t) E:=by unfold stE;rw[h1,h2];rfl
theorem QEF{d:Puz}{i k s:Nat}{E:ECt}(h2:(meF d p q s t != 0)=false):stE d p q i k s t E=E:=by unfold stE;rw[h2,Bool.and_false];rfl
theorem QEu{d:Puz}{i k s:Nat}{E:ECt}(h1:((i:Int) != (k:Int))=false):stE d p q i k s t E=E:=by unfold stE;rw[h1];rfl
set_option maxHeartbeats 4000000 in
theorem Qbu(p q:QX)(i k s:Nat)(E:ECt)(hE:WfE E):J3 (λt=>Vm d (m4 d p q i k s E t) p q (Y5 p s) i k s t) (λt=>t<=4) (λt=>4-t) (λ_ e J=>e = .exit 6/\J=QH5 d (m4 d p q i k s E 4) p q i k s) 8 QSf [] (mkF prog KJ) (λ_=>hnd (mkF prog KJ) 1) (QZ (QZ (QZ (QI f60 0)))):=by
 refine⟨λt g0 hk=>Qg (QWE d (m4 d p q i k s E t) p q (Y5 p s) i k s t g0) ?_⟩;have hk:t<=4:=hk;have hw:wf4 .i64 (m4 d p q i k s E t).1=true:=QIi hE t;refine QF (λb0=>?_) (λb0=>?_);refine QG ?_ ?_;rotate_left;refine QF (λb1=>?_) (λb1=>?_);obtain rfl:t=0:=by have:=qdt b1;omega
 refine QG ?_ ?_;rotate_left;refine QF (λb2=>?_) (λb2=>?_);refine QF (λb3=>?_) (λb3=>?_);refine QG ?_ ?_;rotate_left
 .have hs:m4 d p q i k s E 1=_:=QCV b2 b3;refine⟨1,by show 1<=4;omega,by show 4-1<4-0;omega,λ_ _ r=>r,rfl,rfl,_,Qf7 ..,?_⟩
  have q1:_=(m4 d p q i k s E 1).1:=congrArg Prod.fst hs.symm;have q2:_=(m4 d p q i k s E 1).2:=congrArg Prod.snd hs.symm
  repeat' first|with_reducible refine QP ?_ ?_|exact tv|exact qRr|exact q1|exact q2|exact rfl|refine aI ?_ ?_
 .have hs:m4 d p q i k s E 1=_:=QEF b3;refine⟨1,by show 1<=4;omega,by show 4-1<4-0;omega,λ_ _ r=>r,rfl,rfl,_,Qds ..,?_⟩
  have q1:_=(m4 d p q i k s E 1).1:=congrArg Prod.fst hs.symm;have q2:_=(m4 d p q i k s E 1).2:=congrArg Prod.snd hs.symm
  repeat' first|with_reducible refine QP ?_ ?_|exact tv|exact qRr|exact q1|exact q2|exact rfl|refine aI ?_ ?_
 .have hs:m4 d p q i k s E 1=_:=QEu b2;refine⟨1,by show 1<=4;omega,by show 4-1<4-0;omega,λ_ _ r=>r,rfl,rfl,_,QZI ..,?_⟩
  have q1:_=(m4 d p q i k s E 1).1:=congrArg Prod.fst hs.symm;have q2:_=(m4 d p q i k s E 1).2:=congrArg Prod.snd hs.symm
  repeat' first|with_reducible refine QP ?_ ?_|exact tv|exact qRr|exact q1|exact q2|exact rfl|refine aI ?_ ?_
 refine QF (λb4=>?_) (λb4=>?_);obtain rfl:t=1:=by have:=qdt b4;omega
 refine QG ?_ ?_;rotate_left;refine QF (λb5=>?_) (λb5=>?_);refine QF (λb6=>?_) (λb6=>?_);refine QG ?_ ?_;rotate_left
 .have hs:m4 d p q i k s E 2=_:=QCV b5 b6;refine⟨2,by show 2<=4;omega,by show 4-2<4-1;omega,λ_ _ r=>r,rfl,rfl,_,Qeo ..,?_⟩
  have q1:_=(m4 d p q i k s E 2).1:=congrArg Prod.fst hs.symm;have q2:_=(m4 d p q i k s E 2).2:=congrArg Prod.snd hs.symm
  repeat' first|with_reducible refine QP ?_ ?_|exact tv|exact qRr|exact q1|exact q2|exact rfl|refine aI ?_ ?_
 .have hs:m4 d p q i k s E 2=_:=QEF b6;refine⟨2,by show 2<=4;omega,by show 4-2<4-1;omega,λ_ _ r=>r,rfl,rfl,_,QVg ..,?_⟩
  have q1:_=(m4 d p q i k s E 2).1:=congrArg Prod.fst hs.symm;have q2:_=(m4 d p q i k s E 2).2:=congrArg Prod.snd hs.symm
  repeat' first|with_reducible refine QP ?_ ?_|exact tv|exact qRr|exact q1|exact q2|exact rfl|refine aI ?_ ?_
 .have hs:m4 d p q i k s E 2=_:=QEu b5;refine⟨2,by show 2<=4;omega,by show 4-2<4-1;omega,λ_ _ r=>r,rfl,rfl,_,QXI ..,?_⟩
  have q1:_=(m4 d p q i k s E 2).1:=congrArg Prod.fst hs.symm;have q2:_=(m4 d p q i k s E 2).2:=congrArg Prod.snd hs.symm
  repeat' first|with_reducible refine QP ?_ ?_|exact tv|exact qRr|exact q1|exact q2|exact rfl|refine aI ?_ ?_
 refine QF (λb7=>?_) (λb7=>?_);obtain rfl:t=2:=by have:=qdt b7;omega
 refine QG ?_ ?_;rotate_left;refine QF (λb8=>?_) (λb8=>?_);refine QF (λb9=>?_) (λb9=>?_);refine QG ?_ ?_;rotate_left
 .have hs:m4 d p q i k s E 3=_:=QCV b8 b9;refine⟨3,by show 3<=4;omega,by show 4-3<4-2;omega,λ_ _ r=>r,rfl,rfl,_,QbD ..,?_⟩
  have q1:_=(m4 d p q i k s E 3).1:=congrArg Prod.fst hs.symm;have q2:_=(m4 d p q i k s E 3).2:=congrArg Prod.snd hs.symm
  repeat' first|with_reducible refine QP ?_ ?_|exact tv|exact qRr|exact q1|exact q2|exact rfl|refine aI ?_ ?_
 .have hs:m4 d p q i k s E 3=_:=QEF b9;refine⟨3,by show 3<=4;omega,by show 4-3<4-2;omega,λ_ _ r=>r,rfl,rfl,_,QVk ..,?_⟩
  have q1:_=(m4 d p q i k s E 3).1:=congrArg Prod.fst hs.symm;have q2:_=(m4 d p q i k s E 3).2:=congrArg Prod.snd hs.symm
  repeat' first|with_reducible refine QP ?_ ?_|exact tv|exact qRr|exact q1|exact q2|exact rfl|refine aI ?_ ?_
 .have hs:m4 d p q i k s E 3=_:=QEu b8;refine⟨3,by show 3<=4;omega,by show 4-3<4-2;omega,λ_ _ r=>r,rfl,rfl,_,QUN ..,?_⟩
  have q1:_=(m4 d p q i k s E 3).1:=congrArg Prod.fst hs.symm;have q2:_=(m4 d p q i k s E 3).2:=congrArg Prod.snd hs.symm
  repeat' first|with_reducible refine QP ?_ ?_|exact tv|exact qRr|exact q1|exact q2|exact rfl|refine aI ?_ ?_
 obtain rfl:t=3:=by
  have h0:=qdt b0;have h1:=qdf b1;have h2:=qdf b4;have h3:=qdf b7;omega
 refine QG ?_ ?_;rotate_left;refine QF (λb10=>?_) (λb10=>?_);refine QF (λb11=>?_) (λb11=>?_);refine QG ?_ ?_;rotate_left
 .have hs:m4 d p q i k s E 4=_:=QCV b10 b11;refine⟨4,by show 4<=4;omega,by show 4-4<4-3;omega,λ_ _ r=>r,rfl,rfl,_,QaV ..,?_⟩
  have q1:_=(m4 d p q i k s E 4).1:=congrArg Prod.fst hs.symm;have q2:_=(m4 d p q i k s E 4).2:=congrArg Prod.snd hs.symm
  repeat' first|with_reducible refine QP ?_ ?_|exact tv|exact qRr|exact q1|exact q2|exact rfl|refine aI ?_ ?_
 .have hs:m4 d p q i k s E 4=_:=QEF b11;refine⟨4,by show 4<=4;omega,by show 4-4<4-3;omega,λ_ _ r=>r,rfl,rfl,_,QfP ..,?_⟩
  have q1:_=(m4 d p q i k s E 4).1:=congrArg Prod.fst hs.symm;have q2:_=(m4 d p q i k s E 4).2:=congrArg Prod.snd hs.symm
  repeat' first|with_reducible refine QP ?_ ?_|exact tv|exact qRr|exact q1|exact q2|exact rfl|refine aI ?_ ?_
 .have hs:m4 d p q i k s E 4=_:=QEu b10;refine⟨4,by show 4<=4;omega,by show 4-4<4-3;omega,λ_ _ r=>r,rfl,rfl,_,QdD ..,?_⟩
  have q1:_=(m4 d p q i k s E 4).1:=congrArg Prod.fst hs.symm;have q2:_=(m4 d p q i k s E 4).2:=congrArg Prod.snd hs.symm
  repeat' first|with_reducible refine QP ?_ ?_|exact tv|exact qRr|exact q1|exact q2|exact rfl|refine aI ?_ ?_
 obtain rfl:t=4:=by have:=qdf b0;omega
 refine⟨_,⟨rfl,rfl⟩,rfl,rfl,_,QaJ ..,?_⟩
 rotate_left
 all_goals first|((with_reducible show _=true);(first|exact hw|rfl|(simp;omega)|(simp at b0 ⊢;omega)))|(repeat' first|with_reducible refine QP ?_ ?_|exact tv|exact qRr|refine aI ?_ ?_)
theorem QZM(p q:QX)(i k s:Nat)(E:ECt)(hE:WfE E)(G:Ctx)(hrd:G.rd=none)(hG:G.n<=8):Qx (mkF prog KJ) G (QIZ prog d E (m4 d p q i k s E 4) p q (Y5 p s) i k s) (QZ (QZ (QI f60 0))):=by
 refine KO (body:=QZ (QZ (QZ (QI f60 0)))) (K3 JN) hrd (by kernel_rfl) ?_
 refine Vq (I:=λt=>Vm d (m4 d p q i k s E t) p q (Y5 p s) i k s t) (n0:=8) (K3 JN) hG (λt ht=>Qw (K3 JN) 1 G _ hrd) (λt ht=>(by decide:8<=104)) ?_ (Qbu d p q i k s E hE) (s0:=0) (Nat.zero_le _) ?_
 .rintro s e J ⟨_,rfl⟩;exact(by decide:8<=104)
 .rintro e J ⟨rfl,rfl⟩;exact⟨_,qmc,trivial,rfl,rfl⟩
set_option maxHeartbeats 4000000 in
theorem QW1(p q:QX)(i k:Nat)(E:ECt):J3 (λs=>Ww d (m3 d p q i k E s) p q i k s) (λs=>s<=4) (λs=>4-s) (λ_ e J=>e = .exit 4/\J=QIj d (m3 d p q i k E 4) p i k) 8 QPG [] (mkF prog KJ) (λs=>QIZ prog d (m3 d p q i k E s) (m4 d p q i k s (m3 d p q i k E s) 4) p q (Y5 p s) i k s) (QZ (QZ (QI f60 0))):=by
 refine⟨λs g0 hk=>Qg (QZ3 d (m3 d p q i k E s) (m4 d p q i k s (m3 d p q i k E s) 4) p q (Y5 p s) i k s g0) ?_⟩;have hk:s<=4:=hk;refine QF (λb0=>?_) (λb0=>?_);refine QG ?_ ?_;rotate_left;refine QF (λb1=>?_) (λb1=>?_);obtain rfl:s=0:=by have:=qdt b1;omega
 iterate 170 refine Qq (by first|exact tv|exact qRr|rfl) ?_
 refine Qh λa0=>?_;refine Qj λg0=>?_;refine⟨1,by show 1<=4;omega,by show 4-1<4-0;omega,λ_ _ r=>r,rfl,rfl,_,Qgp ..,?_⟩
 rotate_left
 refine QF (λb2=>?_) (λb2=>?_);obtain rfl:s=1:=by have:=qdt b2;omega
 iterate 170 refine Qq (by first|exact tv|exact qRr|rfl) ?_
 refine Qh λa1=>?_;refine Qj λg1=>?_;refine⟨2,by show 2<=4;omega,by show 4-2<4-1;omega,λ_ _ r=>r,rfl,rfl,_,Qhf ..,?_⟩
 rotate_left
 refine QF (λb3=>?_) (λb3=>?_);obtain rfl:s=2:=by have:=qdt b3;omega
 iterate 170 refine Qq (by first|exact tv|exact qRr|rfl) ?_
 refine Qh λa2=>?_;refine Qj λg2=>?_;refine⟨3,by show 3<=4;omega,by show 4-3<4-2;omega,λ_ _ r=>r,rfl,rfl,_,QUQ ..,?_⟩
 rotate_left
 obtain rfl:s=3:=by
  have h0:=qdt b0;have h1:=qdf b1;have h2:=qdf b2;have h3:=qdf b3;omega
 iterate 170 refine Qq (by first|exact tv|exact qRr|rfl) ?_
 refine Qh λa3=>?_;refine Qj λg3=>?_;refine⟨4,by show 4<=4;omega,by show 4-4<4-3;omega,λ_ _ r=>r,rfl,rfl,_,QVe ..,?_⟩
 rotate_left
 obtain rfl:s=4:=by have:=qdf b0;omega
 refine⟨_,⟨rfl,rfl⟩,rfl,rfl,_,Qdd ..,?_⟩
 rotate_left
 all_goals first|((with_reducible show _=true);(first|rfl|(simp at b0 ⊢;omega)))|(repeat' first|with_reducible refine QP ?_ ?_|exact tv|exact qRr|exact rfl|refine aI ?_ ?_)
theorem QVx(p:QX)(i k:Nat)(E:ECt)(hE:WfE E)(G:Ctx)(hrd:G.rd=none)(hG:G.n<=8):Qx (mkF prog KJ) G (QJO prog d E (m3 d p (d.ps.get k) i k E 4) p (d.ps.get k) i k) (QZ (QI f60 0)):=by
 refine KO (body:=QZ (QZ (QI f60 0))) (K3 JN) hrd (by kernel_rfl) ?_
 refine Jj λhi=>?_;refine Vq (I:=λs=>Ww d (m3 d p (d.ps.get k) i k E s) p (d.ps.get k) i k s) (n0:=8) (K3 JN) hG (λs hs=>QZM d p (d.ps.get k) i k s _ (QJL hE s) G hrd hG) (λt ht=>(by decide:8<=104)) ?_ (QW1 d p (d.ps.get k) i k E) (s0:=0) (Nat.zero_le _) ?_
 .rintro s e J ⟨_,rfl⟩;exact(by decide:8<=104)
 .rintro e J ⟨rfl,rfl⟩;exact⟨_,qmc,trivial,rfl,rfl⟩
set_option maxHeartbeats 4000000 in
theorem QY0(p:QX)(i:Nat)(E:ECt)(hE:WfE E)(hn:d.ps.n<2^62):J3 (λk=>H6 d (m2 d p i E k) p i k) (λk=>k<=d.ps.n) (λk=>d.ps.n-k) (λ_ e J=>e = .exit 2/\J=QJJ d (m2 d p i E d.ps.n) i) 8 QQl [] (mkF prog KJ) (λk=>QJO prog d (m2 d p i E k) (m3 d p (d.ps.get k) i k (m2 d p i E k) 4) p (d.ps.get k) i k) (QZ (QI f60 0)):=by
 refine⟨λk g0 hk=>Qg (QZO d (m2 d p i E k) (m3 d p (d.ps.get k) i k (m2 d p i E k) 4) p (d.ps.get k) i k g0) ?_⟩;have hk:k<=d.ps.n:=hk;refine QF (λb0=>?_) (λb0=>?_);have h:k<d.ps.n:=by have:=qdt b0;omega
 have hw:i64.wrap ((k:Int)+1)=((k+1:Nat):Int):=(w64 (by omega) (by omega)).trans (by omega)
 iterate 2 (refine QG ?_ ?_;rotate_left)
 iterate 132 refine Qq (by first|exact tv|exact h|exact qRr|rfl) ?_
 refine Qh λa0=>?_;refine Qj λg0=>?_;refine⟨k+1,h,by show d.ps.n-(k+1)<d.ps.n-k;omega,λ_ _ r=>r,rfl,rfl,_,Qc7 ..,?_⟩
 rotate_left
 obtain rfl:k=d.ps.n:=by have:=qdf b0;omega
 refine⟨_,⟨rfl,rfl⟩,rfl,rfl,_,QhA ..,?_⟩
 rotate_left
 all_goals first|((with_reducible show _=true);(first|rfl|(simp at b0 ⊢;omega)))|(repeat' first|with_reducible refine QP ?_ ?_|exact tv|exact qRr|exact hw|exact rfl|refine aI ?_ ?_)
theorem QWR(hn:d.ps.n<2^62)(G:Ctx)(hrd:G.rd=none)(hG:G.n<=8):Qx (mkF prog KJ) G (QJa prog d (m1 d i) (m2 d (d.ps.get i) i (m1 d i) d.ps.n) (d.ps.get i) i) (QI f60 0):=by
 refine KO (body:=QZ (QI f60 0)) (K3 JN) hrd (by kernel_rfl) ?_
 refine Jj λhi=>?_;refine Vq (I:=λk=>H6 d (m2 d (d.ps.get i) i (m1 d i) k) (d.ps.get i) i k) (n0:=8) (K3 JN) hG (λk hk=>QVx d (d.ps.get i) i k _ (QJB (QJg d i) k) G hrd hG) (λt ht=>(by decide:8<=104)) ?_ (QY0 d (d.ps.get i) i (m1 d i) (QJg d i) hn) (s0:=0) (Nat.zero_le _) ?_
 .rintro s e J ⟨_,rfl⟩;exact(by decide:8<=104)
 .rintro e J ⟨rfl,rfl⟩;exact⟨_,qmc,trivial,rfl,rfl⟩
set_option maxHeartbeats 4000000 in
theorem Qcv(hn:d.ps.n<2^62):J3 (λi=>QAg d (m1 d i) i) (λi=>i<=d.ps.n) (λi=>d.ps.n-i) (λ_ e J=>e = .exit 0/\J=QGl d (m1 d d.ps.n)) 8 QSn [] (mkF prog KJ) (λi=>QJa prog d (m1 d i) (m2 d (d.ps.get i) i (m1 d i) d.ps.n) (d.ps.get i) i) (QI f60 0):=by
 refine⟨λi g0 hk=>Qg (Qbx d (m1 d i) (m2 d (d.ps.get i) i (m1 d i) d.ps.n) (d.ps.get i) i g0) ?_⟩;have hk:i<=d.ps.n:=hk;refine QF (λb0=>?_) (λb0=>?_);have h:i<d.ps.n:=by have:=qdt b0;omega
 have hw:i64.wrap ((i:Int)+1)=((i+1:Nat):Int):=(w64 (by omega) (by omega)).trans (by omega)
 iterate 2 (refine QG ?_ ?_;rotate_left)
 iterate 72 refine Qq (by first|exact tv|exact h|exact qRr|rfl) ?_
 refine Qh λa0=>?_;refine Qj λg0=>?_;refine⟨i+1,h,by show d.ps.n-(i+1)<d.ps.n-i;omega,λ_ _ r=>r,rfl,rfl,_,Qch ..,?_⟩
 rotate_left
 obtain rfl:i=d.ps.n:=by have:=qdf b0;omega
 refine⟨_,⟨rfl,rfl⟩,rfl,rfl,_,QZr ..,?_⟩
 rotate_left
 all_goals first|((with_reducible show _=true);(first|rfl|(simp at b0 ⊢;omega)))|(repeat' first|with_reducible refine QP ?_ ?_|exact tv|exact qRr|exact hw|exact rfl|refine aI ?_ ?_)
def QJX(id c:Nat)(d:Puz)(E:ECt):List (Nat×Blk):=[(id,.cells 0 152 (KX d++[.map c,.nils])),(c,.mp E.1 E.2)]
abbrev nbH(P:Program)(d:Puz)(E:ECt):Hnd:={ hnd (mkF P KJ) 1 with loop:=λ_=>KH 8 [] (QAg d ([],0) (0:Nat)) [(True,.exit 0,QGl d E)] }
theorem QVQ(hn:d.ps.n<2^62)(G:Ctx)(hrd:G.rd=none)(hG:G.n=8):Qx (mkF prog KJ) G (nbH prog d (m1 d d.ps.n)) (Ql f60):=by
 refine KO (body:=QI f60 0) (K3 JN) hrd (by kernel_rfl) ?_
 refine Vq (I:=λi=>QAg d (m1 d i) i) (n0:=8) (K3 JN) (by omega) (λi hs=>QWR d i hn G hrd (by omega)) (λs hs=>(by decide:8<=104)) ?_ (Qcv d hn) (s0:=0) (Nat.zero_le _) ?_
 .rintro s e J ⟨_,rfl⟩;exact(by decide:8<=104)
 .rintro e J ⟨rfl,rfl⟩;exact⟨_,qmc,trivial,rfl,rfl⟩
def nbU:UC:=⟨8,⟨1,[(0,.agg (KX d))],Qm.blk 0 d.ps,8⟩,λm=>.ptr m 0 0,λm=>QJX m (m+1) d E⟩
noncomputable abbrev QS1(d:Puz):List (Nat×Blk):=
  [(48,.cells 0 152 (List.append (waf d) ([.map 32,.nils]))),(0,.frz (List.append (waa) ((List.append (waA) ((List.append (waZ) ([.int .i64])))))) d.ps.n λi=>QA.enc (d.ps.get i)),(32,.mp E.1 E.2)]
theorem QXK :VQ (mkF prog KJ) (nbH prog d E) f60 (nbU d E) = .ak (([0=0,0=0,0=0,0=0,0=0]++wbP d++[(0:Int)=0])++wab d++[cO=cO]++wab d++([cO=cO,([]:List MapEntry)=[],0=0]++wae d)) (.asm (True) (.all (λ(g0:Nat->Value)=>.leaf (.ptr 48 0 0) ((QS1 E d))))):=by kernel_rfl
theorem Qh8 :QE 8 [(.ptr 48 0 0)] ((QS1 E d)) (KR (nbU d E))=(some ([0=0,0=0]++wab d++[cO=cO,E.1=E.1,E.2=E.2])):=by kernel_rfl
theorem QJT(nid:Nat):Je 8 8 nid (8+k)=nid+k:=by
 have:Nat.blt (8+k) 8=false:=QAJ (by omega)
 simp only[Je,this];omega
theorem Qd6{i:Nat}(h:i<8)(nid:Nat):Je 8 8 nid i=i:=by
 simp only[Je,QEY h]
theorem Qd7:(nbU d E).Ok:=by
 refine⟨(by decide:8<=8),rfl,rfl,?_,rfl,λnid h=>?_,λnid h=>?_⟩
 .intro q hq;simp only[UC.po,nbU,QJX,List.mem_cons,List.not_mem_nil,or_false]at hq;rcases hq with rfl|rfl
  .exact⟨rfl,rfl,rfl,λh=>absurd (show 8<8 from h) (by decide)⟩
  .exact⟨rfl,rfl,rfl,λh=>absurd (show 9<8 from h) (by decide)⟩
 .have e0:=QJT 0 nid;simp only[UC.va,nbU,AV.mapId,Nat.add_zero]at e0 ⊢;rw[e0]
 .have e0:=QJT 0 nid;have e1:=QJT 1 nid;have l0:=Qd6 (i:=0) (by decide) nid
  simp only[UC.po,nbU,QJX,KX,Qm.val,List.cons_append,List.nil_append,List.map_cons,List.map_nil,Blk.mapId,AV.mapId,AV.mapIdL,Nat.add_zero,Nat.zero_add]at e0 e1 l0 ⊢;rw[e0,e1,l0]
theorem WI(hn:d.ps.n<2^62):QS prog 60 (uFC (nbU d (m1 d d.ps.n))):=by
 refine Ky (E:=mkF prog KJ) (K3 JN) func60 (by kernel_rfl) (by kernel_rfl) (Qd7 ..) (QVQ d hn) ⟨?_⟩
 generalize m1 d d.ps.n=E;refine Qg (QXK d E) ?_
 iterate 35 refine Qq (by first|exact tv|exact qRr|rfl) ?_
 refine Qh λa0=>?_;refine Qj λg0=>?_;refine⟨rfl,rfl,_,Qh8 d E,?_⟩
 rotate_left
 all_goals (repeat' first|exact tv|exact qRr|refine aI ?_ ?_)
structure Lay where
 piece:Int
 turn:Int
instance : QA Lay where
  ks := [.int .i64,.int .i64]
  enc p j := match j with
    | 0 => p.piece
    | _ => p.turn
  dec f := ⟨f 0,f 1⟩
  ok _ := rfl
instance : Enc Lay where
  enc x := .agg [.int false .i64 x.piece,.int false .i64 x.turn]
  dec | .agg [.int _ .i64 a0,.int _ .i64 a1] => some ⟨a0,a1⟩ | _ => none
  ok v x h := by
    split at h <;> (try (cases h; done))
    simp only[qsI]at h; subst h; exact⟨λ_=>rfl,rfl⟩
structure Pt where
 cell:Int
 lay:Lay
instance : QA Pt where
  ks := [.int .i64,.int .i64,.int .i64]
  enc p j := match j with
    | 0 => p.cell
    | 1 => p.lay.piece
    | _ => p.lay.turn
  dec f := ⟨f 0,⟨f 1,f 2⟩⟩
  ok _ := rfl
def QAm(id:Nat)(L:List Lay):Nat×Blk:=(id,.frz kB L.length λi=>QA.enc (L.getD i ⟨0,0⟩))
def brC:List AV:=KX d++[.map 201,.slz 210 0 n (.of 0)]
def brR:List (Nat×Blk):=(200,.cellsR 0 152 (brC d n))::Qm.blk 0 d.ps
def Kc(a b:Int):Bool:=(Y5 (d.ps.get a.toNat) b.toNat).kind==0
def flU(a b:Int):UC:=⟨0,⟨2,[(0,.ptr 200 0 0),(1,.agg [.int false .i64 a,.int false .i64 b])],brR d n,216⟩,λ_=>.bool false (Kc d a b),λ_=>[]⟩
def tnV:Int:=cond (d.turn&&decide (0<a)) 4 1
def tnU:UC:=⟨0,⟨2,[(0,.ptr 200 0 0),(1,.int false .i64 a)],brR d n,216⟩,λ_=>.int false .i64 (tnV d a),λ_=>[]⟩
theorem QZQ(a b:Int):VQ (mkF prog KJ) (hnd (mkF prog KJ) 1) f137 (flU d n a b)=QC.need (decide ((0:Int)<=a/\a<(↑d.ps.n:Int))&&decide (d.ps.n<=d.ps.n)) (QC.need (decide ((0:Int)<=b/\b<(4:Int))) (QC.br (decide (b=(0:Int))) (QC.need (decide (a.toNat<d.ps.n)) (QC.leaf (AV.bool false ((d.ps.get a.toNat).up.kind==(0:Int))) ([]))) (QC.br (decide (b=(1:Int))) (QC.need (decide (a.toNat<d.ps.n)) (QC.leaf (AV.bool false ((d.ps.get a.toNat).right.kind==(0:Int))) ([]))) (QC.br (decide (b=(2:Int))) (QC.need (decide (a.toNat<d.ps.n)) (QC.leaf (AV.bool false ((d.ps.get a.toNat).down.kind==(0:Int))) ([]))) (QC.need (decide (a.toNat<d.ps.n)) (QC.leaf (AV.bool false ((d.ps.get a.toNat).left.kind==(0:Int))) ([]))))))):=by kernel_rfl
theorem QfB(a b:Int)(c v:Bool):QE 216 [.bool c v] [] (KR (flU d n a b))=( some [v=Kc d a b]):=by kernel_rfl
theorem QZP:VQ (mkF prog KJ) (hnd (mkF prog KJ) 1) f52 (tnU d n a)=QC.br (d.turn) (QC.br (decide (a>(0:Int))) (QC.leaf (vj (4:Int)) ([])) (QC.leaf (vj (1:Int)) ([]))) (QC.leaf (vj (1:Int)) ([])):=by kernel_rfl
theorem Qah(a v:Int)(c:Bool):QE 216 [.int c .i64 v] [] (KR (tnU d n a))=( some [v=tnV d a]):=by kernel_rfl
theorem QMX(a b:Int)(h1:0<=a)(h2:a<d.ps.n)(h3:0<=b)(h4:b<4):QS prog 137 (uFC (flU d n a b)):=by
 refine Ky (E:=mkF prog KJ) (K3 JN) (c:=Ql f137) func137 (by kernel_rfl) (by kernel_rfl) (QQr (Nat.zero_le _) rfl rfl λ_=>rfl) (λG h1 _=>Qw (K3 JN) 1 G _ h1) ⟨?_⟩
 refine Qg (QZQ d n a b) ?_;have fin:∀(v:Bool),v=Kc d a b->(QC.leaf (.bool false v) []).den (jK (flU d n a b)):=λv h=>⟨rfl,rfl,_,QfB d n a b false v,⟨h,trivial⟩⟩
 iterate 2 (refine QG ?_ ?_;rotate_left)
 refine QF (λb0=>?_) (λb0=>?_);refine QG ?_ ?_;rotate_left
 .obtain rfl:b=0:=qdt b0;exact fin _ rfl
 refine QF (λb1=>?_) (λb1=>?_);refine QG ?_ ?_;rotate_left
 .obtain rfl:b=1:=qdt b1;exact fin _ rfl
 refine QF (λb2=>?_) (λb2=>?_);refine QG ?_ ?_;rotate_left
 .obtain rfl:b=2:=qdt b2;exact fin _ rfl
 refine QG ?_ ?_;rotate_left
 .obtain rfl:b=3:=by
   have h0:=qdf b0;have h1:=qdf b1;have h2:=qdf b2;omega
  exact fin _ rfl
 all_goals simp;omega
theorem YR:QS prog 52 (uFC (tnU d n a)):=by
 refine Ky (E:=mkF prog KJ) (K3 JN) (c:=Ql f52) func52 (by kernel_rfl) (by kernel_rfl) (QQr (Nat.zero_le _) rfl rfl λ_=>rfl) (λG h1 _=>Qw (K3 JN) 1 G _ h1) ⟨?_⟩
 refine Qg (QZP d n a) ?_;have fin:∀(v:Int),v=tnV d a->(QC.leaf (.int true .i64 v) []).den (jK (tnU d n a)):=λv h=>⟨rfl,rfl,_,Qah d n a v true,⟨h,trivial⟩⟩;refine QF (λb0=>?_) (λb0=>?_);refine QF ?_ ?_<;>intro b1
 .refine fin _ ?_;have:decide (0<a)=true:=b1;rw[tnV,b0,this];rfl
 .refine fin _ ?_;have:decide (0<a)=false:=b1;rw[tnV,b0,this];rfl
 .refine fin _ ?_;rw[tnV,b0];rfl
def qd(K:Rw Pt)(c:Int)(x:Lay)(k:Nat):Bool:=((K.get k).cell==c && !((K.get k).lay.piece==x.piece&&(K.get k).lay.turn==x.turn))||((K.get k).lay.piece==x.piece && !((K.get k).cell==c))
def Qr(K:Rw Pt)(c:Int)(x:Lay):Bool:=(QU (qd K c x) K.n 0).isNone
def alJ(K:Rw Pt)(c:Int)(x:Lay)(k:Nat):JSt:=⟨40,[(1,.int false .i64 c),(5,.ptr 8 0 0),(9,.slz 0 0 K.n (.of 0)),(10,.int false .i64 K.n),(11,.int false .i64 k)],[(8,.cells 0 49 (Enc.enc x).cells)]++Qm.blk 0 K,48⟩
def QFx:JSt:=⟨40,[(6,.bool false false)],[],48⟩
def QJI:JSt:=⟨40,[],[],48⟩
def QKg:Ex->List Nat
 | .normal=>[1,5,9,10,11]
 | .exit _=>[]
 | .ret=>[6]
theorem Qew(K:Rw Pt)(c:Int)(x:Lay)(k:Nat)(g:Nat->Value):exec (mkS prog KJ) (hnd (mkS prog KJ) 1) (QI f104 0) (JSt.inst (alJ K c x k) g) (Q6 [] QKg) = .br (decide ((k:Int)<(K.n:Int))) (.need (decide ((0:Int)<=(k:Int)/\(k:Int)<(K.n:Int))&&decide (K.n<=K.n)) (.need (decide (k<K.n)) (.need (!(K.get k).cell==c||(K.get k).cell==c) (.need (!(K.get k).cell==c||(K.get k).cell==c&&(K.get k).cell==c) (.need (!(K.get k).cell==c||(K.get k).cell==c) (.bnd ((K.get k).cell==c&&!((K.get k).lay.piece==x.piece&&((K.get k).lay.turn==x.turn&&true))) (λ(x0:Bool)=>.need (!!x0||!x0) (.need (!!x0||!x0) (.need (!!x0||!x0) (.need (!!x0||!x0&&!x0) (.need (!!x0||!x0) (.need (!(!x0&&(K.get k).lay.piece==x.piece)||!x0&&(K.get k).lay.piece==x.piece) (.need (!(!x0&&(K.get k).lay.piece==x.piece)||!x0&&(K.get k).lay.piece==x.piece&&(!x0&&(K.get k).lay.piece==x.piece)) (.need (!!x0||!x0&&(!(K.get k).lay.piece==x.piece||!x0&&(K.get k).lay.piece==x.piece)) (.bnd ((K.get k).lay.piece==x.piece&&(K.get k).cell != c) (λ(x1:Bool)=>.need (x0||!x0) (.bnd (x0||x1) (λ(x2:Bool)=>.br (x2) (.leaf (.tup [.nili,.ptr 40 0 0,.bool true false]) ([])) (.leaf (.tup [.nilp,.ptr 40 0 0,vi c,.ptr 8 0 0,.slz 0 0 K.n cO,vi (K.n:Int),vi (i64.wrap ((k:Int)+1))]) ([(8,.cells 0 49 [vi x.piece,vi x.turn]),(0,.frz [.int .i64,.int .i64,.int .i64] K.n λi=>QA.enc (K.get i))])))))))))))))))))))) (.leaf (.tup [.ptr 0 0 0,.ptr 40 0 0]) ([])):=by kernel_rfl
theorem QUp :QE 8 [AV.bool true false] ([]) QFx=( some [false=false]):=by kernel_rfl
theorem Qcr(K:Rw Pt)(c:Int)(x:Lay)(k k':Nat):QE 8 [vi c,AV.ptr (8:Nat) (0:Nat) (0:Nat),AV.slz (0:Nat) (0:Nat) K.n cO,vi (↑K.n:Int),vi (i64.wrap ((↑k:Int)+(1:Int)))] ([((8:Nat),Blk.cells (0:Nat) (49:Nat) [vi x.piece,vi x.turn]),((0:Nat),Blk.frz [CK.int i64,CK.int i64,CK.int i64] K.n λi=>QA.enc (K.get i))]) (alJ K c x k')=( some [c=c,0=0,0=0,0=0,K.n=K.n,cO=cO,(↑K.n:Int)=(↑K.n:Int),i64.wrap ((↑k:Int)+(1:Int))=(↑k':Int),x.piece=x.piece,x.turn=x.turn,K.n<=K.n,QB (3:Nat) K.n (λi=>QA.enc (K.get i)) λi=>QA.enc (K.get i)]):=by kernel_rfl
theorem QZn :QE 8 [] ([]) QJI=( some []):=by kernel_rfl
def alR(K:Rw Pt)(c:Int)(x:Lay)(k:Nat)(e:Ex)(J:JSt):Prop:=(e = .ret/\(QU (qd K c x) (K.n-k) k).isNone=false/\J=QFx)∨(e = .exit 0/\(QU (qd K c x) (K.n-k) k).isNone=true/\J=QJI)
theorem QaS(K:Rw Pt)(c:Int)(x:Lay)(hn:K.n<=1000):J3 (alJ K c x) (λk=>k<=K.n) (λk=>K.n-k) (alR K c x) 8 QKg [] (mkS prog KJ) (λ_=>hnd (mkS prog KJ) 1) (QI f104 0):=by
 refine⟨λk g0 hk=>Qg (Qew K c x k g0) ?_⟩;have hk:k<=K.n:=hk;refine QF (λb0=>?_) (λb0=>?_);have h:k<K.n:=by have:=qdt b0;omega
 have hf:=VP (p:=qd K c x) h
 iterate 5 (refine QG ?_ ?_;rotate_left)
 refine ZB λz0 y0=>?_
 iterate 8 (refine QG ?_ ?_;rotate_left)
 refine ZB λz1 y1=>?_;refine QG ?_ ?_;rotate_left;refine ZB λz2 y2=>?_;refine QF ?_ ?_<;>intro b1
 .have hb:qd K c x k=true:=by rw[<-b1,y2,y1,y0,qd];simp[bne]
  exact⟨_,.inl ⟨rfl,by rw[hf.1 hb];rfl,rfl⟩,rfl,rfl,_,QUp,⟨rfl,trivial⟩⟩
 have hb:qd K c x k=false:=by rw[<-b1,y2,y1,y0,qd];simp[bne]
 refine⟨k+1,h,by show K.n-(k+1)<K.n-k;omega,λe J h=>by unfold alR at h ⊢;rw[hf.2 hb];exact h,rfl,rfl,_,Qcr K c x k (k+1),?_⟩
 rotate_left
 .have h:K.n<=k:=by have:=qdf b0;omega
  exact⟨_,.inr ⟨rfl,by rw[show K.n-k=0 by omega];rfl,rfl⟩,rfl,rfl,_,QZn,trivial⟩
 all_goals first|((with_reducible show _=true);(first|rfl|(simp at b0 ⊢;omega)|grind))|(repeat' first|with_reducible refine QP ?_ ?_|exact tv|exact qRr|exact VT h hn|refine aI ?_ ?_)
def alX(K:Rw Pt)(c:Int)(x:Lay):List (Prop×Ex×JSt):=[(Qr K c x=false,.ret,QFx),(Qr K c x=true,.exit 0,QJI)]
abbrev alH(P:Program)(K:Rw Pt)(c:Int)(x:Lay):Hnd:={ hnd (mkS P KJ) 1 with loop:=λ_=>JP (K.n<=1000) (KH 8 [] (alJ K c x (0:Nat)) (alX K c x)) }
theorem QaA(K:Rw Pt)(c:Int)(x:Lay)(G:Ctx)(hrd:G.rd=none)(hG:G.n=8):Qx (mkS prog KJ) G (alH prog K c x) (Ql f104):=by
 refine KO (body:=QI f104 0) (zR JN) hrd (by kernel_rfl) ?_
 refine Jj λhl=>?_;refine Vq (n0:=8) (zR JN) (by omega) (λs hs=>Qw (zR JN) 1 G _ hrd) (λs hs=>(by decide:8<=48)) ?_ (QaS K c x hl) (s0:=0) (Nat.zero_le _) ?_
 .rintro s e J (⟨_,_,rfl⟩|⟨_,_,rfl⟩)<;>exact(by decide:8<=48)
 .rintro e J (⟨rfl,h,rfl⟩|⟨rfl,h,rfl⟩)
  .exact⟨_,qmc,h,rfl,rfl⟩
  .exact⟨_,List.mem_cons_of_mem _ qmc,h,rfl,rfl⟩
def QAR:WF ((Rw Pt)×Int×Lay×Unit):=λ|(K,(c,(x,_)))=>(decide (K.n<=1000),.bool false (Qr K c x),[])
def QKj:FC:=wFC QAR
theorem QZR(K:(Rw Pt))(c:Int)(x:Lay):Kn (mkS prog KJ) (alH prog K c x) f104 (Qe.vals 0 ((K,c,x,()):(Rw Pt)×Int×Lay×Unit)) (Qe.blks 0 ((K,c,x,()):(Rw Pt)×Int×Lay×Unit)) 8=QC.ask (K.n<=(1000:Nat)) (QC.ask (c=c) (QC.ask (0=0) (QC.ask (0=0) (QC.ask (0=0) (QC.ask (K.n=K.n) (QC.ask (cO=cO) (QC.ask ((↑K.n:Int)=(↑K.n:Int)) (QC.ask ((0:Int)=(0:Int)) (QC.ask (x.piece=x.piece) (QC.ask (x.turn=x.turn) (QC.ask (K.n<=K.n) (QC.ask (QB (3:Nat) K.n (λi=>QA.enc (K.get i)) λi=>QA.enc (K.get i)) (QC.both (QC.asm (Qr K c x=false) (QC.all (λ(g0:Nat->Value)=>QC.leaf (AV.bool false false) ([])))) (QC.asm (Qr K c x=true) (QC.all (λ(g1:Nat->Value)=>QC.leaf (AV.bool true true) ([]))))))))))))))))):=by kernel_rfl
theorem QcU:JQ (mkS prog KJ) (Ql f104) 8 QAR (λx_=>(alH prog x_.1 x_.2.1 x_.2.2.1)):=by
 refine⟨?_⟩;rintro⟨K,⟨c,⟨x,⟨⟩⟩⟩⟩ hp G h1 h2;exact QaA K c x G h1 h2
theorem QYO:JR (mkS prog KJ) f104 8 QAR (λx_=>(alH prog x_.1 x_.2.1 x_.2.2.1)):=by
 refine⟨?_⟩;rintro⟨K,⟨c,⟨x,⟨⟩⟩⟩⟩ hp;refine⟨⟨rfl,by simp[QAR],rfl⟩,⟨?_⟩⟩
 rw[QZR K c x];simp only[QAR]at hp;have hp:=qdt hp
 iterate 13 refine Qq (by first|exact tv|exact hp|exact qRr) ?_
 refine Kf ?_ ?_;refine Qh λa0=>?_;refine Qj λg0=>?_
 .exact Kd a0.symm rfl
 refine Qh λa1=>?_;refine Qj λg1=>?_
 .exact Kd a1.symm rfl
theorem Qbr:QS prog 104 QKj:=
 JX (zR JN) func104 (by kernel_rfl) (by kernel_rfl) (by decide) QcU QYO
def Ws:Tab:=Qa KJ 104 QKj
theorem QHR:Qd Ws:=JN.add Qbr
def onS(x:Lay)(s:Int):Int:=(s+4-x.turn).tmod 4
def QAv:WF (Lay×Int×Unit):=λ|(x,(s,_))=>(decide ((0<=x.turn/\x.turn<=3)/\0<=s/\s<=3),.agg [vi x.piece,vi (onS x s)],[])
def QMJ:FC:=wFC QAv
theorem QU6(x:Lay)(s:Int):Kn (mkE prog Ws) (hnd (mkE prog Ws) 1) f134 (Qe.vals 0 ((x,s,()):Lay×Int×Unit)) (Qe.blks 0 ((x,s,()):Lay×Int×Unit)) 8=QC.leaf (AV.agg [vi x.piece,vi ((i64.wrap (i64.wrap (s+(4:Int))-x.turn)).tmod (4:Int))]) ([]):=by kernel_rfl
theorem QcT:JQ (mkE prog Ws) (Ql f134) 8 QAv (λx_=>(hnd (mkE prog Ws) 1)):=by
 refine⟨?_⟩;rintro⟨x,⟨s,⟨⟩⟩⟩ hp G h1 h2;exact Qw (QO QHR) 1 G _ h1
theorem QZf:JR (mkE prog Ws) f134 8 QAv (λx_=>(hnd (mkE prog Ws) 1)):=by
 refine⟨?_⟩;rintro⟨x,⟨s,⟨⟩⟩⟩ hp;refine⟨⟨rfl,by simp[QAv],rfl⟩,⟨?_⟩⟩
 rw[QU6 x s];simp only[QAv]at hp;have hp:=qdt hp
 .refine Kd ?_ rfl
  have:(i64.wrap (i64.wrap (s+4)-x.turn)).tmod 4=onS x s:=by
   rw[w64 (n:=s+4) (by omega) (by omega),w64 (by omega) (by omega)];rfl
  rw[this];exact⟨⟨rfl,rfl⟩,⟨rfl,rfl⟩,trivial⟩
theorem Qca:QS prog 134 QMJ:=
 JX (QO QHR) func134 (by kernel_rfl) (by kernel_rfl) (by decide) QcT QZf
def QT:Tab:=Qa Ws 134 QMJ
theorem Qf:Qd QT:=QHR.add Qca
def Qo(c:Nat):Int:=(c:Int).tdiv d.wide
def Q2(c:Nat):Int:=(c:Int).tmod d.wide
def QV(c:Nat):Nat->Bool
 | 0=>Qo d c==0
 | 1=>Q2 d c==d.wide-1
 | 2=>Qo d c==d.high-1
 | _=>Q2 d c==0
def Ku(c:Nat)(x:Lay)(s:Nat):Bool:=QV d c s && !Kc d x.piece (onS x s)
def QGw(L:List Lay):List (Nat×Blk):=(200,.cellsR 0 152 (brC d L.length))::QAm 210 L::(201,.mp E.1 E.2)::Qm.blk 0 d.ps
def myJ(L:List Lay)(x:Lay)(s:Nat):JSt:=⟨113,[(0,.ptr 200 0 0),(3,.ptr 216 0 0),(5,.int false .i64 L.length),(6,.int false .i64 (Qo d L.length)),(7,.int false .i64 (Q2 d L.length)),(49,.agg [.bool false (QV d L.length 0),.bool false (QV d L.length 1),.bool false (QV d L.length 2),.bool false (QV d L.length 3)]),(50,.int false .i64 s)],(216,.cells 0 49 (Enc.enc x).cells)::QGw d E L,224⟩
def Gv:JSt:=⟨113,[(4,.bool false false)],[(201,.mp E.1 E.2)],224⟩
def QIb(L:List Lay)(x:Lay):JSt:=⟨113,[(0,.ptr 200 0 0),(3,.ptr 216 0 0),(5,.int false .i64 L.length),(6,.int false .i64 (Qo d L.length)),(7,.int false .i64 (Q2 d L.length))],(216,.cells 0 49 (Enc.enc x).cells)::QGw d E L,224⟩
def QL0:Ex->List Nat
 | .normal=>[0,3,5,6,7,49,50]
 | .exit _=>[0,3,5,6,7]
 | .ret=>[4]
def HW(pb:List Prop->Bool)(U:UC):Tab:=Qa QT 137 (KG pb U)
abbrev QEf(L:List Lay)(d:Puz)(s:Nat)(x:Lay):List Prop:=
  ([0=0,0=0,x.piece=x.piece,onS x (s:Int)=onS x (s:Int)]++wab d++([cO=cO,0=0,L.length=L.length,cO
  = cO]++wae d))
noncomputable abbrev qP(L:List Lay)(d:Puz):List AV:=
  [.bool false (QV d L.length 0),.bool false (QV d L.length 1),.bool false (QV d L.length 2),.bool false (QV d L.length 3)]
noncomputable abbrev wap(L:List Lay)(d:Puz):List AV:=[vi (L.length:Int),vi (Qo d L.length),vi (Q2 d L.length)]
noncomputable abbrev QMr(L:List Lay)(d:Puz):List AV:=
  (.nilp::.ptr 113 0 0::.ptr 200 0 0::.ptr 216 0 0::List.append (wap L d) ([.agg (qP L d),.int true
  .i64 1]))
noncomputable abbrev VM(L:List Lay)(d:Puz)(x:Lay):List (Nat×Blk):=
  [(201,.mp E.1 E.2),(200,.cellsR 0 152 [vi d.pK.length,vi d.pK.aK,vi d.pK.oK,vi d.pK.dK.lo,.int false .i64
  d.pK.dK.hi,vi d.wide,vi d.high,.bool false d.turn,.slz 0 0 d.ps.n cO,.map 201,.slz 210 0 L.length cO]),(216,.cells 0 49 [.int
  false .i64 x.piece,vi x.turn]),(0,.frz (List.append (waa) ((List.append (waA) ((List.append (waZ) ([.int .i64]))))))
  d.ps.n λi=>QA.enc (d.ps.get i)),(210,.frz kB L.length λi=>QA.enc (L.getD i (Lay.mk (0:Int) (0:Int))))]
noncomputable abbrev QSU(L:List Lay)(d:Puz):List AV:=
  (.nilp::.ptr 113 0 0::.ptr 200 0 0::.ptr 216 0 0::List.append (wap L d) ([.agg (qP L d),.int true
  .i64 2]))
noncomputable abbrev QNz(L:List Lay)(d:Puz):List AV:=
  (.nilp::.ptr 113 0 0::.ptr 200 0 0::.ptr 216 0 0::List.append (wap L d) ([.agg (qP L d),.int true
  .i64 3]))
noncomputable abbrev QTd(L:List Lay)(d:Puz):List AV:=
  (.nilp::.ptr 113 0 0::.ptr 200 0 0::.ptr 216 0 0::List.append (wap L d) ([.agg (qP L d),.int true
  .i64 4]))
noncomputable abbrev wbu:List AV:=[.nili,.ptr 113 0 0,.bool true false]
theorem QUH(pb:List Prop->Bool)(d:Puz)(E:ECt)(L:List Lay)(x:Lay)(s:Nat)(g:Nat->Value):exec (mkF prog (HW pb (flU d L.length x.piece (onS x s)))) (hnd (mkF prog (HW pb (flU d L.length x.piece (onS x s)))) 1) (QI f105 0) (JSt.inst (myJ d E L x s) g) (Q6 [201] QL0) = .br (decide ((s:Int)<4)) (.need (decide ((0:Int)<=(s:Int)/\(s:Int)<4)) (.br (decide ((s:Int)=0)) (.br (QV d L.length 0) (.need (true&&(true&&true)&&decide (((0:Int)<=x.turn/\x.turn<=3)/\(0:Int)<=(s:Int)/\(s:Int)<=3)) (.need (pb ((QEf L d s x))) (.br (!Kc d x.piece (onS x (s:Int))) (.leaf (.tup (wbu)) ([(201,.mp E.1 E.2)])) (.leaf (.tup (QMr L d)) ((VM E L d x)))))) (.leaf (.tup (QMr L d)) ((VM E L d x)))) (.br (decide ((s:Int)=1)) (.br (QV d L.length 1) (.need (true&&(true&&true)&&decide (((0:Int)<=x.turn/\x.turn<=3)/\(0:Int)<=(s:Int)/\(s:Int)<=3)) (.need (pb ((QEf L d s x))) (.br (!Kc d x.piece (onS x (s:Int))) (.leaf (.tup (wbu)) ([(201,.mp E.1 E.2)])) (.leaf (.tup (QSU L d)) ((VM E L d x)))))) (.leaf (.tup (QSU L d)) ((VM E L d x)))) (.br (decide ((s:Int)=2)) (.br (QV d L.length 2) (.need (true&&(true&&true)&&decide (((0:Int)<=x.turn/\x.turn<=3)/\(0:Int)<=(s:Int)/\(s:Int)<=3)) (.need (pb ((QEf L d s x))) (.br (!Kc d x.piece (onS x (s:Int))) (.leaf (.tup (wbu)) ([(201,.mp E.1 E.2)])) (.leaf (.tup (QNz L d)) ((VM E L d x)))))) (.leaf (.tup (QNz L d)) ((VM E L d x)))) (.br (QV d L.length 3) (.need (true&&(true&&true)&&decide (((0:Int)<=x.turn/\x.turn<=3)/\(0:Int)<=(s:Int)/\(s:Int)<=3)) (.need (pb ((QEf L d s x))) (.br (!Kc d x.piece (onS x (s:Int))) (.leaf (.tup (wbu)) ([(201,.mp E.1 E.2)])) (.leaf (.tup (QTd L d)) ((VM E L d x)))))) (.leaf (.tup (QTd L d)) ((VM E L d x)))))))) (.leaf (.tup (.ptr 0 0 0::.ptr 113 0 0::.ptr 200 0 0::.ptr 216 0 0::wap L d)) ((VM E L d x))):=by kernel_rfl
theorem QVA:QE 216 [AV.bool true false] ([((201:Nat),Blk.mp E.1 E.2)]) (Gv E)=( some [false=false,E.1=E.1,E.2=E.2]):=by kernel_rfl
noncomputable abbrev QMC(L:List Lay)(d:Puz):List AV:=
  (.ptr 200 0 0::.ptr 216 0 0::List.append (wap L d) ([.agg (qP L d),vj 1]))
abbrev waj(E:ECt)(L:List Lay):List Prop:=[L.length=L.length,cO=cO,L.length<=L.length,QB 2 L.length (λi=>QA.enc
  (L.getD i (Lay.mk (0:Int) (0:Int)))) λi=>QA.enc (L.getD i (Lay.mk (0:Int) (0:Int))),E.1=E.1,E.2=E.2]
abbrev wbh(L:List Lay)(d:Puz):List Prop:=[(L.length:Int)=(L.length:Int),Qo d L.length=Qo d L.length,Q2 d L.length=Q2 d L.length]
abbrev QRz(L:List Lay)(d:Puz)(s':Nat)(x:Lay):List Prop:=
  (([0=0,0=0,0=0,0=0]++wbh L d++[QV d L.length 0=QV d L.length 0,QV d
  L.length 1=QV d L.length 1,QV d L.length 2=QV d L.length 2,QV d L.length 3=QV d L.length 3,(1:Int)=(s':Int),x.piece=x.piece,x.turn=x.turn])++wab d++(([cO=cO,0=0]++waj E L)++wae d))
theorem QXs(L:List Lay)(x:Lay)(s':Nat):QE 216 (QMC L d) ((VM E L d x)) (myJ d E L x s')=(some (QRz E L d s' x)):=by kernel_rfl
theorem QYN(L:List Lay)(x:Lay)(s':Nat):QE 216 (QMC L d) ((VM E L d x)) (myJ d E L x s')=(some (QRz E L d s' x)):=by kernel_rfl
theorem QZl:QE 216 [AV.bool true false] ([((201:Nat),Blk.mp E.1 E.2)]) (Gv E)=( some [false=false,E.1=E.1,E.2=E.2]):=by kernel_rfl
noncomputable abbrev QNF(L:List Lay)(d:Puz):List AV:=
  (.ptr 200 0 0::.ptr 216 0 0::List.append (wap L d) ([.agg (qP L d),vj 2]))
abbrev wal(L:List Lay)(d:Puz):List Prop:=(wbh L d++[QV d L.length 0=QV d L.length 0,QV d
  L.length 1=QV d L.length 1,QV d L.length 2=QV d L.length 2,QV d L.length 3=QV d L.length 3])
abbrev QQq(L:List Lay)(d:Puz)(s':Nat)(x:Lay):List Prop:=
  (([0=0,0=0,0=0,0=0]++wal L d++[(2:Int)=(s':Int),x.piece=x.piece,x.turn=x.turn])++wab d++(([cO=cO,0=0]++waj E L)++wae d))
theorem Qhz(L:List Lay)(x:Lay)(s':Nat):QE 216 (QNF L d) ((VM E L d x)) (myJ d E L x s')=(some (QQq E L d s' x)):=by kernel_rfl
theorem QYd(L:List Lay)(x:Lay)(s':Nat):QE 216 (QNF L d) ((VM E L d x)) (myJ d E L x s')=(some (QQq E L d s' x)):=by kernel_rfl
theorem QWF:QE 216 [AV.bool true false] ([((201:Nat),Blk.mp E.1 E.2)]) (Gv E)=( some [false=false,E.1=E.1,E.2=E.2]):=by kernel_rfl
noncomputable abbrev QOK(L:List Lay)(d:Puz):List AV:=
  (.ptr 200 0 0::.ptr 216 0 0::List.append (wap L d) ([.agg (qP L d),vj 3]))
abbrev QQ0(L:List Lay)(d:Puz)(s':Nat)(x:Lay):List Prop:=
  (([0=0,0=0,0=0,0=0]++wal L d++[(3:Int)=(s':Int),x.piece=x.piece,x.turn=x.turn])++wab d++(([cO=cO,0=0]++waj E L)++wae d))
theorem QgF(L:List Lay)(x:Lay)(s':Nat):QE 216 (QOK L d) ((VM E L d x)) (myJ d E L x s')=(some (QQ0 E L d s' x)):=by kernel_rfl
theorem Qgb(L:List Lay)(x:Lay)(s':Nat):QE 216 (QOK L d) ((VM E L d x)) (myJ d E L x s')=(some (QQ0 E L d s' x)):=by kernel_rfl
theorem Qd1:QE 216 [AV.bool true false] ([((201:Nat),Blk.mp E.1 E.2)]) (Gv E)=( some [false=false,E.1=E.1,E.2=E.2]):=by kernel_rfl
noncomputable abbrev QSE(L:List Lay)(d:Puz):List AV:=
  (.ptr 200 0 0::.ptr 216 0 0::List.append (wap L d) ([.agg (qP L d),vj 4]))
abbrev QTL(L:List Lay)(d:Puz)(s':Nat)(x:Lay):List Prop:=
  (([0=0,0=0,0=0,0=0]++wal L d++[(4:Int)=(s':Int),x.piece=x.piece,x.turn=x.turn])++wab d++(([cO=cO,0=0]++waj E L)++wae d))
theorem QeR(L:List Lay)(x:Lay)(s':Nat):QE 216 (QSE L d) ((VM E L d x)) (myJ d E L x s')=(some (QTL E L d s' x)):=by kernel_rfl
theorem Qak(L:List Lay)(x:Lay)(s':Nat):QE 216 (QSE L d) ((VM E L d x)) (myJ d E L x s')=(some (QTL E L d s' x)):=by kernel_rfl
theorem QU7(L:List Lay)(x:Lay):QE 216 (.ptr 200 0 0::.ptr 216 0 0::wap L d) ((VM E L d x)) (QIb d E L x)=( some (([0=0,0=0,0=0,0=0]++wbh L d++[x.piece=x.piece,x.turn=x.turn])++wab d++(([cO=cO,0=0]++waj E L)++wae d))):=by kernel_rfl
