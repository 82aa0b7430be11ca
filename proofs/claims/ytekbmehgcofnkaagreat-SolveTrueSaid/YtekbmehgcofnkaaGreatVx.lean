/- - -/
import Derived.Test.YtekbmehgcofnkaaGreatVw
set_option linter.all false
noncomputable section
open Go.Proofs.Tryz
open Go.IntKind (i64)
set_option maxRecDepth 100000
namespace Go.Proofs.YtekbmehgcofnkaaGreat
open Go.SX Go.SX.Told
variable {p q:Qb}{t:Nat}(d:Puz)(E:ECt)(i:Nat)
def meF(p q:Qb)(s t:Nat):Int:=(JN d.pK (KI p s) (KI q t)).1
def QE5(i s k t:Nat)(n:Int)(E:ECt):ECt:=(JZ [(i:Int),(s:Int),(k:Int),(t:Int)] (Kd i s k t) (.int .i64 n) E.2 E.1,clL [(i:Int),(s:Int),(k:Int),(t:Int)] E.2 E.1)
def stE(p q:Qb)(i k s t:Nat)(E:ECt):ECt:=cond (((i:Int) != (k:Int))&&(meF d p q s t != 0)) (QE5 i s k t (meF d p q s t) E) E
def m4(d:Puz)(p q:Qb)(i k s:Nat)(E:ECt):Nat->ECt
 | 0=>E
 | t+1=>stE d p q i k s t (m4 d p q i k s E t)
def m3(d:Puz)(p q:Qb)(i k:Nat)(E:ECt):Nat->ECt
 | 0=>E
 | s+1=>m4 d p q i k s (m3 d p q i k E s) 4
def m2(d:Puz)(p:Qb)(i:Nat)(E:ECt):Nat->ECt
 | 0=>E
 | k+1=>m3 d p (d.ps.get k) i k (m2 d p i E k) 4
def m1(d:Puz):Nat->ECt
 | 0=>([],0)
 | i+1=>m2 d (d.ps.get i) i (m1 d i) d.ps.n
def WfE:Prop:=wf4 .i64 E.1=true
theorem QZ2{es:List MapEntry}(h:wf4 .i64 es=true)(a b c d n:Int):∀ i,wf4 .i64 (VU (Kd a b c d) (.int .i64 n) es i)=true:=by
 induction es with
 | nil=>intro i;cases i<;>rfl
 | cons e es ih=>
  simp only[wf4,List.all_cons,qbA]at h;intro i;cases i with
  | zero=>simp only[VU,wf4,List.all_cons,qbA];exact⟨⟨rfl,rfl⟩,h.2⟩
  | succ i=>
   have:=ih h.2 i;simp only[wf4]at this;simp only[VU,wf4,List.all_cons,qbA];exact⟨h.1,this⟩
theorem QVe{E:ECt}(h:WfE E)(i s k t:Nat)(n:Int):WfE (QE5 i s k t n E):=by
 show wf4 .i64 (JZ _ _ _ E.2 E.1)=true;unfold JZ;split
 .exact QZ2 h _ _ _ _ _ _
 .have h:wf4 .i64 E.1=true:=h;simp only[wf4,List.all_append,qbA]at h ⊢;exact⟨h,rfl⟩
theorem QgD{d:Puz}{i k s:Nat}{E:ECt}(h:WfE E):WfE (stE d p q i k s t E):=by
 unfold stE;cases ((i:Int) != (k:Int))&&(meF d p q s t != 0)
 .exact h
 .exact QVe h _ _ _ _ _
theorem QI5{d:Puz}{p q:Qb}{i k s:Nat}{E:ECt}(h:WfE E):∀ t,WfE (m4 d p q i k s E t)
 | 0=>h
 | t+1=>QgD (QI5 h t)
theorem QLP{d:Puz}{p q:Qb}{i k:Nat}{E:ECt}(h:WfE E):∀ s,WfE (m3 d p q i k E s)
 | 0=>h
 | s+1=>QI5 (QLP h s) 4
theorem QLN{d:Puz}{p:Qb}{i:Nat}{E:ECt}(h:WfE E):∀ k,WfE (m2 d p i E k)
 | 0=>h
 | k+1=>QLP (QLN h k) 4
theorem QKv(d:Puz):∀ i,WfE (m1 d i)
 | 0=>rfl
 | i+1=>QLN (QKv d i) _
theorem QGb{d:Puz}{i k s:Nat}{E:ECt}(h1:((i:Int) != (k:Int))=true)(h2:(meF d p q s t != 0)=true):stE d p q i k s t E=QE5 i s k t (meF d p q s t) E:=by unfold stE;rw[h1,h2];rfl
theorem QDY{d:Puz}{i k s:Nat}{E:ECt}(h2:(meF d p q s t != 0)=false):stE d p q i k s t E=E:=by unfold stE;rw[h2,Bool.and_false];rfl
theorem QGN{d:Puz}{i k s:Nat}{E:ECt}(h1:((i:Int) != (k:Int))=false):stE d p q i k s t E=E:=by unfold stE;rw[h1];rfl
set_option maxHeartbeats 4000000 in
theorem Qjd(p q:Qb)(i k s:Nat)(E:ECt)(hE:WfE E):VH (λt=>Vs d (m4 d p q i k s E t) p q (KI p s) i k s t) (λt=>t<=4) (λt=>4-t) (λ_ e J=>e = .exit 6/\J=QH7 d (m4 d p q i k s E 4) p q i k s) 8 QLn [] (mkF prog KW) (λ_=>hnd (mkF prog KW) 1) (QW (QW (QW (QI f60 0)))):=by
 refine⟨λt g0 hk=>Qh (QdK d (m4 d p q i k s E t) p q (KI p s) i k s t g0) ?_⟩;have hk:t<=4:=hk;have hw:wf4 .i64 (m4 d p q i k s E t).1=true:=QI5 hE t;refine QE (λb0=>?_) (λb0=>?_);refine QG ?_ ?_;rotate_left;refine QE (λb1=>?_) (λb1=>?_);obtain rfl:t=0:=by have:=qdt b1;omega
 refine QG ?_ ?_;rotate_left;refine QE (λb2=>?_) (λb2=>?_);refine QE (λb3=>?_) (λb3=>?_);refine QG ?_ ?_;rotate_left
 .have hs:m4 d p q i k s E 1=_:=QGb b2 b3;refine⟨1,by show 1<=4;omega,by show 4-1<4-0;omega,λ_ _ r=>r,rfl,rfl,_,QbF ..,?_⟩
  have q1:_=(m4 d p q i k s E 1).1:=congrArg Prod.fst hs.symm;have q2:_=(m4 d p q i k s E 1).2:=congrArg Prod.snd hs.symm
  repeat' first|with_reducible refine QM ?_ ?_|exact tv|exact qRr|exact q1|exact q2|exact rfl|refine aI ?_ ?_
 .have hs:m4 d p q i k s E 1=_:=QDY b3;refine⟨1,by show 1<=4;omega,by show 4-1<4-0;omega,λ_ _ r=>r,rfl,rfl,_,QYm ..,?_⟩
  have q1:_=(m4 d p q i k s E 1).1:=congrArg Prod.fst hs.symm;have q2:_=(m4 d p q i k s E 1).2:=congrArg Prod.snd hs.symm
  repeat' first|with_reducible refine QM ?_ ?_|exact tv|exact qRr|exact q1|exact q2|exact rfl|refine aI ?_ ?_
 .have hs:m4 d p q i k s E 1=_:=QGN b2;refine⟨1,by show 1<=4;omega,by show 4-1<4-0;omega,λ_ _ r=>r,rfl,rfl,_,QcN ..,?_⟩
  have q1:_=(m4 d p q i k s E 1).1:=congrArg Prod.fst hs.symm;have q2:_=(m4 d p q i k s E 1).2:=congrArg Prod.snd hs.symm
  repeat' first|with_reducible refine QM ?_ ?_|exact tv|exact qRr|exact q1|exact q2|exact rfl|refine aI ?_ ?_
 refine QE (λb4=>?_) (λb4=>?_);obtain rfl:t=1:=by have:=qdt b4;omega
 refine QG ?_ ?_;rotate_left;refine QE (λb5=>?_) (λb5=>?_);refine QE (λb6=>?_) (λb6=>?_);refine QG ?_ ?_;rotate_left
 .have hs:m4 d p q i k s E 2=_:=QGb b5 b6;refine⟨2,by show 2<=4;omega,by show 4-2<4-1;omega,λ_ _ r=>r,rfl,rfl,_,QWu ..,?_⟩
  have q1:_=(m4 d p q i k s E 2).1:=congrArg Prod.fst hs.symm;have q2:_=(m4 d p q i k s E 2).2:=congrArg Prod.snd hs.symm
  repeat' first|with_reducible refine QM ?_ ?_|exact tv|exact qRr|exact q1|exact q2|exact rfl|refine aI ?_ ?_
 .have hs:m4 d p q i k s E 2=_:=QDY b6;refine⟨2,by show 2<=4;omega,by show 4-2<4-1;omega,λ_ _ r=>r,rfl,rfl,_,Qk9 ..,?_⟩
  have q1:_=(m4 d p q i k s E 2).1:=congrArg Prod.fst hs.symm;have q2:_=(m4 d p q i k s E 2).2:=congrArg Prod.snd hs.symm
  repeat' first|with_reducible refine QM ?_ ?_|exact tv|exact qRr|exact q1|exact q2|exact rfl|refine aI ?_ ?_
 .have hs:m4 d p q i k s E 2=_:=QGN b5;refine⟨2,by show 2<=4;omega,by show 4-2<4-1;omega,λ_ _ r=>r,rfl,rfl,_,Qiq ..,?_⟩
  have q1:_=(m4 d p q i k s E 2).1:=congrArg Prod.fst hs.symm;have q2:_=(m4 d p q i k s E 2).2:=congrArg Prod.snd hs.symm
  repeat' first|with_reducible refine QM ?_ ?_|exact tv|exact qRr|exact q1|exact q2|exact rfl|refine aI ?_ ?_
 refine QE (λb7=>?_) (λb7=>?_);obtain rfl:t=2:=by have:=qdt b7;omega
 refine QG ?_ ?_;rotate_left;refine QE (λb8=>?_) (λb8=>?_);refine QE (λb9=>?_) (λb9=>?_);refine QG ?_ ?_;rotate_left
 .have hs:m4 d p q i k s E 3=_:=QGb b8 b9;refine⟨3,by show 3<=4;omega,by show 4-3<4-2;omega,λ_ _ r=>r,rfl,rfl,_,QYj ..,?_⟩
  have q1:_=(m4 d p q i k s E 3).1:=congrArg Prod.fst hs.symm;have q2:_=(m4 d p q i k s E 3).2:=congrArg Prod.snd hs.symm
  repeat' first|with_reducible refine QM ?_ ?_|exact tv|exact qRr|exact q1|exact q2|exact rfl|refine aI ?_ ?_
 .have hs:m4 d p q i k s E 3=_:=QDY b9;refine⟨3,by show 3<=4;omega,by show 4-3<4-2;omega,λ_ _ r=>r,rfl,rfl,_,Qek ..,?_⟩
  have q1:_=(m4 d p q i k s E 3).1:=congrArg Prod.fst hs.symm;have q2:_=(m4 d p q i k s E 3).2:=congrArg Prod.snd hs.symm
  repeat' first|with_reducible refine QM ?_ ?_|exact tv|exact qRr|exact q1|exact q2|exact rfl|refine aI ?_ ?_
 .have hs:m4 d p q i k s E 3=_:=QGN b8;refine⟨3,by show 3<=4;omega,by show 4-3<4-2;omega,λ_ _ r=>r,rfl,rfl,_,QcK ..,?_⟩
  have q1:_=(m4 d p q i k s E 3).1:=congrArg Prod.fst hs.symm;have q2:_=(m4 d p q i k s E 3).2:=congrArg Prod.snd hs.symm
  repeat' first|with_reducible refine QM ?_ ?_|exact tv|exact qRr|exact q1|exact q2|exact rfl|refine aI ?_ ?_
 obtain rfl:t=3:=by
  have h0:=qdt b0;have h1:=qdf b1;have h2:=qdf b4;have h3:=qdf b7;omega
 refine QG ?_ ?_;rotate_left;refine QE (λb10=>?_) (λb10=>?_);refine QE (λb11=>?_) (λb11=>?_);refine QG ?_ ?_;rotate_left
 .have hs:m4 d p q i k s E 4=_:=QGb b10 b11;refine⟨4,by show 4<=4;omega,by show 4-4<4-3;omega,λ_ _ r=>r,rfl,rfl,_,Qj5 ..,?_⟩
  have q1:_=(m4 d p q i k s E 4).1:=congrArg Prod.fst hs.symm;have q2:_=(m4 d p q i k s E 4).2:=congrArg Prod.snd hs.symm
  repeat' first|with_reducible refine QM ?_ ?_|exact tv|exact qRr|exact q1|exact q2|exact rfl|refine aI ?_ ?_
 .have hs:m4 d p q i k s E 4=_:=QDY b11;refine⟨4,by show 4<=4;omega,by show 4-4<4-3;omega,λ_ _ r=>r,rfl,rfl,_,Qa8 ..,?_⟩
  have q1:_=(m4 d p q i k s E 4).1:=congrArg Prod.fst hs.symm;have q2:_=(m4 d p q i k s E 4).2:=congrArg Prod.snd hs.symm
  repeat' first|with_reducible refine QM ?_ ?_|exact tv|exact qRr|exact q1|exact q2|exact rfl|refine aI ?_ ?_
 .have hs:m4 d p q i k s E 4=_:=QGN b10;refine⟨4,by show 4<=4;omega,by show 4-4<4-3;omega,λ_ _ r=>r,rfl,rfl,_,Qg0 ..,?_⟩
  have q1:_=(m4 d p q i k s E 4).1:=congrArg Prod.fst hs.symm;have q2:_=(m4 d p q i k s E 4).2:=congrArg Prod.snd hs.symm
  repeat' first|with_reducible refine QM ?_ ?_|exact tv|exact qRr|exact q1|exact q2|exact rfl|refine aI ?_ ?_
 obtain rfl:t=4:=by have:=qdf b0;omega
 refine⟨_,⟨rfl,rfl⟩,rfl,rfl,_,QW9 ..,?_⟩
 rotate_left
 all_goals first|((with_reducible show _=true);(first|exact hw|rfl|(simp;omega)|(simp at b0 ⊢;omega)))|(repeat' first|with_reducible refine QM ?_ ?_|exact tv|exact qRr|refine aI ?_ ?_)
theorem QaZ(p q:Qb)(i k s:Nat)(E:ECt)(hE:WfE E)(G:Ctx)(hrd:G.rd=none)(hG:G.n<=8):Q0 (mkF prog KW) G (QKS prog d E (m4 d p q i k s E 4) p q (KI p s) i k s) (QW (QW (QI f60 0))):=by
 refine KO (body:=QW (QW (QW (QI f60 0)))) (KS Jf) hrd (by kernel_rfl) ?_
 refine XP (I:=λt=>Vs d (m4 d p q i k s E t) p q (KI p s) i k s t) (n0:=8) (KS Jf) hG (λt ht=>Qz (KS Jf) 1 G _ hrd) (λt ht=>(by decide:8<=104)) ?_ (Qjd d p q i k s E hE) (s0:=0) (Nat.zero_le _) ?_
 .rintro s e J ⟨_,rfl⟩;exact(by decide:8<=104)
 .rintro e J ⟨rfl,rfl⟩;exact⟨_,qmc,trivial,rfl,rfl⟩
set_option maxHeartbeats 4000000 in
theorem Qfn(p q:Qb)(i k:Nat)(E:ECt):VH (λs=>qK d (m3 d p q i k E s) p q i k s) (λs=>s<=4) (λs=>4-s) (λ_ e J=>e = .exit 4/\J=QJB d (m3 d p q i k E 4) p i k) 8 QS4 [] (mkF prog KW) (λs=>QKS prog d (m3 d p q i k E s) (m4 d p q i k s (m3 d p q i k E s) 4) p q (KI p s) i k s) (QW (QW (QI f60 0))):=by
 refine⟨λs g0 hk=>Qh (QbS d (m3 d p q i k E s) (m4 d p q i k s (m3 d p q i k E s) 4) p q (KI p s) i k s g0) ?_⟩;have hk:s<=4:=hk;refine QE (λb0=>?_) (λb0=>?_);refine QG ?_ ?_;rotate_left;refine QE (λb1=>?_) (λb1=>?_);obtain rfl:s=0:=by have:=qdt b1;omega
 iterate 170 refine Qt (by first|exact tv|exact qRr|rfl) ?_
 refine Qk λa0=>?_;refine Ql λg0=>?_;refine⟨1,by show 1<=4;omega,by show 4-1<4-0;omega,λ_ _ r=>r,rfl,rfl,_,QiW ..,?_⟩
 rotate_left
 refine QE (λb2=>?_) (λb2=>?_);obtain rfl:s=1:=by have:=qdt b2;omega
 iterate 170 refine Qt (by first|exact tv|exact qRr|rfl) ?_
 refine Qk λa1=>?_;refine Ql λg1=>?_;refine⟨2,by show 2<=4;omega,by show 4-2<4-1;omega,λ_ _ r=>r,rfl,rfl,_,Qdx ..,?_⟩
 rotate_left
 refine QE (λb3=>?_) (λb3=>?_);obtain rfl:s=2:=by have:=qdt b3;omega
 iterate 170 refine Qt (by first|exact tv|exact qRr|rfl) ?_
 refine Qk λa2=>?_;refine Ql λg2=>?_;refine⟨3,by show 3<=4;omega,by show 4-3<4-2;omega,λ_ _ r=>r,rfl,rfl,_,Qc7 ..,?_⟩
 rotate_left
 obtain rfl:s=3:=by
  have h0:=qdt b0;have h1:=qdf b1;have h2:=qdf b2;have h3:=qdf b3;omega
 iterate 170 refine Qt (by first|exact tv|exact qRr|rfl) ?_
 refine Qk λa3=>?_;refine Ql λg3=>?_;refine⟨4,by show 4<=4;omega,by show 4-4<4-3;omega,λ_ _ r=>r,rfl,rfl,_,Qbe ..,?_⟩
 rotate_left
 obtain rfl:s=4:=by have:=qdf b0;omega
 refine⟨_,⟨rfl,rfl⟩,rfl,rfl,_,Qid ..,?_⟩
 rotate_left
 all_goals first|((with_reducible show _=true);(first|rfl|(simp at b0 ⊢;omega)))|(repeat' first|with_reducible refine QM ?_ ?_|exact tv|exact qRr|exact rfl|refine aI ?_ ?_)
theorem Qjr(p:Qb)(i k:Nat)(E:ECt)(hE:WfE E)(G:Ctx)(hrd:G.rd=none)(hG:G.n<=8):Q0 (mkF prog KW) G (QK9 prog d E (m3 d p (d.ps.get k) i k E 4) p (d.ps.get k) i k) (QW (QI f60 0)):=by
 refine KO (body:=QW (QW (QI f60 0))) (KS Jf) hrd (by kernel_rfl) ?_
 refine JJ λhi=>?_;refine XP (I:=λs=>qK d (m3 d p (d.ps.get k) i k E s) p (d.ps.get k) i k s) (n0:=8) (KS Jf) hG (λs hs=>QaZ d p (d.ps.get k) i k s _ (QLP hE s) G hrd hG) (λt ht=>(by decide:8<=104)) ?_ (Qfn d p (d.ps.get k) i k E) (s0:=0) (Nat.zero_le _) ?_
 .rintro s e J ⟨_,rfl⟩;exact(by decide:8<=104)
 .rintro e J ⟨rfl,rfl⟩;exact⟨_,qmc,trivial,rfl,rfl⟩
set_option maxHeartbeats 4000000 in
theorem QZw(p:Qb)(i:Nat)(E:ECt)(hE:WfE E)(hn:d.ps.n<2^62):VH (λk=>QBX d (m2 d p i E k) p i k) (λk=>k<=d.ps.n) (λk=>d.ps.n-k) (λ_ e J=>e = .exit 2/\J=QKF d (m2 d p i E d.ps.n) i) 8 QVs [] (mkF prog KW) (λk=>QK9 prog d (m2 d p i E k) (m3 d p (d.ps.get k) i k (m2 d p i E k) 4) p (d.ps.get k) i k) (QW (QI f60 0)):=by
 refine⟨λk g0 hk=>Qh (Qia d (m2 d p i E k) (m3 d p (d.ps.get k) i k (m2 d p i E k) 4) p (d.ps.get k) i k g0) ?_⟩;have hk:k<=d.ps.n:=hk;refine QE (λb0=>?_) (λb0=>?_);have h:k<d.ps.n:=by have:=qdt b0;omega
 have hw:i64.wrap ((k:Int)+1)=((k+1:Nat):Int):=(w64 (by omega) (by omega)).trans (by omega)
 iterate 2 (refine QG ?_ ?_;rotate_left)
 iterate 132 refine Qt (by first|exact tv|exact h|exact qRr|rfl) ?_
 refine Qk λa0=>?_;refine Ql λg0=>?_;refine⟨k+1,h,by show d.ps.n-(k+1)<d.ps.n-k;omega,λ_ _ r=>r,rfl,rfl,_,QXX ..,?_⟩
 rotate_left
 obtain rfl:k=d.ps.n:=by have:=qdf b0;omega
 refine⟨_,⟨rfl,rfl⟩,rfl,rfl,_,QgI ..,?_⟩
 rotate_left
 all_goals first|((with_reducible show _=true);(first|rfl|(simp at b0 ⊢;omega)))|(repeat' first|with_reducible refine QM ?_ ?_|exact tv|exact qRr|exact hw|exact rfl|refine aI ?_ ?_)
theorem QgZ(hn:d.ps.n<2^62)(G:Ctx)(hrd:G.rd=none)(hG:G.n<=8):Q0 (mkF prog KW) G (QJ1 prog d (m1 d i) (m2 d (d.ps.get i) i (m1 d i) d.ps.n) (d.ps.get i) i) (QI f60 0):=by
 refine KO (body:=QW (QI f60 0)) (KS Jf) hrd (by kernel_rfl) ?_
 refine JJ λhi=>?_;refine XP (I:=λk=>QBX d (m2 d (d.ps.get i) i (m1 d i) k) (d.ps.get i) i k) (n0:=8) (KS Jf) hG (λk hk=>Qjr d (d.ps.get i) i k _ (QLN (QKv d i) k) G hrd hG) (λt ht=>(by decide:8<=104)) ?_ (QZw d (d.ps.get i) i (m1 d i) (QKv d i) hn) (s0:=0) (Nat.zero_le _) ?_
 .rintro s e J ⟨_,rfl⟩;exact(by decide:8<=104)
 .rintro e J ⟨rfl,rfl⟩;exact⟨_,qmc,trivial,rfl,rfl⟩
set_option maxHeartbeats 4000000 in
theorem QX2(hn:d.ps.n<2^62):VH (λi=>QB5 d (m1 d i) i) (λi=>i<=d.ps.n) (λi=>d.ps.n-i) (λ_ e J=>e = .exit 0/\J=QKw d (m1 d d.ps.n)) 8 QPI [] (mkF prog KW) (λi=>QJ1 prog d (m1 d i) (m2 d (d.ps.get i) i (m1 d i) d.ps.n) (d.ps.get i) i) (QI f60 0):=by
 refine⟨λi g0 hk=>Qh (QWq d (m1 d i) (m2 d (d.ps.get i) i (m1 d i) d.ps.n) (d.ps.get i) i g0) ?_⟩;have hk:i<=d.ps.n:=hk;refine QE (λb0=>?_) (λb0=>?_);have h:i<d.ps.n:=by have:=qdt b0;omega
 have hw:i64.wrap ((i:Int)+1)=((i+1:Nat):Int):=(w64 (by omega) (by omega)).trans (by omega)
 iterate 2 (refine QG ?_ ?_;rotate_left)
 iterate 72 refine Qt (by first|exact tv|exact h|exact qRr|rfl) ?_
 refine Qk λa0=>?_;refine Ql λg0=>?_;refine⟨i+1,h,by show d.ps.n-(i+1)<d.ps.n-i;omega,λ_ _ r=>r,rfl,rfl,_,QgG ..,?_⟩
 rotate_left
 obtain rfl:i=d.ps.n:=by have:=qdf b0;omega
 refine⟨_,⟨rfl,rfl⟩,rfl,rfl,_,Qg2 ..,?_⟩
 rotate_left
 all_goals first|((with_reducible show _=true);(first|rfl|(simp at b0 ⊢;omega)))|(repeat' first|with_reducible refine QM ?_ ?_|exact tv|exact qRr|exact hw|exact rfl|refine aI ?_ ?_)
end Go.Proofs.YtekbmehgcofnkaaGreat
namespace Go.SX
theorem QWQ{i n:Nat}(h:i<n):Nat.blt i n=true:=by rw[Nat.blt_eq];exact h
theorem QRW{i n:Nat}(h:¬ i<n):Nat.blt i n=false:=by
 cases hb:Nat.blt i n with
 | false=>rfl
 | true=>rw[Nat.blt_eq]at hb;exact absurd hb h
end Go.SX
namespace Go.Proofs.YtekbmehgcofnkaaGreat
open Go.SX Go.SX.Told
def QIT(id c:Nat)(d:Puz)(E:ECt):List (Nat×Blk):=[(id,.cells 0 152 (KZ d++[.map c,.nils])),(c,.mp E.1 E.2)]
abbrev nbH(P:Program)(d:Puz)(E:ECt):Hnd:={ hnd (mkF P KW) 1 with loop:=λ_=>KF 8 [] (QB5 d ([],0) (0:Nat)) [(True,.exit 0,QKw d E)] }
variable (d:Puz)(n:Nat)(E:ECt)(a:Int)(k:Nat)
theorem QXk(hn:d.ps.n<2^62)(G:Ctx)(hrd:G.rd=none)(hG:G.n=8):Q0 (mkF prog KW) G (nbH prog d (m1 d d.ps.n)) (Qn f60):=by
 refine KO (body:=QI f60 0) (KS Jf) hrd (by kernel_rfl) ?_
 refine XP (I:=λi=>QB5 d (m1 d i) i) (n0:=8) (KS Jf) (by omega) (λi hs=>QgZ d i hn G hrd (by omega)) (λs hs=>(by decide:8<=104)) ?_ (QX2 d hn) (s0:=0) (Nat.zero_le _) ?_
 .rintro s e J ⟨_,rfl⟩;exact(by decide:8<=104)
 .rintro e J ⟨rfl,rfl⟩;exact⟨_,qmc,trivial,rfl,rfl⟩
def nbU:UC:=⟨8,⟨1,[(0,.agg (KZ d))],Qg.blk 0 d.ps,8⟩,λm=>.ptr m 0 0,λm=>QIT m (m+1) d E⟩
abbrev QLj(d:Puz):List (Nat×Blk):=[(48,.cells 0 152 (List.append (waf d) ([.map 32,.nils]))),(0,.frz (wae) d.ps.n λi=>QA.enc (d.ps.get i)),(32,.mp E.1 E.2)]
theorem QkW :VK (mkF prog KW) (nbH prog d E) f60 (nbU d E) = .ak (([0=0,0=0,0=0,0=0,0=0]++wbO d++[(0:Int)=0])++waa d++[cO=cO]++waa d++([cO=cO,([]:List MapEntry)=[],0=0]++wad d)) (.asm (True) (.all (λ(g0:Nat->Value)=>.leaf (.ptr 48 0 0) ((QLj E d))))):=by kernel_rfl
theorem Qdg :QF 8 [(.ptr 48 0 0)] ((QLj E d)) (KX (nbU d E))=(some ([0=0,0=0]++waa d++[cO=cO,E.1=E.1,E.2=E.2])):=by kernel_rfl
theorem QIa(nid:Nat):Jt 8 8 nid (8+k)=nid+k:=by
 have:Nat.blt (8+k) 8=false:=QRW (by omega)
 simp only[Jt,this];omega
theorem QXL{i:Nat}(h:i<8)(nid:Nat):Jt 8 8 nid i=i:=by
 simp only[Jt,QWQ h]
theorem QiJ:(nbU d E).Ok:=by
 refine⟨(by decide:8<=8),rfl,rfl,?_,rfl,λnid h=>?_,λnid h=>?_⟩
 .intro q hq;simp only[UC.po,nbU,QIT,List.mem_cons,List.not_mem_nil,or_false]at hq;rcases hq with rfl|rfl
  .exact⟨rfl,rfl,rfl,λh=>absurd (show 8<8 from h) (by decide)⟩
  .exact⟨rfl,rfl,rfl,λh=>absurd (show 9<8 from h) (by decide)⟩
 .have e0:=QIa 0 nid;simp only[UC.va,nbU,AV.mapId,Nat.add_zero]at e0 ⊢;rw[e0]
 .have e0:=QIa 0 nid;have e1:=QIa 1 nid;have l0:=QXL (i:=0) (by decide) nid
  simp only[UC.po,nbU,QIT,KZ,Qg.val,List.cons_append,List.nil_append,List.map_cons,List.map_nil,Blk.mapId,AV.mapId,AV.mapIdL,Nat.add_zero,Nat.zero_add]at e0 e1 l0 ⊢;rw[e0,e1,l0]
theorem qC(hn:d.ps.n<2^62):QS prog 60 (uFC (nbU d (m1 d d.ps.n))):=by
 refine K0 (E:=mkF prog KW) (KS Jf) func60 (by kernel_rfl) (by kernel_rfl) (QiJ ..) (QXk d hn) ⟨?_⟩
 generalize m1 d d.ps.n=E;refine Qh (QkW d E) ?_
 iterate 35 refine Qt (by first|exact tv|exact qRr|rfl) ?_
 refine Qk λa0=>?_;refine Ql λg0=>?_;refine⟨rfl,rfl,_,Qdg d E,?_⟩
 rotate_left
 all_goals (repeat' first|exact tv|exact qRr|refine aI ?_ ?_)
structure Lay where
 piece:Int
 turn:Int
instance : QA Lay where
  ks := [.int .i64,.int .i64]
  enc p j := match j with
    | 0 => p.piece
    | _ => p.turn
  dec f := ⟨f 0,f 1⟩
  ok _ := rfl
instance : Enc Lay where
  enc x := .agg [.int false .i64 x.piece,.int false .i64 x.turn]
  dec | .agg [.int _ .i64 a0,.int _ .i64 a1] => some ⟨a0,a1⟩ | _ => none
  ok v x h := by
    split at h <;> (try (cases h; done))
    simp only[qsI]at h; subst h; exact⟨λ_=>rfl,rfl⟩
structure Pt where
 cell:Int
 lay:Lay
instance : QA Pt where
  ks := [.int .i64,.int .i64,.int .i64]
  enc p j := match j with
    | 0 => p.cell
    | 1 => p.lay.piece
    | _ => p.lay.turn
  dec f := ⟨f 0,⟨f 1,f 2⟩⟩
  ok _ := rfl
def QCl(id:Nat)(L:List Lay):Nat×Blk:=(id,.frz kB L.length λi=>QA.enc (L.getD i ⟨0,0⟩))
def brC:List AV:=KZ d++[.map 201,.slz 210 0 n (.of 0)]
def brR:List (Nat×Blk):=(200,.cellsR 0 152 (brC d n))::Qg.blk 0 d.ps
def Kp(a b:Int):Bool:=(KI (d.ps.get a.toNat) b.toNat).kind==0
def flU(a b:Int):UC:=⟨0,⟨2,[(0,.ptr 200 0 0),(1,.agg [.int false .i64 a,.int false .i64 b])],brR d n,216⟩,λ_=>.bool false (Kp d a b),λ_=>[]⟩
def tnV:Int:=cond (d.turn&&decide (0<a)) 4 1
def tnU:UC:=⟨0,⟨2,[(0,.ptr 200 0 0),(1,.int false .i64 a)],brR d n,216⟩,λ_=>.int false .i64 (tnV d a),λ_=>[]⟩
theorem Qbc(a b:Int):VK (mkF prog KW) (hnd (mkF prog KW) 1) f137 (flU d n a b)=QC.need (decide ((0:Int)<=a/\a<(↑d.ps.n:Int))&&decide (d.ps.n<=d.ps.n)) (QC.need (decide ((0:Int)<=b/\b<(4:Int))) (QC.br (decide (b=(0:Int))) (QC.need (decide (a.toNat<d.ps.n)) (QC.leaf (AV.bool false ((d.ps.get a.toNat).up.kind==(0:Int))) ([]))) (QC.br (decide (b=(1:Int))) (QC.need (decide (a.toNat<d.ps.n)) (QC.leaf (AV.bool false ((d.ps.get a.toNat).right.kind==(0:Int))) ([]))) (QC.br (decide (b=(2:Int))) (QC.need (decide (a.toNat<d.ps.n)) (QC.leaf (AV.bool false ((d.ps.get a.toNat).down.kind==(0:Int))) ([]))) (QC.need (decide (a.toNat<d.ps.n)) (QC.leaf (AV.bool false ((d.ps.get a.toNat).left.kind==(0:Int))) ([]))))))):=by kernel_rfl
theorem Qjh(a b:Int)(c v:Bool):QF 216 [.bool c v] [] (KX (flU d n a b))=( some [v=Kp d a b]):=by kernel_rfl
theorem QZ4:VK (mkF prog KW) (hnd (mkF prog KW) 1) f52 (tnU d n a)=QC.br (d.turn) (QC.br (decide (a>(0:Int))) (QC.leaf (vj (4:Int)) ([])) (QC.leaf (vj (1:Int)) ([]))) (QC.leaf (vj (1:Int)) ([])):=by kernel_rfl
theorem Qg5(a v:Int)(c:Bool):QF 216 [.int c .i64 v] [] (KX (tnU d n a))=( some [v=tnV d a]):=by kernel_rfl
theorem QUQ(a b:Int)(h1:0<=a)(h2:a<d.ps.n)(h3:0<=b)(h4:b<4):QS prog 137 (uFC (flU d n a b)):=by
 refine K0 (E:=mkF prog KW) (KS Jf) (c:=Qn f137) func137 (by kernel_rfl) (by kernel_rfl) (QOu (Nat.zero_le _) rfl rfl λ_=>rfl) (λG h1 _=>Qz (KS Jf) 1 G _ h1) ⟨?_⟩
 refine Qh (Qbc d n a b) ?_;have fin:∀(v:Bool),v=Kp d a b->(QC.leaf (.bool false v) []).den (jx (flU d n a b)):=λv h=>⟨rfl,rfl,_,Qjh d n a b false v,⟨h,trivial⟩⟩
 iterate 2 (refine QG ?_ ?_;rotate_left)
 refine QE (λb0=>?_) (λb0=>?_);refine QG ?_ ?_;rotate_left
 .obtain rfl:b=0:=qdt b0;exact fin _ rfl
 refine QE (λb1=>?_) (λb1=>?_);refine QG ?_ ?_;rotate_left
 .obtain rfl:b=1:=qdt b1;exact fin _ rfl
 refine QE (λb2=>?_) (λb2=>?_);refine QG ?_ ?_;rotate_left
 .obtain rfl:b=2:=qdt b2;exact fin _ rfl
 refine QG ?_ ?_;rotate_left
 .obtain rfl:b=3:=by
   have h0:=qdf b0;have h1:=qdf b1;have h2:=qdf b2;omega
  exact fin _ rfl
 all_goals simp;omega
theorem Yf:QS prog 52 (uFC (tnU d n a)):=by
 refine K0 (E:=mkF prog KW) (KS Jf) (c:=Qn f52) func52 (by kernel_rfl) (by kernel_rfl) (QOu (Nat.zero_le _) rfl rfl λ_=>rfl) (λG h1 _=>Qz (KS Jf) 1 G _ h1) ⟨?_⟩
 refine Qh (QZ4 d n a) ?_;have fin:∀(v:Int),v=tnV d a->(QC.leaf (.int true .i64 v) []).den (jx (tnU d n a)):=λv h=>⟨rfl,rfl,_,Qg5 d n a v true,⟨h,trivial⟩⟩;refine QE (λb0=>?_) (λb0=>?_);refine QE ?_ ?_<;>intro b1
 .refine fin _ ?_;have:decide (0<a)=true:=b1;rw[tnV,b0,this];rfl
 .refine fin _ ?_;have:decide (0<a)=false:=b1;rw[tnV,b0,this];rfl
 .refine fin _ ?_;rw[tnV,b0];rfl
def X5(K:Rw Pt)(c:Int)(x:Lay)(k:Nat):Bool:=((K.get k).cell==c && !((K.get k).lay.piece==x.piece&&(K.get k).lay.turn==x.turn))||((K.get k).lay.piece==x.piece && !((K.get k).cell==c))
def Qj(K:Rw Pt)(c:Int)(x:Lay):Bool:=(QR (X5 K c x) K.n 0).isNone
def alJ(K:Rw Pt)(c:Int)(x:Lay)(k:Nat):JSt:=⟨40,[(1,.int false .i64 c),(5,.ptr 8 0 0),(9,.slz 0 0 K.n (.of 0)),(10,.int false .i64 K.n),(11,.int false .i64 k)],[(8,.cells 0 49 (Enc.enc x).cells)]++Qg.blk 0 K,48⟩
def QLA:JSt:=⟨40,[(6,.bool false false)],[],48⟩
def QHK:JSt:=⟨40,[],[],48⟩
def QMB:Ex->List Nat
 | .normal=>[1,5,9,10,11]
 | .exit _=>[]
 | .ret=>[6]
theorem QjX(K:Rw Pt)(c:Int)(x:Lay)(k:Nat)(g:Nat->Value):exec (mkS prog KW) (hnd (mkS prog KW) 1) (QI f104 0) (JSt.inst (alJ K c x k) g) (Q5 [] QMB) = .br (decide ((k:Int)<(K.n:Int))) (.need (decide ((0:Int)<=(k:Int)/\(k:Int)<(K.n:Int))&&decide (K.n<=K.n)) (.need (decide (k<K.n)) (.need (!(K.get k).cell==c||(K.get k).cell==c) (.need (!(K.get k).cell==c||(K.get k).cell==c&&(K.get k).cell==c) (.need (!(K.get k).cell==c||(K.get k).cell==c) (.bnd ((K.get k).cell==c&&!((K.get k).lay.piece==x.piece&&((K.get k).lay.turn==x.turn&&true))) (λ(x0:Bool)=>.need (!!x0||!x0) (.need (!!x0||!x0) (.need (!!x0||!x0) (.need (!!x0||!x0&&!x0) (.need (!!x0||!x0) (.need (!(!x0&&(K.get k).lay.piece==x.piece)||!x0&&(K.get k).lay.piece==x.piece) (.need (!(!x0&&(K.get k).lay.piece==x.piece)||!x0&&(K.get k).lay.piece==x.piece&&(!x0&&(K.get k).lay.piece==x.piece)) (.need (!!x0||!x0&&(!(K.get k).lay.piece==x.piece||!x0&&(K.get k).lay.piece==x.piece)) (.bnd ((K.get k).lay.piece==x.piece&&(K.get k).cell != c) (λ(x1:Bool)=>.need (x0||!x0) (.bnd (x0||x1) (λ(x2:Bool)=>.br (x2) (.leaf (.tup [.nili,.ptr 40 0 0,.bool true false]) ([])) (.leaf (.tup [.nilp,.ptr 40 0 0,vi c,.ptr 8 0 0,.slz 0 0 K.n cO,vi (K.n:Int),vi (i64.wrap ((k:Int)+1))]) ([(8,.cells 0 49 [vi x.piece,vi x.turn]),(0,.frz (waJ) K.n λi=>QA.enc (K.get i))])))))))))))))))))))) (.leaf (.tup [.ptr 0 0 0,.ptr 40 0 0]) ([])):=by kernel_rfl
theorem Qif :QF 8 [AV.bool true false] ([]) QLA=( some [false=false]):=by kernel_rfl
abbrev wbB(x:Lay):List Prop:=[x.piece=x.piece,x.turn=x.turn]
theorem QY7(K:Rw Pt)(c:Int)(x:Lay)(k k':Nat):QF 8 [vi c,AV.ptr (8:Nat) (0:Nat) (0:Nat),AV.slz (0:Nat) (0:Nat) K.n cO,vi (↑K.n:Int),vi (i64.wrap ((↑k:Int)+(1:Int)))] ([((8:Nat),Blk.cells (0:Nat) (49:Nat) [vi x.piece,vi x.turn]),((0:Nat),Blk.frz [CK.int i64,CK.int i64,CK.int i64] K.n λi=>QA.enc (K.get i))]) (alJ K c x k')=( some ([c=c,0=0,0=0,0=0,K.n=K.n,cO=cO,(↑K.n:Int)=(↑K.n:Int),i64.wrap ((↑k:Int)+(1:Int))=(↑k':Int)]++wbB x++[K.n<=K.n,QB (3:Nat) K.n (λi=>QA.enc (K.get i)) λi=>QA.enc (K.get i)])):=by kernel_rfl
theorem QiQ :QF 8 [] ([]) QHK=( some []):=by kernel_rfl
def alR(K:Rw Pt)(c:Int)(x:Lay)(k:Nat)(e:Ex)(J:JSt):Prop:=(e = .ret/\(QR (X5 K c x) (K.n-k) k).isNone=false/\J=QLA)∨(e = .exit 0/\(QR (X5 K c x) (K.n-k) k).isNone=true/\J=QHK)
theorem Qa9(K:Rw Pt)(c:Int)(x:Lay)(hn:K.n<=1000):VH (alJ K c x) (λk=>k<=K.n) (λk=>K.n-k) (alR K c x) 8 QMB [] (mkS prog KW) (λ_=>hnd (mkS prog KW) 1) (QI f104 0):=by
 refine⟨λk g0 hk=>Qh (QjX K c x k g0) ?_⟩;have hk:k<=K.n:=hk;refine QE (λb0=>?_) (λb0=>?_);have h:k<K.n:=by have:=qdt b0;omega
 have hf:=VC (p:=X5 K c x) h
 iterate 5 (refine QG ?_ ?_;rotate_left)
 refine Jc λz0 y0=>?_
 iterate 8 (refine QG ?_ ?_;rotate_left)
 refine Jc λz1 y1=>?_;refine QG ?_ ?_;rotate_left;refine Jc λz2 y2=>?_;refine QE ?_ ?_<;>intro b1
 .have hb:X5 K c x k=true:=by rw[<-b1,y2,y1,y0,X5];simp[bne]
  exact⟨_,.inl ⟨rfl,by rw[hf.1 hb];rfl,rfl⟩,rfl,rfl,_,Qif,⟨rfl,trivial⟩⟩
 have hb:X5 K c x k=false:=by rw[<-b1,y2,y1,y0,X5];simp[bne]
 refine⟨k+1,h,by show K.n-(k+1)<K.n-k;omega,λe J h=>by unfold alR at h ⊢;rw[hf.2 hb];exact h,rfl,rfl,_,QY7 K c x k (k+1),?_⟩
 rotate_left
 .have h:K.n<=k:=by have:=qdf b0;omega
  exact⟨_,.inr ⟨rfl,by rw[show K.n-k=0 by omega];rfl,rfl⟩,rfl,rfl,_,QiQ,trivial⟩
 all_goals first|((with_reducible show _=true);(first|rfl|(simp at b0 ⊢;omega)|grind))|(repeat' first|with_reducible refine QM ?_ ?_|exact tv|exact qRr|exact Vo h hn|refine aI ?_ ?_)
def alX(K:Rw Pt)(c:Int)(x:Lay):List (Prop×Ex×JSt):=[(Qj K c x=false,.ret,QLA),(Qj K c x=true,.exit 0,QHK)]
abbrev alH(P:Program)(K:Rw Pt)(c:Int)(x:Lay):Hnd:={ hnd (mkS P KW) 1 with loop:=λ_=>Ks (K.n<=1000) (KF 8 [] (alJ K c x (0:Nat)) (alX K c x)) }
theorem Qh8(K:Rw Pt)(c:Int)(x:Lay)(G:Ctx)(hrd:G.rd=none)(hG:G.n=8):Q0 (mkS prog KW) G (alH prog K c x) (Qn f104):=by
 refine KO (body:=QI f104 0) (Zf Jf) hrd (by kernel_rfl) ?_
 refine JJ λhl=>?_;refine XP (n0:=8) (Zf Jf) (by omega) (λs hs=>Qz (Zf Jf) 1 G _ hrd) (λs hs=>(by decide:8<=48)) ?_ (Qa9 K c x hl) (s0:=0) (Nat.zero_le _) ?_
 .rintro s e J (⟨_,_,rfl⟩|⟨_,_,rfl⟩)<;>exact(by decide:8<=48)
 .rintro e J (⟨rfl,h,rfl⟩|⟨rfl,h,rfl⟩)
  .exact⟨_,qmc,h,rfl,rfl⟩
  .exact⟨_,List.mem_cons_of_mem _ qmc,h,rfl,rfl⟩
def QA0:WF ((Rw Pt)×Int×Lay×Unit):=λ|(K,(c,(x,_)))=>(decide (K.n<=1000),.bool false (Qj K c x),[])
def QNW:FC:=wFC QA0
theorem QfZ(K:(Rw Pt))(c:Int)(x:Lay):Kg (mkS prog KW) (alH prog K c x) f104 (QZ.vals 0 ((K,c,x,()):(Rw Pt)×Int×Lay×Unit)) (QZ.blks 0 ((K,c,x,()):(Rw Pt)×Int×Lay×Unit)) 8=QC.ask (K.n<=(1000:Nat)) (QC.ask (c=c) (QC.ask (0=0) (QC.ask (0=0) (QC.ask (0=0) (QC.ask (K.n=K.n) (QC.ask (cO=cO) (QC.ask ((↑K.n:Int)=(↑K.n:Int)) (QC.ask ((0:Int)=(0:Int)) (QC.ask (x.piece=x.piece) (QC.ask (x.turn=x.turn) (QC.ask (K.n<=K.n) (QC.ask (QB (3:Nat) K.n (λi=>QA.enc (K.get i)) λi=>QA.enc (K.get i)) (QC.both (QC.asm (Qj K c x=false) (QC.all (λ(g0:Nat->Value)=>QC.leaf (AV.bool false false) ([])))) (QC.asm (Qj K c x=true) (QC.all (λ(g1:Nat->Value)=>QC.leaf (AV.bool true true) ([]))))))))))))))))):=by kernel_rfl
theorem QiZ:JL (mkS prog KW) (Qn f104) 8 QA0 (λx_=>(alH prog x_.1 x_.2.1 x_.2.2.1)):=by
 refine⟨?_⟩;rintro⟨K,⟨c,⟨x,⟨⟩⟩⟩⟩ hp G h1 h2;exact Qh8 K c x G h1 h2
theorem Qav:JH (mkS prog KW) f104 8 QA0 (λx_=>(alH prog x_.1 x_.2.1 x_.2.2.1)):=by
 refine⟨?_⟩;rintro⟨K,⟨c,⟨x,⟨⟩⟩⟩⟩ hp;refine⟨⟨rfl,by simp[QA0],rfl⟩,⟨?_⟩⟩
 rw[QfZ K c x];simp only[QA0]at hp;have hp:=qdt hp
 iterate 13 refine Qt (by first|exact tv|exact hp|exact qRr) ?_
 refine Kq ?_ ?_;refine Qk λa0=>?_;refine Ql λg0=>?_
 .exact KN a0.symm rfl
 refine Qk λa1=>?_;refine Ql λg1=>?_
 .exact KN a1.symm rfl
theorem QlJ:QS prog 104 QNW:=
 JY (Zf Jf) func104 (by kernel_rfl) (by kernel_rfl) (by decide) QiZ Qav
def jW:Tab:=Qc KW 104 QNW
theorem QHk:Qf jW:=Jf.add QlJ
def onS(x:Lay)(s:Int):Int:=(s+4-x.turn).tmod 4
def QBy:WF (Lay×Int×Unit):=λ|(x,(s,_))=>(decide ((0<=x.turn/\x.turn<=3)/\0<=s/\s<=3),.agg [vi x.piece,vi (onS x s)],[])
def QVQ:FC:=wFC QBy
theorem QeJ(x:Lay)(s:Int):Kg (mkE prog jW) (hnd (mkE prog jW) 1) f134 (QZ.vals 0 ((x,s,()):Lay×Int×Unit)) (QZ.blks 0 ((x,s,()):Lay×Int×Unit)) 8=QC.leaf (AV.agg [vi x.piece,vi ((i64.wrap (i64.wrap (s+(4:Int))-x.turn)).tmod (4:Int))]) ([]):=by kernel_rfl
theorem Qe7:JL (mkE prog jW) (Qn f134) 8 QBy (λx_=>(hnd (mkE prog jW) 1)):=by
 refine⟨?_⟩;rintro⟨x,⟨s,⟨⟩⟩⟩ hp G h1 h2;exact Qz (QP QHk) 1 G _ h1
theorem QhJ:JH (mkE prog jW) f134 8 QBy (λx_=>(hnd (mkE prog jW) 1)):=by
 refine⟨?_⟩;rintro⟨x,⟨s,⟨⟩⟩⟩ hp;refine⟨⟨rfl,by simp[QBy],rfl⟩,⟨?_⟩⟩
 rw[QeJ x s];simp only[QBy]at hp;have hp:=qdt hp
 .refine KN ?_ rfl
  have:(i64.wrap (i64.wrap (s+4)-x.turn)).tmod 4=onS x s:=by
   rw[w64 (n:=s+4) (by omega) (by omega),w64 (by omega) (by omega)];rfl
  rw[this];exact⟨⟨rfl,rfl⟩,⟨rfl,rfl⟩,trivial⟩
theorem Qby:QS prog 134 QVQ:=
 JY (QP QHk) func134 (by kernel_rfl) (by kernel_rfl) (by decide) Qe7 QhJ
def QV:Tab:=Qc jW 134 QVQ
theorem Qm:Qf QV:=QHk.add Qby
def Qs(c:Nat):Int:=(c:Int).tdiv d.wide
def KH(c:Nat):Int:=(c:Int).tmod d.wide
def Qa(c:Nat):Nat->Bool
 | 0=>Qs d c==0
 | 1=>KH d c==d.wide-1
 | 2=>Qs d c==d.high-1
 | _=>KH d c==0
def Kz(c:Nat)(x:Lay)(s:Nat):Bool:=Qa d c s && !Kp d x.piece (onS x s)
def QG9(L:List Lay):List (Nat×Blk):=(200,.cellsR 0 152 (brC d L.length))::QCl 210 L::(201,.mp E.1 E.2)::Qg.blk 0 d.ps
def myJ(L:List Lay)(x:Lay)(s:Nat):JSt:=⟨113,[(0,.ptr 200 0 0),(3,.ptr 216 0 0),(5,.int false .i64 L.length),(6,.int false .i64 (Qs d L.length)),(7,.int false .i64 (KH d L.length)),(49,.agg [.bool false (Qa d L.length 0),.bool false (Qa d L.length 1),.bool false (Qa d L.length 2),.bool false (Qa d L.length 3)]),(50,.int false .i64 s)],(216,.cells 0 49 (Enc.enc x).cells)::QG9 d E L,224⟩
def QAT:JSt:=⟨113,[(4,.bool false false)],[(201,.mp E.1 E.2)],224⟩
def QK5(L:List Lay)(x:Lay):JSt:=⟨113,[(0,.ptr 200 0 0),(3,.ptr 216 0 0),(5,.int false .i64 L.length),(6,.int false .i64 (Qs d L.length)),(7,.int false .i64 (KH d L.length))],(216,.cells 0 49 (Enc.enc x).cells)::QG9 d E L,224⟩
def QTc:Ex->List Nat
 | .normal=>[0,3,5,6,7,49,50]
 | .exit _=>[0,3,5,6,7]
 | .ret=>[4]
def Gu(pb:List Prop->Bool)(U:UC):Tab:=Qc QV 137 (KT pb U)
abbrev QGK(L:List Lay)(d:Puz)(s:Nat)(x:Lay):List Prop:=([0=0,0=0,x.piece=x.piece,onS x (s:Int)=onS x (s:Int)]++waa d++([cO=cO,0=0,L.length=L.length,cO=cO]++wad d))
abbrev qj(L:List Lay)(d:Puz):List AV:=[.bool false (Qa d L.length 0),.bool false (Qa d L.length 1),.bool false (Qa d L.length 2),.bool false (Qa d L.length 3)]
abbrev waE(L:List Lay)(d:Puz):List AV:=[vi (L.length:Int),vi (Qs d L.length),vi (KH d L.length)]
abbrev QOn(L:List Lay)(d:Puz):List AV:=(.nilp::.ptr 113 0 0::.ptr 200 0 0::.ptr 216 0 0::List.append (waE L d) ([.agg (qj L d),.int true .i64 1]))
abbrev Vc(L:List Lay)(d:Puz)(x:Lay):List (Nat×Blk):=[(201,.mp E.1 E.2),(200,.cellsR 0 152 (List.append (wbL d) ([.int false .i64 d.pK.dK.hi,vi d.wide,vi d.high,.bool false d.turn,.slz 0 0 d.ps.n cO,.map 201,.slz 210 0 L.length cO]))),(216,.cells 0 49 [.int false .i64 x.piece,vi x.turn]),(0,.frz (wae) d.ps.n λi=>QA.enc (d.ps.get i)),(210,.frz kB L.length λi=>QA.enc (L.getD i (Lay.mk (0:Int) (0:Int))))]
abbrev QLV(L:List Lay)(d:Puz):List AV:=(.nilp::.ptr 113 0 0::.ptr 200 0 0::.ptr 216 0 0::List.append (waE L d) ([.agg (qj L d),.int true .i64 2]))
abbrev QPY(L:List Lay)(d:Puz):List AV:=(.nilp::.ptr 113 0 0::.ptr 200 0 0::.ptr 216 0 0::List.append (waE L d) ([.agg (qj L d),.int true .i64 3]))
abbrev QSA(L:List Lay)(d:Puz):List AV:=(.nilp::.ptr 113 0 0::.ptr 200 0 0::.ptr 216 0 0::List.append (waE L d) ([.agg (qj L d),.int true .i64 4]))
abbrev wbw:List AV:=[.nili,.ptr 113 0 0,.bool true false]
theorem Qcz(pb:List Prop->Bool)(d:Puz)(E:ECt)(L:List Lay)(x:Lay)(s:Nat)(g:Nat->Value):exec (mkF prog (Gu pb (flU d L.length x.piece (onS x s)))) (hnd (mkF prog (Gu pb (flU d L.length x.piece (onS x s)))) 1) (QI f105 0) (JSt.inst (myJ d E L x s) g) (Q5 [201] QTc) = .br (decide ((s:Int)<4)) (.need (decide ((0:Int)<=(s:Int)/\(s:Int)<4)) (.br (decide ((s:Int)=0)) (.br (Qa d L.length 0) (.need (true&&(true&&true)&&decide (((0:Int)<=x.turn/\x.turn<=3)/\(0:Int)<=(s:Int)/\(s:Int)<=3)) (.need (pb ((QGK L d s x))) (.br (!Kp d x.piece (onS x (s:Int))) (.leaf (.tup (wbw)) ([(201,.mp E.1 E.2)])) (.leaf (.tup (QOn L d)) ((Vc E L d x)))))) (.leaf (.tup (QOn L d)) ((Vc E L d x)))) (.br (decide ((s:Int)=1)) (.br (Qa d L.length 1) (.need (true&&(true&&true)&&decide (((0:Int)<=x.turn/\x.turn<=3)/\(0:Int)<=(s:Int)/\(s:Int)<=3)) (.need (pb ((QGK L d s x))) (.br (!Kp d x.piece (onS x (s:Int))) (.leaf (.tup (wbw)) ([(201,.mp E.1 E.2)])) (.leaf (.tup (QLV L d)) ((Vc E L d x)))))) (.leaf (.tup (QLV L d)) ((Vc E L d x)))) (.br (decide ((s:Int)=2)) (.br (Qa d L.length 2) (.need (true&&(true&&true)&&decide (((0:Int)<=x.turn/\x.turn<=3)/\(0:Int)<=(s:Int)/\(s:Int)<=3)) (.need (pb ((QGK L d s x))) (.br (!Kp d x.piece (onS x (s:Int))) (.leaf (.tup (wbw)) ([(201,.mp E.1 E.2)])) (.leaf (.tup (QPY L d)) ((Vc E L d x)))))) (.leaf (.tup (QPY L d)) ((Vc E L d x)))) (.br (Qa d L.length 3) (.need (true&&(true&&true)&&decide (((0:Int)<=x.turn/\x.turn<=3)/\(0:Int)<=(s:Int)/\(s:Int)<=3)) (.need (pb ((QGK L d s x))) (.br (!Kp d x.piece (onS x (s:Int))) (.leaf (.tup (wbw)) ([(201,.mp E.1 E.2)])) (.leaf (.tup (QSA L d)) ((Vc E L d x)))))) (.leaf (.tup (QSA L d)) ((Vc E L d x)))))))) (.leaf (.tup (.ptr 0 0 0::.ptr 113 0 0::.ptr 200 0 0::.ptr 216 0 0::waE L d)) ((Vc E L d x))):=by kernel_rfl
theorem QYD:QF 216 [AV.bool true false] ([((201:Nat),Blk.mp E.1 E.2)]) (QAT E)=( some [false=false,E.1=E.1,E.2=E.2]):=by kernel_rfl
abbrev QTN(L:List Lay)(d:Puz):List AV:=(.ptr 200 0 0::.ptr 216 0 0::List.append (waE L d) ([.agg (qj L d),vj 1]))
abbrev wbd(L:List Lay):List Prop:=[L.length<=L.length,QB 2 L.length (λi=>QA.enc (L.getD i (Lay.mk (0:Int) (0:Int)))) λi=>QA.enc (L.getD i (Lay.mk (0:Int) (0:Int)))]
abbrev waj(E:ECt)(L:List Lay):List Prop:=([L.length=L.length,cO=cO]++wbd L++[E.1=E.1,E.2=E.2])
abbrev wbk(L:List Lay)(d:Puz):List Prop:=[(L.length:Int)=(L.length:Int),Qs d L.length=Qs d L.length,KH d L.length=KH d L.length]
abbrev wb2(L:List Lay)(d:Puz):List Prop:=[Qa d L.length 0=Qa d L.length 0,Qa d L.length 1=Qa d L.length 1,Qa d L.length 2=Qa d L.length 2,Qa d L.length 3=Qa d L.length 3]
abbrev QMu(L:List Lay)(d:Puz)(s':Nat)(x:Lay):List Prop:=(([0=0,0=0,0=0,0=0]++wbk L d++((wb2 L d++[(1:Int)=(s':Int)])++wbB x))++waa d++(([cO=cO,0=0]++waj E L)++wad d))
theorem QdC(L:List Lay)(x:Lay)(s':Nat):QF 216 (QTN L d) ((Vc E L d x)) (myJ d E L x s')=(some (QMu E L d s' x)):=by kernel_rfl
theorem QbW(L:List Lay)(x:Lay)(s':Nat):QF 216 (QTN L d) ((Vc E L d x)) (myJ d E L x s')=(some (QMu E L d s' x)):=by kernel_rfl
theorem QZl:QF 216 [AV.bool true false] ([((201:Nat),Blk.mp E.1 E.2)]) (QAT E)=( some [false=false,E.1=E.1,E.2=E.2]):=by kernel_rfl
abbrev QWM(L:List Lay)(d:Puz):List AV:=(.ptr 200 0 0::.ptr 216 0 0::List.append (waE L d) ([.agg (qj L d),vj 2]))
abbrev wal(L:List Lay)(d:Puz):List Prop:=(wbk L d++(wb2 L d))
abbrev QQX(L:List Lay)(d:Puz)(s':Nat)(x:Lay):List Prop:=(([0=0,0=0,0=0,0=0]++wal L d++([(2:Int)=(s':Int)]++wbB x))++waa d++(([cO=cO,0=0]++waj E L)++wad d))
theorem QZd(L:List Lay)(x:Lay)(s':Nat):QF 216 (QWM L d) ((Vc E L d x)) (myJ d E L x s')=(some (QQX E L d s' x)):=by kernel_rfl
theorem QiE(L:List Lay)(x:Lay)(s':Nat):QF 216 (QWM L d) ((Vc E L d x)) (myJ d E L x s')=(some (QQX E L d s' x)):=by kernel_rfl
theorem QlC:QF 216 [AV.bool true false] ([((201:Nat),Blk.mp E.1 E.2)]) (QAT E)=( some [false=false,E.1=E.1,E.2=E.2]):=by kernel_rfl
abbrev QMb(L:List Lay)(d:Puz):List AV:=(.ptr 200 0 0::.ptr 216 0 0::List.append (waE L d) ([.agg (qj L d),vj 3]))
abbrev QSu(L:List Lay)(d:Puz)(s':Nat)(x:Lay):List Prop:=(([0=0,0=0,0=0,0=0]++wal L d++([(3:Int)=(s':Int)]++wbB x))++waa d++(([cO=cO,0=0]++waj E L)++wad d))
theorem Qbo(L:List Lay)(x:Lay)(s':Nat):QF 216 (QMb L d) ((Vc E L d x)) (myJ d E L x s')=(some (QSu E L d s' x)):=by kernel_rfl
theorem QlX(L:List Lay)(x:Lay)(s':Nat):QF 216 (QMb L d) ((Vc E L d x)) (myJ d E L x s')=(some (QSu E L d s' x)):=by kernel_rfl
theorem QjZ:QF 216 [AV.bool true false] ([((201:Nat),Blk.mp E.1 E.2)]) (QAT E)=( some [false=false,E.1=E.1,E.2=E.2]):=by kernel_rfl
abbrev QMA(L:List Lay)(d:Puz):List AV:=(.ptr 200 0 0::.ptr 216 0 0::List.append (waE L d) ([.agg (qj L d),vj 4]))
abbrev QQr(L:List Lay)(d:Puz)(s':Nat)(x:Lay):List Prop:=(([0=0,0=0,0=0,0=0]++wal L d++([(4:Int)=(s':Int)]++wbB x))++waa d++(([cO=cO,0=0]++waj E L)++wad d))
theorem QYQ(L:List Lay)(x:Lay)(s':Nat):QF 216 (QMA L d) ((Vc E L d x)) (myJ d E L x s')=(some (QQr E L d s' x)):=by kernel_rfl
theorem QaL(L:List Lay)(x:Lay)(s':Nat):QF 216 (QMA L d) ((Vc E L d x)) (myJ d E L x s')=(some (QQr E L d s' x)):=by kernel_rfl
theorem QZk(L:List Lay)(x:Lay):QF 216 (.ptr 200 0 0::.ptr 216 0 0::waE L d) ((Vc E L d x)) (QK5 d E L x)=( some (([0=0,0=0,0=0,0=0]++wbk L d++(wbB x))++waa d++(([cO=cO,0=0]++waj E L)++wad d))):=by kernel_rfl
structure KJ (d:Puz) (x:Lay):Prop where
 p:0<=x.piece/\x.piece<d.ps.n
 t:0<=x.turn/\x.turn<=3
theorem QFl{d:Puz}{x:Lay}(hx:KJ d x)(s:Nat):0<=onS x s/\onS x s<4:=by
 have:=hx.t;have h1:=Int.tmod_nonneg 4 (show(0:Int)<=(s:Int)+4-x.turn by omega)
 have h2:=Int.tmod_lt_of_pos ((s:Int)+4-x.turn) (show(0:Int)<4 by decide)
 exact⟨h1,h2⟩
def QAE(P:Program)(d:Puz)(L:List Lay)(x:Lay)(s:Nat):Env:=mkF P (Gu QK (flU d L.length x.piece (onS x s)))
theorem QRY{d:Puz}{L:List Lay}{x:Lay}(hx:KJ d x)(s:Nat):(QAE prog d L x s).Sound:=
 KS (Qm.add (QUQ d L.length x.piece (onS x s) hx.p.1 hx.p.2 (QFl hx s).1 (QFl hx s).2))
def myR(L:List Lay)(x:Lay)(s:Nat)(e:Ex)(J:JSt):Prop:=(e = .ret/\(QR (Kz d L.length x) (4-s) s).isNone=false/\J=QAT E)∨(e = .exit 0/\(QR (Kz d L.length x) (4-s) s).isNone=true/\J=QK5 d E L x)
set_option maxHeartbeats 4000000 in
theorem QkX(L:List Lay)(x:Lay)(hx:KJ d x):K6 (myJ d E L x) (λs=>s<=4) (λs=>4-s) (myR d E L x) 216 QTc [201] (QAE prog d L x) (λs=>hnd (QAE prog d L x s) 1) (QI f105 0):=by
 refine⟨λs g0 hk=>?_⟩;unfold QAE;refine Qh (Qcz QK d E L x s g0) ?_;have hk:s<=4:=hk;refine QE (λb0=>?_) (λb0=>?_);have h:s<4:=by have:=qdt b0;omega
 have hf:=VC (p:=Kz d L.length x) h;have ht:=hx.t;refine QG ?_ ?_;rotate_left;refine QE (λb1=>?_) (λb1=>?_);obtain rfl:s=0:=by have:=qdt b1;omega
 refine QE ?_ ?_<;>intro b2
 iterate 2 (refine QG ?_ ?_;rotate_left)
 refine QE ?_ ?_<;>intro b3
 .have hb:Kz d L.length x 0=true:=by show(Qa d L.length 0 && !Kp d x.piece (onS x _))=true;rw[b2];exact b3
  exact⟨_,.inl ⟨rfl,by rw[hf.1 hb];rfl,rfl⟩,rfl,rfl,_,QYD E,⟨rfl,rfl,rfl,trivial⟩⟩
 have hb:Kz d L.length x 0=false:=by show(Qa d L.length 0 && !Kp d x.piece (onS x _))=false;rw[b2];exact b3
 refine⟨1,by show 1<=4;omega,by show 4-1<4-0;omega,λe J h=>by unfold myR at h ⊢;rw[hf.2 hb];exact h,rfl,rfl,_,QdC d E L x 1,?_⟩
 rotate_left
 have hb:Kz d L.length x 0=false:=by show(Qa d L.length 0 && !Kp d x.piece (onS x _))=false;rw[b2];rfl
 refine⟨1,by show 1<=4;omega,by show 4-1<4-0;omega,λe J h=>by unfold myR at h ⊢;rw[hf.2 hb];exact h,rfl,rfl,_,QbW d E L x 1,?_⟩
 rotate_left
 refine QE (λb4=>?_) (λb4=>?_);obtain rfl:s=1:=by have:=qdt b4;omega
 refine QE ?_ ?_<;>intro b5
 iterate 2 (refine QG ?_ ?_;rotate_left)
 refine QE ?_ ?_<;>intro b6
 .have hb:Kz d L.length x 1=true:=by show(Qa d L.length 1 && !Kp d x.piece (onS x _))=true;rw[b5];exact b6
  exact⟨_,.inl ⟨rfl,by rw[hf.1 hb];rfl,rfl⟩,rfl,rfl,_,QZl E,⟨rfl,rfl,rfl,trivial⟩⟩
 have hb:Kz d L.length x 1=false:=by show(Qa d L.length 1 && !Kp d x.piece (onS x _))=false;rw[b5];exact b6
 refine⟨2,by show 2<=4;omega,by show 4-2<4-1;omega,λe J h=>by unfold myR at h ⊢;rw[hf.2 hb];exact h,rfl,rfl,_,QZd d E L x 2,?_⟩
 rotate_left
 have hb:Kz d L.length x 1=false:=by show(Qa d L.length 1 && !Kp d x.piece (onS x _))=false;rw[b5];rfl
 refine⟨2,by show 2<=4;omega,by show 4-2<4-1;omega,λe J h=>by unfold myR at h ⊢;rw[hf.2 hb];exact h,rfl,rfl,_,QiE d E L x 2,?_⟩
 rotate_left
 refine QE (λb7=>?_) (λb7=>?_);obtain rfl:s=2:=by have:=qdt b7;omega
 refine QE ?_ ?_<;>intro b8
 iterate 2 (refine QG ?_ ?_;rotate_left)
 refine QE ?_ ?_<;>intro b9
 .have hb:Kz d L.length x 2=true:=by show(Qa d L.length 2 && !Kp d x.piece (onS x _))=true;rw[b8];exact b9
  exact⟨_,.inl ⟨rfl,by rw[hf.1 hb];rfl,rfl⟩,rfl,rfl,_,QlC E,⟨rfl,rfl,rfl,trivial⟩⟩
 have hb:Kz d L.length x 2=false:=by show(Qa d L.length 2 && !Kp d x.piece (onS x _))=false;rw[b8];exact b9
 refine⟨3,by show 3<=4;omega,by show 4-3<4-2;omega,λe J h=>by unfold myR at h ⊢;rw[hf.2 hb];exact h,rfl,rfl,_,Qbo d E L x 3,?_⟩
 rotate_left
 have hb:Kz d L.length x 2=false:=by show(Qa d L.length 2 && !Kp d x.piece (onS x _))=false;rw[b8];rfl
 refine⟨3,by show 3<=4;omega,by show 4-3<4-2;omega,λe J h=>by unfold myR at h ⊢;rw[hf.2 hb];exact h,rfl,rfl,_,QlX d E L x 3,?_⟩
 rotate_left
 obtain rfl:s=3:=by
  have h1:=qdf b1;have h2:=qdf b4;have h3:=qdf b7;omega
 refine QE ?_ ?_<;>intro b10
 iterate 2 (refine QG ?_ ?_;rotate_left)
 refine QE ?_ ?_<;>intro b11
 .have hb:Kz d L.length x 3=true:=by show(Qa d L.length 3 && !Kp d x.piece (onS x _))=true;rw[b10];exact b11
  exact⟨_,.inl ⟨rfl,by rw[hf.1 hb];rfl,rfl⟩,rfl,rfl,_,QjZ E,⟨rfl,rfl,rfl,trivial⟩⟩
 have hb:Kz d L.length x 3=false:=by show(Qa d L.length 3 && !Kp d x.piece (onS x _))=false;rw[b10];exact b11
 refine⟨4,by show 4<=4;omega,by show 4-4<4-3;omega,λe J h=>by unfold myR at h ⊢;rw[hf.2 hb];exact h,rfl,rfl,_,QYQ d E L x 4,?_⟩
 rotate_left
 have hb:Kz d L.length x 3=false:=by show(Qa d L.length 3 && !Kp d x.piece (onS x _))=false;rw[b10];rfl
 refine⟨4,by show 4<=4;omega,by show 4-4<4-3;omega,λe J h=>by unfold myR at h ⊢;rw[hf.2 hb];exact h,rfl,rfl,_,QaL d E L x 4,?_⟩
 rotate_left
 obtain rfl:s=4:=by have:=qdf b0;omega
 refine⟨_,.inr ⟨rfl,rfl,rfl⟩,rfl,rfl,_,QZk d E L x,?_⟩
 rotate_left
 all_goals first|((with_reducible show _=true);(first|(refine KG.2 ?_;repeat' first|exact tv|exact qRr|refine aI ?_ ?_)|(simp;omega)))|(repeat' first|with_reducible refine QM ?_ ?_|exact tv|exact qRr|exact rfl|refine aI ?_ ?_)
def ZP(c:Nat)(x:Lay):Bool:=(QR (Kz d c x) 4 0).isNone
def myX(L:List Lay)(x:Lay):List (Prop×Ex×JSt):=[(ZP d L.length x=false,.ret,QAT E),(ZP d L.length x=true,.exit 0,QK5 d E L x)]
abbrev myH(P:Program)(d:Puz)(E:ECt)(L:List Lay)(x:Lay):Hnd:={ hnd (mkF P QV) 1 with loop:=λ_=>KF 216 [201] (myJ d E L x (0:Nat)) (myX d E L x) }
theorem QcG(L:List Lay)(x:Lay)(hx:KJ d x)(G:Ctx)(hrd:G.rd=none)(hG:G.n<=216):Q0 (mkF prog QV) G (myH prog d E L x) (Qn f105):=by
 refine KO (body:=QI f105 0) (KS Qm) hrd (by kernel_rfl) ?_
 refine JG (E0:=mkF prog QV) (E:=QAE prog d L x) (H:=λs=>hnd (QAE prog d L x s) 1) (n0:=216) (s0:=0) (λ_=>rfl) (QRY hx) hG (λs _=>Qz (QRY hx s) 1 G _ hrd) (λs _=>(by decide:216<=224)) ?_ (QkX d E L x hx) (Nat.zero_le _) ?_
 .rintro s e J (⟨_,_,rfl⟩|⟨_,_,rfl⟩)<;>exact(by decide:216<=224)
 .rintro e J (⟨rfl,h,rfl⟩|⟨rfl,h,rfl⟩)
  .exact⟨_,qmc,h,rfl,rfl⟩
  .exact⟨_,List.mem_cons_of_mem _ qmc,h,rfl,rfl⟩
def myU(L:List Lay)(x:Lay)(v:Bool):UC:=⟨208,⟨2,[(0,.ptr 200 0 0),(1,Enc.enc x)],QG9 d E L,216⟩,λ_=>.bool false v,λ_=>[(201,.mp E.1 E.2)]⟩
abbrev waQ(L:List Lay)(d:Puz):List Prop:=[(L.length:Int)=(L.length:Int),i64.wrap ((L.length:Int).tdiv d.wide)=Qs d L.length,(L.length:Int).tmod d.wide=KH d L.length,(i64.wrap ((L.length:Int).tdiv d.wide)==0)=Qa d L.length 0,((L.length:Int).tmod d.wide==i64.wrap (d.wide-1))=Qa d L.length 1,(i64.wrap ((L.length:Int).tdiv d.wide)==i64.wrap (d.high-1))=Qa d L.length 2,((L.length:Int).tmod d.wide==0)=Qa d L.length 3]
theorem Qbq(L:List Lay)(x:Lay)(v:Bool):VK (mkF prog QV) (myH prog d E L x) f105 (myU d E L x v) = .need (!decide (d.wide=0)) (.need (!decide (d.wide=0)) (.ak [0=0,0=0,0=0,0=0,(L.length:Int)=(L.length:Int),i64.wrap ((L.length:Int).tdiv d.wide)=Qs d L.length,(L.length:Int).tmod d.wide=KH d L.length,(i64.wrap ((L.length:Int).tdiv d.wide)==0)=Qa d L.length 0,((L.length:Int).tmod d.wide==i64.wrap (d.wide-1))=Qa d L.length 1,(i64.wrap ((L.length:Int).tdiv d.wide)==i64.wrap (d.high-1))=Qa d L.length 2,((L.length:Int).tmod d.wide==0)=Qa d L.length 3,(0:Int)=0,x.piece=x.piece,x.turn=x.turn,d.pK.length=d.pK.length,d.pK.aK=d.pK.aK,d.pK.oK=d.pK.oK,d.pK.dK.lo=d.pK.dK.lo,d.pK.dK.hi=d.pK.dK.hi,d.wide=d.wide,d.high=d.high,d.turn=d.turn,0=0,d.ps.n=d.ps.n,cO=cO,0=0,L.length=L.length,cO=cO,L.length<=L.length,QB 2 L.length (λi=>QA.enc (L.getD i (Lay.mk (0:Int) (0:Int)))) λi=>QA.enc (L.getD i (Lay.mk (0:Int) (0:Int))),E.1=E.1,E.2=E.2,d.ps.n<=d.ps.n,QB 28 d.ps.n (λi=>QA.enc (d.ps.get i)) λi=>QA.enc (d.ps.get i)] (.both (.asm (ZP d L.length x=false) (.all (λ(g0:Nat->Value)=>.leaf (.bool false false) ([(201, .mp E.1 E.2)])))) (.asm (ZP d L.length x=true) (.all (λ(g1:Nat->Value)=>.br (decide (Qs d L.length>0)) (.need (decide ((0:Int)<=i64.wrap ((L.length:Int)-d.wide)/\i64.wrap ((L.length:Int)-d.wide)<(L.length:Int))&&decide (L.length<=L.length)) (.need (decide ((i64.wrap ((L.length:Int)-d.wide)).toNat<L.length)) (.need (true&&(true&&true)&&decide (((0:Int)<=(L.getD (i64.wrap ((L.length:Int)-d.wide)).toNat (Lay.mk (0:Int) (0:Int))).turn/\(L.getD (i64.wrap ((L.length:Int)-d.wide)).toNat (Lay.mk (0:Int) (0:Int))).turn<=3)/\(0:Int)<=2/\(2:Int)<=3)) (.need (true&&(true&&true)&&decide (((0:Int)<=x.turn/\x.turn<=3)/\(0:Int)<=0/\(0:Int)<=3)) (.need (wf4 i64 E.1) (.br (Kc E.1 [(L.getD (i64.wrap ((L.length:Int)-d.wide)).toNat (Lay.mk (0:Int) (0:Int))).piece,onS (L.getD (i64.wrap ((L.length:Int)-d.wide)).toNat (Lay.mk (0:Int) (0:Int))) (2:Int),x.piece,onS x (0:Int)]==0) (.leaf (.bool true false) ([(201,.mp E.1 E.2)])) (.br (KH d L.length==0) (.leaf (.bool true true) ([(201,.mp E.1 E.2)])) (.need (decide ((0:Int)<=i64.wrap ((L.length:Int)-1)/\i64.wrap ((L.length:Int)-1)<(L.length:Int))&&decide (L.length<=L.length)) (.need (decide ((i64.wrap ((L.length:Int)-1)).toNat<L.length)) (.need (true&&(true&&true)&&decide (((0:Int)<=(L.getD (i64.wrap ((L.length:Int)-1)).toNat (Lay.mk (0:Int) (0:Int))).turn/\(L.getD (i64.wrap ((L.length:Int)-1)).toNat (Lay.mk (0:Int) (0:Int))).turn<=3)/\(0:Int)<=1/\(1:Int)<=3)) (.need (true&&(true&&true)&&decide (((0:Int)<=x.turn/\x.turn<=3)/\(0:Int)<=3/\(3:Int)<=3)) (.need (wf4 i64 E.1) (.leaf (.bool false (Kc E.1 [(L.getD (i64.wrap ((L.length:Int)-1)).toNat (Lay.mk (0:Int) (0:Int))).piece,onS (L.getD (i64.wrap ((L.length:Int)-1)).toNat (Lay.mk (0:Int) (0:Int))) (1:Int),x.piece,onS x (3:Int)] != 0)) ([(201,.mp E.1 E.2)])))))))))))))) (.br (KH d L.length==0) (.leaf (.bool true true) ([(201,.mp E.1 E.2)])) (.need (decide ((0:Int)<=i64.wrap ((L.length:Int)-1)/\i64.wrap ((L.length:Int)-1)<(L.length:Int))&&decide (L.length<=L.length)) (.need (decide ((i64.wrap ((L.length:Int)-1)).toNat<L.length)) (.need (true&&(true&&true)&&decide (((0:Int)<=(L.getD (i64.wrap ((L.length:Int)-1)).toNat (Lay.mk (0:Int) (0:Int))).turn/\(L.getD (i64.wrap ((L.length:Int)-1)).toNat (Lay.mk (0:Int) (0:Int))).turn<=3)/\(0:Int)<=1/\(1:Int)<=3)) (.need (true&&(true&&true)&&decide (((0:Int)<=x.turn/\x.turn<=3)/\(0:Int)<=3/\(3:Int)<=3)) (.need (wf4 i64 E.1) (.leaf (.bool false (Kc E.1 [(L.getD (i64.wrap ((L.length:Int)-1)).toNat (Lay.mk (0:Int) (0:Int))).piece,onS (L.getD (i64.wrap ((L.length:Int)-1)).toNat (Lay.mk (0:Int) (0:Int))) (1:Int),x.piece,onS x (3:Int)] != 0)) ([(201,.mp E.1 E.2)])))))))))))))):=by kernel_rfl
structure Kb (d:Puz):Prop where
 n:d.ps.n<=1000
 w1:1<=d.wide
 wn:d.wide<=d.ps.n
 h1:1<=d.high
 hn:d.high<=d.ps.n
 wh:d.wide*d.high=d.ps.n
def atL(L:List Lay)(i:Int):Lay:=L.getD i.toNat ⟨0,0⟩
def Z5(p q:Lay)(s t:Int):Int:=Kc E.1 [p.piece,onS p s,q.piece,onS q t]
def KA(L:List Lay)(x:Lay):Bool:=ZP d L.length x&&((!decide (0<Qs d L.length) || !(Z5 E (atL L ((L.length:Int)-d.wide)) x 2 0==0))&&(KH d L.length==0||Z5 E (atL L ((L.length:Int)-1)) x 1 3 != 0))
theorem QBi{d:Puz}(h:Kb d)(c:Nat):0<=Qs d c/\Qs d c<=c:=by
 have:=h.w1;refine⟨Int.tdiv_nonneg (by omega) (by omega),?_⟩
 rw[Qs,Int.tdiv_eq_ediv_of_nonneg (by omega)]
 exact Int.ediv_le_self _ (by omega)
theorem QCH{d:Puz}(h:Kb d){c:Nat}(hr:0<Qs d c):d.wide<=c:=by
 have:=h.w1;rw[Qs,Int.tdiv_eq_ediv_of_nonneg (by omega)]at hr
 have:=(Int.le_ediv_iff_mul_le (a:=1) (b:=(c:Int)) (c:=d.wide) (by omega)).1 (by omega)
 omega
theorem QBU{d:Puz}{c:Nat}(hr:(KH d c==0)=false):1<=c:=by
 cases c with
 | zero=>simp[KH]at hr
 | succ c=>omega
theorem Ht{d:Puz}{L:List Lay}(hL:∀ y∈L,KJ d y){i:Int}(h1:0<=i)(h2:i<L.length):KJ d (atL L i):=by
 have h:i.toNat<L.length:=by omega
 exact hL _ (by rw[atL,Jb h];exact List.getElem_mem h)
theorem Qa0(L:List Lay)(x:Lay)(v b:Bool)(k:Bool)(h:v=b):(QC.leaf (.bool k v) [(201,.mp E.1 E.2)]).den (jx (myU d E L x b)):=⟨rfl,rfl,_,by cases k<;>rfl,by subst h;exact⟨rfl,rfl,rfl,trivial⟩⟩
theorem QXB(L:List Lay)(x:Lay)(v:Bool):(myU d E L x v).Ok:=by
 refine⟨(by decide:208<=216),rfl,rfl,?_,rfl,λ_ _=>rfl,λnid h=>rfl⟩
 intro q hq;simp only[UC.po,myU,List.mem_cons,List.not_mem_nil,or_false]at hq;subst hq;exact⟨rfl,rfl,rfl,λ_=>rfl⟩
theorem QFf(L:List Lay)(x:Lay)(hd:Kb d)(hE:WfE E)(hl:L.length<=1000)(hL:∀ y∈L,KJ d y)(hx:KJ d x):QS prog 105 (uFC (myU d E L x (KA d E L x))):=by
 refine K0 (E:=mkF prog QV) (KS Qm) func105 (by kernel_rfl) (by kernel_rfl) (QXB ..) (λG h1 h2=>QcG d E L x hx G h1 (by rw[h2];exact qlr _)) ⟨?_⟩
 have fin:∀(v k:Bool),v=KA d E L x->(QC.leaf (.bool k v) [(201,.mp E.1 E.2)]).den (jx (myU d E L x (KA d E L x))):=λv k h=>Qa0 d E L x v _ k h;have hw1:=hd.w1;have hwn:=hd.wn;have hh1:=hd.h1;have hhn:=hd.hn;have hn:=hd.n;have hr:=QBi hd L.length;have ht:=hx.t;have hE:wf4 .i64 E.1=true:=hE;have wr:i64.wrap ((L.length:Int).tdiv d.wide)=Qs d L.length:=w64 (by have:=hr.1;unfold Qs at this;omega) (by have:=hr.2;unfold Qs at this;omega)
 have ww:i64.wrap (d.wide-1)=d.wide-1:=w64 (by omega) (by omega)
 have wh:i64.wrap (d.high-1)=d.high-1:=w64 (by omega) (by omega)
 have wu:i64.wrap ((L.length:Int)-d.wide)=(L.length:Int)-d.wide:=w64 (by omega) (by omega)
 have wl:i64.wrap ((L.length:Int)-1)=(L.length:Int)-1:=w64 (by omega) (by omega)
 generalize hv:KA d E L x=v at fin;refine Qh (Qbq d E L x v) ?_;rw[wr,ww,wh,wu,wl]
 iterate 2 (refine QG ?_ ?_;rotate_left)
 iterate 34 refine Qt (by first|exact tv|exact Nat.le_refl _|exact qRr|exact rfl) ?_
 refine Kq ?_ ?_;refine Qk λa0=>?_;refine Ql λg0=>?_
 .refine fin _ _ ?_;rw[<-hv,KA,a0];rfl
 refine Qk λa1=>?_;refine Ql λg1=>?_;refine QE (λb0=>?_) (λb0=>?_);have hcw:=QCH hd (qdt b0);have hU:=(Ht hL (i:=(L.length:Int)-d.wide) (by omega) (by omega)).t
 iterate 5 (refine QG ?_ ?_;rotate_left)
 refine QE ?_ ?_<;>intro b1
 .refine fin _ _ ?_;rw[<-hv,KA,a1,show decide (0<Qs d L.length)=true from b0,show(Z5 E (atL L ((L.length:Int)-d.wide)) x 2 0==0)=true from b1];rfl
 refine QE ?_ ?_<;>intro b2
 .refine fin _ _ ?_;rw[<-hv,KA,a1,show decide (0<Qs d L.length)=true from b0,show(Z5 E (atL L ((L.length:Int)-d.wide)) x 2 0==0)=false from b1,b2];rfl
 have hc1:=QBU b2;have hV:=(Ht hL (i:=(L.length:Int)-1) (by omega) (by omega)).t
 iterate 5 (refine QG ?_ ?_;rotate_left)
 .refine fin _ _ ?_;rw[<-hv,KA,a1,show decide (0<Qs d L.length)=true from b0,show(Z5 E (atL L ((L.length:Int)-d.wide)) x 2 0==0)=false from b1,b2];rfl
 refine QE ?_ ?_<;>intro b3
 .refine fin _ _ ?_;rw[<-hv,KA,a1,show decide (0<Qs d L.length)=false from b0,b3];rfl
 have hc1:=QBU b3;have hV:=(Ht hL (i:=(L.length:Int)-1) (by omega) (by omega)).t
 iterate 5 (refine QG ?_ ?_;rotate_left)
 .refine fin _ _ ?_;rw[<-hv,KA,a1,show decide (0<Qs d L.length)=false from b0,b3];rfl
 all_goals first|exact hE|rfl|exact qde (show(0<=(atL L _).turn/\_)/\_ from⟨hU,by decide,by decide⟩)|exact qde (show(0<=(atL L _).turn/\_)/\_ from⟨hV,by decide,by decide⟩)|exact qde ⟨ht,by decide,by decide⟩|(simp;omega)
