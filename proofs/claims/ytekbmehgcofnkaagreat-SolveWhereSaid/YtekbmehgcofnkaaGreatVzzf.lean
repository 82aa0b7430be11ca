/- - -/
import Derived.Test.YtekbmehgcofnkaaGreatVzw
import Derived.Test.YtekbmehgcofnkaaGreatVzp
import Derived.Test.YtekbmehgcofnkaaGreatVzx
import Derived.Test.YtekbmehgcofnkaaGreatVzr
noncomputable section
open Go.Proofs.Tryz
open Go.IntKind (i64)
set_option maxRecDepth 100000
namespace Go.Proofs.YtekbmehgcofnkaaGreat
open Go.SX Go.SX.Told
def J6:Tab:=Qc (Qc (Qc (Qc (Qc (Qc QJD 16 QA1) 24 (Zj QBb)) 21 (Zj QOR)) 17 (Zj QIJ)) 34 QJo) 19 (Zj QCm)
theorem qF:Qf J6:=(((((QSI.add QG8).add (Wq QDE)).add (Wq QUP)).add (Wq QLw)).add QSa).add (Wq QA4)
variable (d:Puz)(all:Int)(x:List Lay)(e n:Int)(p c:Nat)
def wlS(n e all:Int)(p:Nat):List (Nat×AV):=[(1,.ptr 8 0 0),(3,.slz 88 0 x.length (.of 0)),(5,vi n),(6,vi e),(9,vi all),(60,vi d.ps.n),(61,vi p)]
def wlB:List (Nat×Blk):=[(8,.cells 0 28 (KZ d)),rwY 88 x]++Qg.blk 0 d.ps
def Gr(n e all:Int)(p:Nat):JSt:=⟨147,wlS d x n e all p,wlB d x,424⟩
def QKM(e all:Int):JSt:=⟨147,[(1,.ptr 8 0 0),(6,.int false .i64 e),(9,.int false .i64 all)],[(8,.cells 0 28 (KZ d))]++Qg.blk 0 d.ps,424⟩
def QP6(n e all:Int)(p:Nat)(cells:Int)(c:Nat):List (Nat×AV):=wlS d x n e all p++[(10,.int false .i64 p),(11,.int false .i64 cells),(80,.int false .i64 d.ps.n),(81,.int false .i64 c)]
def zn(n e all:Int)(p:Nat)(cells:Int)(c:Nat):JSt:=⟨147,QP6 d x n e all p cells c,wlB d x,616⟩
def QE2(n e all:Int)(p:Nat):JSt:=⟨147,wlS d x n e all p,wlB d x,616⟩
def QV2(n e all:Int)(p:Nat)(cells:Int)(c:Nat)(s:Bool):List (Nat×AV):=QP6 d x n e all p cells c++[(13,.int false .i64 c),(14,.bool false s)]
def vt(n e all:Int)(p:Nat)(cells:Int)(c:Nat)(T:Int)(s:Bool)(t:Nat):JSt:=⟨147,QV2 d x n e all p cells c s++[(86,.int false .i64 T),(87,.int false .i64 t)],wlB d x,680⟩
def QFK(n e all:Int)(p:Nat)(cells:Int)(c:Nat)(s:Bool):JSt:=⟨147,QV2 d x n e all p cells c s,wlB d x,680⟩
def QN8:Ex->List Nat
 | .normal=>[1,3,5,6,9,60,61]
 | .exit _=>[1,6,9]
 | .ret=>[2]
def QS9:Ex->List Nat
 | .normal=>[1,3,5,6,9,60,61,10,11,80,81]
 | .exit _=>[1,3,5,6,9,60,61]
 | .ret=>[2]
def QVn:Ex->List Nat
 | .normal=>[1,3,5,6,9,60,61,10,11,80,81,13,14,86,87]
 | .exit _=>[1,3,5,6,9,60,61,10,11,80,81,13,14]
 | .ret=>[2]
abbrev YI(p:Nat)(t:Nat):List AV:=
  [vi (c:Int),vi (p:Int),vi (t:Int)]
abbrev QJ8:Nat×Blk:=
  (8,.cells 0 28 (waf d))
abbrev QIh:Nat×Blk:=
  (0,.frz (wae) d.ps.n λi=>QA.enc (d.ps.get i))
abbrev V1:List (Nat×Blk):=
  [(QJ8 d),(88,.rowz true 49 kB x.length λi=>QA.enc (x.getD i (Lay.mk (0:Int) (0:Int)))),(QIh d)]
abbrev wbW(e:Int)(n:Int)(x:List Lay):List AV:=[.ptr 8 0 0, .slz 88 0 x.length cO,vi n,vi e]
abbrev wa1(all:Int)(cells:Int)(d:Puz)(e:Int)(n:Int)(p:Nat)(x:List Lay):List AV:=(List.append (wbW e n x) ([vi all,vi (d.ps.n:Int),vi (p:Int),vi (p:Int),vi cells,vi (d.ps.n:Int)]))
abbrev wbV(T:Int)(c:Nat)(d:Puz)(p:Nat)(t:Nat):List AV:=[vi (c:Int),vi (c:Int),.bool false ((QX d (λi=>Pt.mk (KD [(YI c p t)] 0 i 0) (Lay.mk (KD [(YI c p t)] 0 i 1) (KD [(YI c p t)] 0 i 2))) 1).1==1),vi T,vi (i64.wrap ((t:Int)+1))]
theorem QfP(n e all:Int)(p:Nat)(cells:Int)(c:Nat)(T:Int)(s:Bool)(t:Nat)(g:Nat->Value):exec (mkF prog J6) (hnd (mkF prog J6) 1) (QW (QW (QI f6 0))) (JSt.inst (vt d x n e all p cells c T s t) g) (Q5 [] QVn) = .br (decide ((t:Int)<T)) (.need (decide (d.ps.n<=d.ps.n)&&(true&&true)&&decide (d.ps.n<=1000/\1<=1000/\1<=1)) (.br ((QX d (λi=>Pt.mk (KD [(YI c p t)] 0 i 0) (Lay.mk (KD [(YI c p t)] 0 i 1) (KD [(YI c p t)] 0 i 2))) 1).2 != 0) (.leaf (.tup [.nili,.ptr 147 0 0,.bool true false]) ([])) (.br (s) (.leaf (.tup (.nilp::.ptr 147 0 0::List.append (wa1 all cells d e n p x) ([vi (c:Int),vi (c:Int),.bool true true,vi T,vi (i64.wrap ((t:Int)+1))]))) ((V1 d x))) (.leaf (.tup (.nilp::.ptr 147 0 0::List.append (wa1 all cells d e n p x) ((wbV T c d p t)))) ((V1 d x)))))) (.leaf (.tup (.ptr 4 0 0::.ptr 147 0 0::List.append (wa1 all cells d e n p x) ([vi (c:Int),vi (c:Int),.bool false s]))) ((V1 d x))):=by kernel_rfl
abbrev G2(x:List Lay):List Prop:=
  [0=0,0=0,0=0,x.length=x.length,cO=cO,n=n]
abbrev QHD(cells:Int)(d:Puz)(p:Nat):List Prop:=
  ([all=all]++waH d p++([cells=cells,(d.ps.n:Int)=(d.ps.n:Int)]++wbu c))
abbrev waS(x:List Lay):List Prop:=[x.length<=x.length,QB 2 x.length (λi=>QA.enc (x.getD i (Lay.mk (0:Int) (0:Int)))) λi=>QA.enc (x.getD i (Lay.mk (0:Int) (0:Int)))]
abbrev HF:List Prop:=
  ((waC d++([0=0,d.ps.n=d.ps.n,cO =
  cO]++waS x))++wad d)
theorem QhW(n e all:Int)(p:Nat)(cells:Int)(c:Nat)(T:Int)(s':Bool)(t t':Nat):QF 8 (List.append (wa1 all cells d e n p x) ([vi (c:Int),vi (c:Int),.bool true true,vi T,vi (i64.wrap ((t:Int)+1))])) ((V1 d x)) (vt d x n e all p cells c T s' t')=(some ((G2 n x)++[e=e]++(QHD all c cells d p)++([true=s',T=T,i64.wrap ((t:Int)+1)=(t':Int)]++waK d)++(HF d x))):=by kernel_rfl
theorem QYz(n e all:Int)(p:Nat)(cells:Int)(c:Nat)(T:Int)(s':Bool)(t t':Nat):QF 8 (List.append (wa1 all cells d e n p x) ((wbV T c d p t))) ((V1 d x)) (vt d x n e all p cells c T s' t')=(some ((G2 n x)++[e=e]++(QHD all c cells d p)++([((QX d (λi=>Pt.mk (KD [(YI c p t)] 0 i 0) (Lay.mk (KD [(YI c p t)] 0 i 1) (KD [(YI c p t)] 0 i 2))) 1).1==1)=s',T=T,i64.wrap ((t:Int)+1)=(t':Int)]++waK d)++(HF d x))):=by kernel_rfl
theorem QhY(n e all:Int)(p:Nat)(cells:Int)(c:Nat)(T:Int)(s s':Bool)(t:Nat):QF 8 (List.append (wa1 all cells d e n p x) ([vi (c:Int),vi (c:Int),.bool false s])) ((V1 d x)) (QFK d x n e all p cells c s')=(some ((G2 n x)++[e=e]++(QHD all c cells d p)++([s=s']++waK d)++(HF d x))):=by kernel_rfl
abbrev QVY(cells:Int)(d:Puz)(e:Int)(n:Int)(p:Nat)(x:List Lay):List AV:=
  (.nilp::.ptr 147 0 0::List.append (wa1 all cells d e n p x) ([vi (i64.wrap ((c:Int)+1))]))
theorem QbD(n e all:Int)(p:Nat)(cells:Int)(c:Nat)(s:Bool)(A B:Prop)(g:Nat->Value):exec (mkF prog J6) { hnd (mkF prog J6) 1 with loop:=λ_=>Ks A (KF 8 [] (vt d x n e all p cells c (tnV d p) false 0) [(B,.exit 4,QFK d x n e all p cells c s)]) } (QW (QI f6 0)) (JSt.inst (zn d x n e all p cells c) g) (Q5 [] QS9) = .br (decide ((c:Int)<(d.ps.n:Int))) (.need (decide (d.ps.n<=d.ps.n)&&(true&&true)&&true) (.ak (([A,0=0,0=0,0=0,x.length=x.length,cO=cO,n=n,e=e,all=all]++waH d p++([cells=cells,(d.ps.n:Int)=(d.ps.n:Int)]++wbu c++[false=false,tnV d (p:Int)=tnV d (p:Int),(0:Int)=0]))++waa d++(([cO=cO]++waS x)++wad d)) (.asm (B) (.all (λ(g0:Nat->Value)=>.need (decide ((0:Int)<=(c:Int))) (.br (!s==(i64.wrap (↑(BitVec.ofInt 64 (cells.fdiv ((2:Int)^min c 64)) &&& BitVec.ofInt 64 (1:Int)).toNat:Int)==1)) (.leaf (.tup [.nili,.ptr 147 0 0,.bool true false]) ([])) (.br (n==1) (.need (decide ((0:Int)<=(c:Int)/\(c:Int)<(x.length:Int))&&decide (x.length<=x.length)) (.need (decide (c<x.length)) (.br (!s==((x.getD c (Lay.mk (0:Int) (0:Int))).piece==(p:Int))) (.leaf (.tup [.nili,.ptr 147 0 0,.bool true false]) ([])) (.leaf (.tup (QVY all c cells d e n p x)) ((V1 d x)))))) (.leaf (.tup (QVY all c cells d e n p x)) ((V1 d x)))))))))) (.leaf (.tup (.ptr 2 0 0::.ptr 147 0 0::List.append (wbW e n x) ([vi all,vi (d.ps.n:Int),vi (p:Int)]))) ((V1 d x))):=by kernel_rfl
abbrev QWB(cells:Int)(d:Puz)(e:Int)(n:Int)(p:Nat)(x:List Lay):List AV:=
  (List.append (wa1 all cells d e n p x) ([vi (i64.wrap ((c:Int)+1))]))
abbrev QWN(c':Nat)(cells:Int)(d:Puz)(e:Int)(n:Int)(p:Nat)(x:List Lay):List Prop:=
  (([0=0,0=0,0=0,x.length=x.length,cO=cO,n=n,e=e,all=all]++waH d p++[cells =
  cells,(d.ps.n:Int)=(d.ps.n:Int),i64.wrap ((c:Int)+1)=(c':Int)])++waa d++(([cO=cO]++waS x)++wad d))
theorem QgW(n e all:Int)(p:Nat)(cells:Int)(c:Nat)(c':Nat):QF 8 (QWB all c cells d e n p x) ((V1 d x)) (zn d x n e all p cells c')=(some (QWN all c c' cells d e n p x)):=by kernel_rfl
theorem Qi9(n e all:Int)(p:Nat)(cells:Int)(c:Nat)(c':Nat):QF 8 (QWB all c cells d e n p x) ((V1 d x)) (zn d x n e all p cells c')=(some (QWN all c c' cells d e n p x)):=by kernel_rfl
theorem Qkz(n e all:Int)(p:Nat)(cells:Int)(c:Nat):QF 8 (List.append (wbW e n x) ([vi all,vi (d.ps.n:Int),vi (p:Int)])) ((V1 d x)) (QE2 d x n e all p)=(some ((G2 n x)++(([e=e,all=all]++wb6 d p)++waK d)++(HF d x))):=by kernel_rfl
theorem Qbk(n e all:Int)(p:Nat)(A B:Prop)(g:Nat->Value):exec (mkF prog J6) { hnd (mkF prog J6) 1 with loop:=λ_=>Ks A (KF 8 [] (zn d x n e (orN all (Kr d p).1) p (Kr d p).1 0) [(B,.exit 2,QE2 d x n e (orN all (Kr d p).1) p)]) } (QI f6 0) (JSt.inst (Gr d x n e all p) g) (Q5 [] QN8) = .br (decide ((p:Int)<(d.ps.n:Int))) (.need (decide (d.ps.n<=d.ps.n)&&(true&&true)&&decide (d.ps.n<=1000)) (.br ((Kr d (p:Int)).2 != e) (.leaf (.tup [.nili,.ptr 147 0 0,.bool true false]) ([])) (.br (e != 0) (.leaf (.tup (.nilp::.ptr 147 0 0::List.append (wbW e n x) ([vi all,vi (d.ps.n:Int),vi (i64.wrap ((p:Int)+1))]))) ((V1 d x))) (.ak (([A,0=0,0=0,0=0,x.length=x.length,cO=cO,n=n,e=e,i64.wrap (↑(BitVec.ofInt 64 all ||| BitVec.ofInt 64 (Kr d (p:Int)).1).toNat:Int)=orN all (Kr d (p:Int)).1]++waH d p++[(Kr d (p:Int)).1=(Kr d (p:Int)).1,(d.ps.n:Int)=(d.ps.n:Int),(0:Int)=0])++waa d++(([cO=cO]++waS x)++wad d)) (.asm (B) (.all (λ(g0:Nat->Value)=>.leaf (.tup (.nilp::.ptr 147 0 0::List.append (wbW e n x) ([vi (orN all (Kr d (p:Int)).1),vi (d.ps.n:Int),vi (i64.wrap ((p:Int)+1))]))) ((V1 d x))))))))) (.leaf (.tup [.ptr 0 0 0,.ptr 147 0 0,.ptr 8 0 0,vi e,vi all]) ([(QJ8 d),(QIh d)])):=by kernel_rfl
theorem QWs(n e all all':Int)(p p':Nat):QF 8 (List.append (wbW e n x) ([vi all,vi (d.ps.n:Int),vi (i64.wrap ((p:Int)+1))])) ((V1 d x)) (Gr d x n e all' p')=(some ((G2 n x)++([e=e,all=all',(d.ps.n:Int)=(d.ps.n:Int),i64.wrap ((p:Int)+1)=(p':Int)]++waK d)++(HF d x))):=by kernel_rfl
theorem QX3(n e all all':Int)(p p':Nat):QF 8 (List.append (wbW e n x) ([vi (orN all (Kr d (p:Int)).1),vi (d.ps.n:Int),vi (i64.wrap ((p:Int)+1))])) ((V1 d x)) (Gr d x n e all' p')=(some ((G2 n x)++([e=e,orN all (Kr d (p:Int)).1=all',(d.ps.n:Int)=(d.ps.n:Int),i64.wrap ((p:Int)+1)=(p':Int)]++waK d)++(HF d x))):=by kernel_rfl
theorem QY3(x:List Lay)(n e all all':Int)(p:Nat):QF 8 [.ptr 8 0 0,vi e,vi all] ([(QJ8 d),(QIh d)]) (QKM d e all')=(some ([0=0,0=0,e=e,all=all']++waa d++([cO=cO]++wad d))):=by kernel_rfl
abbrev QJ3(c p t:Nat):Nat->Pt:=λi=>Pt.mk (KD [[.int false .i64 (c:Int),.int false .i64 (p:Int),.int false .i64 (t:Int)]] 0 i 0) (Lay.mk (KD [[.int false .i64 (c:Int),.int false .i64 (p:Int),.int false .i64 (t:Int)]] 0 i 1) (KD [[.int false .i64 (c:Int),.int false .i64 (p:Int),.int false .i64 (t:Int)]] 0 i 2))
theorem Qhv{d:Puz}{g g':Nat->Pt}(h:g 0=g' 0):QX d g 1=QX d g' 1:=by
 have hA:∀ g:Nat->Pt,Qj (Zm g 0)=λc x=>!(X5 ⟨1,λ_=>g 0⟩ c x 0):=λg=>funext λc=>funext λx=>by
  show(QR (X5 (Zm g 0) c x) 1 0).isNone=_;rw[QNg];rfl
 have hb:∀ g:Nat->Pt,QR (JE d g) 1 0=cond (J2 d (g 0)) none (some 0):=λg=>by
  have:JE d g 0 = !J2 d (g 0):=Bool.or_false _;simp only[QR,this];cases J2 d (g 0)<;>rfl
 have hk:∀ g:Nat->Pt,JF d (QH d) g 1=cond (hsV d (QH d) (Qj (Zm g 0))) 1 0:=λg=>by
  have e:VB d (QH d) g 0 = !hsV d (QH d) (Qj (Zm g 0)):=rfl;unfold JF;cases q:hsV d (QH d) (Qj (Zm g 0))<;>rw[q]at e<;>simp only[QR,e,Bool.not_true,Bool.not_false]<;>rfl
 have he:Jq d g 0=Jq d g' 0:=by unfold Jq;rw[h]
 unfold QX Wf;rw[hb,hb,hk,hk,hA,hA,h];cases J2 d (g' 0)
 .show cond d.ok (cond _ (0,3) (0,Jq d g 0)) (0,1)=cond d.ok (cond _ (0,3) (0,Jq d g' 0)) (0,1);rw[he]
 .rfl
theorem QL1(c p t:Nat):QX d (QJ3 c p t) 1=QX d (λ_=>⟨c,⟨p,t⟩⟩) 1:=Qhv rfl
def Qig(n e all:Int)(p:Nat)(cells:Int)(c:Nat)(e':Ex)(J:JSt):Prop:=e' = .exit 4/\J=QFK d x n e all p cells c (smV d p c (tnV d p).toNat)
theorem QXq{d:Puz}(ho:d.ok=true)(hs:Q7 d (QH d)≠[])(x:List Lay)(n e all:Int){p:Nat}(cells:Int){c:Nat}(hp:p<d.ps.n)(hc:c<d.ps.n):K6 (λt=>vt d x n e all p cells c (tnV d p) (smV d p c t) t) (λt=>t<=(tnV d p).toNat) (λt=>(tnV d p).toNat-t) (λ_=>Qig d x n e all p cells c) 8 QVn [] (λ_=>mkF prog J6) (λ_=>hnd (mkF prog J6) 1) (QW (QW (QI f6 0))):=by
 refine⟨λt g hk=>?_⟩;have hk:t<=(tnV d p).toNat:=hk;obtain⟨ht1,ht4⟩:=QOG d p;obtain⟨hd,hpos,h9⟩:=JW (JU ho);have wt:i64.wrap ((t:Int)+1)=((t+1:Nat):Int):=w64 (by omega) (by omega)
 have et:=QfP d x n e all p cells c (tnV d p) (smV d p c t) t g;refine Qh et ?_;clear et;refine QE (λb0=>?_) (λb0=>?_);have h:t<(tnV d p).toNat:=by have:=qdt b0;omega
 have e1:=QVZ ho hs hp hc h;refine QG ?_ ?_;rotate_left;refine QE ?_ ?_<;>intro b1
 .have q:((QX d (QJ3 c p t) 1).2 != 0)=true:=b1;rw[QL1,e1]at q;cases q
 refine QE (λb2=>?_) (λb2=>?_);have q:smV d p c (t+1)=true:=by rw[smV,show smV d p c t=true from b2];rfl
 refine⟨t+1,h,by show(tnV d p).toNat-(t+1)<(tnV d p).toNat-t;omega,λe J r=>r,rfl,rfl,_,QhW d x n e all p cells c (tnV d p) (smV d p c (t+1)) t (t+1),?_⟩
 rotate_left
 have q:smV d p c (t+1)=((QX d (QJ3 c p t) 1).1==1):=by rw[smV,show smV d p c t=false from b2,QL1];rfl
 refine⟨t+1,h,by show(tnV d p).toNat-(t+1)<(tnV d p).toNat-t;omega,λe J r=>r,rfl,rfl,_,QYz d x n e all p cells c (tnV d p) (smV d p c (t+1)) t (t+1),?_⟩
 rotate_left
 .have h:t=(tnV d p).toNat:=by have:=qdf b0;omega
  refine⟨_,⟨rfl,rfl⟩,rfl,rfl,_,QhY d x n e all p cells c (tnV d p) (smV d p c t) (smV d p c (tnV d p).toNat) t,?_⟩;subst h
  repeat' first|with_reducible refine QM ?_ ?_|exact tv|with_reducible exact qRr|exact rfl|refine aI ?_ ?_
 all_goals first|((with_reducible show _=true);(first|rfl|(rw[qde (qlr _)];rfl)|(simp only[qlr,decide_true,Bool.and_true,Bool.true_and,qbA,qdE];omega)|(simp;omega)))|(repeat' first|with_reducible refine QM ?_ ?_|exact tv|with_reducible exact qRr|with_reducible exact wt|exact q.symm|exact rfl|refine aI ?_ ?_)
abbrev QUX(P:Program)(d:Puz)(x:List Lay)(n e all:Int)(p:Nat)(cells:Int)(c:Nat):Hnd:={ hnd (mkF P J6) 1 with loop:=λ_=>Ks (c<d.ps.n) (KF 8 [] (vt d x n e all p cells c (tnV d p) false 0) [(True,.exit 4,QFK d x n e all p cells c (smV d p c (tnV d p).toNat))]) }
theorem Qk8{d:Puz}(ho:d.ok=true)(hs:Q7 d (QH d)≠[])(x:List Lay)(n e all:Int){p:Nat}(cells:Int)(hp:p<d.ps.n)(c:Nat)(G:Ctx)(hrd:G.rd=none)(hG:G.n<=8):Q0 (mkF prog J6) G (QUX prog d x n e all p cells c) (QW (QI f6 0)):=by
 refine KO (body:=QW (QW (QI f6 0))) (KS qF) hrd (by kernel_rfl) ?_
 refine JJ λhc=>?_;refine JG (I:=λt=>vt d x n e all p cells c (tnV d p) (smV d p c t) t) (n0:=8) (λ_=>rfl) (λ_=>KS qF) hG (λt _=>Qz (KS qF) 1 G _ hrd) (λt _=>(by decide:8<=680)) ?_ (QXq ho hs x n e all cells hp hc) (s0:=0) (Nat.zero_le _) ?_
 .rintro s e J ⟨_,rfl⟩;exact(by decide:8<=680)
 .rintro e J ⟨rfl,rfl⟩;exact⟨_,qmc,trivial,rfl,rfl⟩
def Qk6(n e all:Int)(p:Nat)(e':Ex)(J:JSt):Prop:=e' = .exit 2/\J=QE2 d x n e all p
theorem QaP{d:Puz}(ho:d.ok=true)(hs:Q7 d (QH d)≠[]){x:List Lay}{n:Int}(hx:n=1->Q7 d (QH d)=[x])(e all:Int){p:Nat}(hp:p<d.ps.n):K6 (λc=>zn d x n e all p (Kr d p).1 c) (λc=>c<=d.ps.n) (λc=>d.ps.n-c) (λ_=>Qk6 d x n e all p) 8 QS9 [] (λ_=>mkF prog J6) (λc=>QUX prog d x n e all p (Kr d p).1 c) (QW (QI f6 0)):=by
 refine⟨λc g hk=>?_⟩;have hk:c<=d.ps.n:=hk;obtain⟨hd,hpos,h9⟩:=JW (JU ho);have wc:i64.wrap ((c:Int)+1)=((c+1:Nat):Int):=w64 (by omega) (by omega)
 have et:=QbD d x n e all p (Kr d p).1 c (smV d p c (tnV d p).toNat) (c<d.ps.n) True g;refine Qh et ?_;clear et;refine QE (λb0=>?_) (λb0=>?_);have h:c<d.ps.n:=by have:=qdt b0;omega
 have ec:=QkN ho hs hp h;refine QG ?_ ?_;rotate_left
 iterate 34 refine Qt (by first|exact tv|exact h|with_reducible exact qRr|exact rfl) ?_
 refine Qk λa0=>?_;refine Ql λg0=>?_;refine QG ?_ ?_;rotate_left;refine QE ?_ ?_<;>intro b1
 .have q:(!(smV d p c (tnV d p).toNat==QKJ (Kr d p).1 c))=true:=b1;rw[ec,Qf9 ho hs hp h,beq_self_eq_true]at q;cases q
 refine QE (λb2=>?_) (λb2=>?_);have hx1:=hx (beq_iff_eq.1 b2);have hxl:x.length=d.ps.n:=(Vr.1 (show x∈Q7 d (QH d) by rw[hx1];exact qmc)).len
 iterate 2 (refine QG ?_ ?_;rotate_left)
 refine QE ?_ ?_<;>intro b3
 .have q:(!(smV d p c (tnV d p).toNat==((x.getD c ⟨0,0⟩:Lay).piece==(p:Int))))=true:=b3;rw[ec,Qb4 hx1 h,beq_self_eq_true]at q;cases q
 refine⟨c+1,h,by show d.ps.n-(c+1)<d.ps.n-c;omega,λe J r=>r,rfl,rfl,_,QgW d x n e all p (Kr d p).1 c (c+1),?_⟩
 rotate_left
 refine⟨c+1,h,by show d.ps.n-(c+1)<d.ps.n-c;omega,λe J r=>r,rfl,rfl,_,Qi9 d x n e all p (Kr d p).1 c (c+1),?_⟩
 rotate_left
 refine⟨_,⟨rfl,rfl⟩,rfl,rfl,_,Qkz d x n e all p (Kr d p).1 c,?_⟩
 rotate_left
 all_goals first|((with_reducible show _=true);(first|rfl|(rw[qde (qlr _)];rfl)|(simp only[qlr,decide_true,Bool.and_true,Bool.true_and,qbA,qdE];omega)|(simp;omega)))|(repeat' first|with_reducible refine QM ?_ ?_|exact tv|with_reducible exact qRr|with_reducible exact wc|exact rfl|refine aI ?_ ?_)
abbrev QUZ(P:Program)(d:Puz)(x:List Lay)(n e all:Int)(p:Nat):Hnd:={ hnd (mkF P J6) 1 with loop:=λ_=>Ks (p<d.ps.n/\e=0) (KF 8 [] (zn d x n e (orN all (Kr d p).1) p (Kr d p).1 0) [(True,.exit 2,QE2 d x n e (orN all (Kr d p).1) p)]) }
theorem Qjm{d:Puz}(ho:d.ok=true){x:List Lay}{n e:Int}(he:e=0->Q7 d (QH d)≠[])(hx:n=1->Q7 d (QH d)=[x])(all:Int)(p:Nat)(G:Ctx)(hrd:G.rd=none)(hG:G.n<=8):Q0 (mkF prog J6) G (QUZ prog d x n e all p) (QI f6 0):=by
 refine KO (body:=QW (QI f6 0)) (KS qF) hrd (by kernel_rfl) ?_
 refine JJ λhc=>?_;have hs:=he hc.2;refine JG (I:=λc=>zn d x n e (orN all (Kr d p).1) p (Kr d p).1 c) (n0:=8) (λ_=>rfl) (λ_=>KS qF) hG (λc _=>Qk8 ho hs x n e _ _ hc.1 c G hrd hG) (λc _=>(by decide:8<=616)) ?_ (QaP ho hs hx e _ hc.1) (s0:=0) (Nat.zero_le _) ?_
 .rintro s e J ⟨_,rfl⟩;exact(by decide:8<=616)
 .rintro e J ⟨rfl,rfl⟩;exact⟨_,qmc,trivial,rfl,rfl⟩
def wqA:Int:=cond (e != 0) 0 (wpA d p)
def Qb9(e':Ex)(J:JSt):Prop:=e' = .exit 0/\J=QKM d e (wqA d e d.ps.n)
theorem QhP{d:Puz}(ho:d.ok=true){x:List Lay}{n e:Int}(he:∀ p:Nat,p<d.ps.n->(Kr d p).2=e):K6 (λp=>Gr d x n e (wqA d e p) p) (λp=>p<=d.ps.n) (λp=>d.ps.n-p) (λ_=>Qb9 d e) 8 QN8 [] (λ_=>mkF prog J6) (λp=>QUZ prog d x n e (wqA d e p) p) (QI f6 0):=by
 refine⟨λp g hk=>?_⟩;have hk:p<=d.ps.n:=hk;obtain⟨hd,hpos,h9⟩:=JW (JU ho);have wc:i64.wrap ((p:Int)+1)=((p+1:Nat):Int):=w64 (by omega) (by omega)
 have et:=Qbk d x n e (wqA d e p) p (p<d.ps.n/\e=0) True g;refine Qh et ?_;clear et;refine QE (λb0=>?_) (λb0=>?_);have h:p<d.ps.n:=by have:=qdt b0;omega
 refine QG ?_ ?_;rotate_left;refine QE ?_ ?_<;>intro b1
 .have q:((Kr d p).2 != e)=true:=b1;rw[he p h]at q;simp at q
 refine QE (λb2=>?_) (λb2=>?_);have q:wqA d e (p+1)=wqA d e p:=by unfold wqA;rw[b2];rfl
 refine⟨p+1,h,by show d.ps.n-(p+1)<d.ps.n-p;omega,λe J r=>r,rfl,rfl,_,QWs d x n e (wqA d e p) (wqA d e (p+1)) p (p+1),?_⟩
 rotate_left
 have h0:e=0:=by simpa using b2
 iterate 30 refine Qt (by first|exact tv|exact⟨h,h0⟩|with_reducible exact qRr|exact rfl) ?_
 refine Qk λa0=>?_;refine Ql λg0=>?_;have q:wqA d e (p+1)=orN (wqA d e p) (Kr d p).1:=by unfold wqA;rw[b2];rfl
 refine⟨p+1,h,by show d.ps.n-(p+1)<d.ps.n-p;omega,λe J r=>r,rfl,rfl,_,QX3 d x n e (wqA d e p) (wqA d e (p+1)) p (p+1),?_⟩
 rotate_left
 .have h:p=d.ps.n:=by have:=qdf b0;omega
  refine⟨_,⟨rfl,rfl⟩,rfl,rfl,_,QY3 d x n e (wqA d e p) (wqA d e d.ps.n) p,?_⟩;rw[h]
  repeat' first|with_reducible refine QM ?_ ?_|exact tv|with_reducible exact qRr|exact rfl|refine aI ?_ ?_
 all_goals first|((with_reducible show _=true);(first|rfl|(rw[qde (qlr _)];rfl)|(simp only[qlr,decide_true,Bool.and_true,Bool.true_and,qbA,qdE];omega)|(simp;omega)))|(repeat' first|with_reducible refine QM ?_ ?_|exact tv|with_reducible exact qRr|with_reducible exact wc|exact q.symm|exact rfl|refine aI ?_ ?_)
abbrev wlH(P:Program)(d:Puz):Hnd:={ hnd (mkS P J6) 1 with loop:=λ_=>Ks (d.ok=true) (KF 8 [] (Gr d (QO d).1 (QO d).2.2.1 (QO d).2.2.2 (wqA d (QO d).2.2.2 0) 0) [(True,.exit 0,QKM d (QO d).2.2.2 (wqA d (QO d).2.2.2 d.ps.n))]) }
structure Qjb (d:Puz):Prop where
 some:(QO d).2.2.2=0->Q7 d (QH d)≠[]
 one:(QO d).2.2.1=1->Q7 d (QH d)=[(QO d).1]
 whr:∀ p:Nat,p<d.ps.n->(Kr d p).2=(QO d).2.2.2
 tw:(JC d).2=0
 tw1:((QO d).2.2.1==1&&decide (((JC d).1.length:Int)>0))=false
 tw2:((QO d).2.2.2 != 0&&decide (((JC d).1.length:Int)>0))=false
theorem QLE{d:Puz}(ho:d.ok=true):Qjb d:=by
 have es:=QFo ho;have ht:(JC d).2=0:=by unfold JC;rw[ho];rfl
 cases hs:Q7 d (QH d)with
 | nil=>
  have tn:=QQD ho (by rw[hs];exact Nat.zero_le _)
  rw[hs]at es;have es:QO d=([],[],0,4):=es;refine⟨λh=>?_,λh=>?_,λp hp=>?_,ht,?_,?_⟩
  .rw[es]at h;cases h
  .rw[es]at h;cases h
  .rw[QWW ho hs hp,es]
  .rw[es];rfl
  .rw[tn,es];rfl
 | cons a S=>
  have hne:Q7 d (QH d)≠[]:=by rw[hs];exact List.cons_ne_nil _ _
  rw[hs]at es;have e2:(QO d).2.2.2=0:=by rw[es];rfl
  have e1:(QO d).1=a:=by rw[es];rfl
  have en:(QO d).2.2.1=((min (a::S).length 100:Nat):Int):=by rw[es];rfl
  have h1:(QO d).2.2.1=1->S=[]:=λh=>by
   rw[en,List.length_cons]at h;exact List.eq_nil_of_length_eq_zero (by omega)
  refine⟨λ_=>hne,λh=>?_,λp hp=>?_,ht,?_,?_⟩
  .rw[hs,e1,h1 h]
  .rw[QK1 ho hne hp,e2]
  .cases hq:(QO d).2.2.1==1 with
   | false=>rfl
   | true=>
    rw[QQD ho (by rw[hs,h1 (beq_iff_eq.1 hq)];exact qlr _)];rfl
  .rw[e2];rfl
theorem Qil(G:Ctx)(hrd:G.rd=none)(hG:G.n=8):Q0 (mkS prog J6) G (wlH prog d) (Qn f6):=by
 refine KO (body:=QI f6 0) (Zf qF) hrd (by kernel_rfl) ?_
 refine JJ λho=>?_;have hf:=QLE ho;refine JG (I:=λp=>Gr d (QO d).1 (QO d).2.2.1 (QO d).2.2.2 (wqA d (QO d).2.2.2 p) p) (n0:=8) (λ_=>rfl) (λ_=>KS qF) (by omega) (λp _=>Qjm ho hf.some hf.one _ p G hrd (by omega)) (λp _=>(by decide:8<=424)) ?_ (QhP ho hf.whr) (s0:=0) (Nat.zero_le _) ?_
 .rintro s e J ⟨_,rfl⟩;exact(by decide:8<=424)
 .rintro e J ⟨rfl,rfl⟩;exact⟨_,qmc,trivial,rfl,rfl⟩
theorem QkZ{d:Puz}(ho:d.ok=true):((QO d).2.2.2 != 0||wqA d (QO d).2.2.2 d.ps.n==i64.wrap (i64.wrap (1*2^min (d.ps.n:Int).toNat 64)-1))=true:=by
 obtain⟨hd,hpos,h9⟩:=JW (JU ho);cases h:(QO d).2.2.2 != 0 with
 | true=>rfl
 | false=>
  have h0:(QO d).2.2.2=0:=by simpa using h
  unfold wqA;rw[h,cond_false,Qaw ho ((QLE ho).some h0),QYn _ (by omega)]
  simp
def QEI:WF (Puz×Unit):=λ|(d,_)=>(true,.bool false true,[])
theorem Qf0 :Kg (mkS prog J6) (wlH prog d) f6 (QZ.vals 0 ((d,()):Puz×Unit)) (QZ.blks 0 ((d,()):Puz×Unit)) 8 = .need (decide (d.ps.n<=d.ps.n)&&(true&&true)&&true) (.need (!!KR d (6:Int)||decide (d.ps.n<=d.ps.n)&&true&&decide (d.ps.n<=1000)&&!KR d (6:Int)) (.need (!!KR d (6:Int)||!KR d (6:Int)) (.need (KR d (6:Int)||!KR d (6:Int)) (.bnd (KR d (6:Int)||!d.ok) (λ(x0:Bool)=>.br (x0) (.leaf (.bool true true) ([])) (.need (decide (d.ps.n<=d.ps.n)&&true&&decide (d.ps.n<=1000)) (.need (decide (d.ps.n<=d.ps.n)&&true&&decide (d.ps.n<=1000)) (.need (!!(JC d).2 != 0||!(JC d).2 != 0) (.need (!!(JC d).2 != 0||!(JC d).2 != 0) (.need (!(!(JC d).2 != 0&&(QO d).2.2.1==1)||!(JC d).2 != 0&&(QO d).2.2.1==1) (.need (!(!(JC d).2 != 0&&(QO d).2.2.1==1)||!(JC d).2 != 0&&(QO d).2.2.1==1) (.need (!!(JC d).2 != 0||!(JC d).2 != 0&&(!(QO d).2.2.1==1||!(JC d).2 != 0&&(QO d).2.2.1==1)) (.bnd ((QO d).2.2.1==1&&decide ((↑(JC d).1.length:Int)>0)) (λ(x1:Bool)=>.need ((JC d).2 != 0||!(JC d).2 != 0) (.bnd ((JC d).2 != 0||x1) (λ(x2:Bool)=>.need (!!x2||!x2) (.need (!!x2||!x2) (.need (!(!x2&&(QO d).2.2.2 != 0)||!x2&&(QO d).2.2.2 != 0) (.need (!(!x2&&(QO d).2.2.2 != 0)||!x2&&(QO d).2.2.2 != 0) (.need (!!x2||!x2&&(!(QO d).2.2.2 != 0||!x2&&(QO d).2.2.2 != 0)) (.bnd ((QO d).2.2.2 != 0&&decide ((↑(JC d).1.length:Int)>0)) (λ(x3:Bool)=>.need (x2||!x2) (.bnd (x2||x3) (λ(x4:Bool)=>.br (x4) (.leaf (.bool true false) ([])) (.ak ([d.ok=true,0=0,0=0,0=0,(QO d).1.length=(QO d).1.length,cO=cO,(QO d).2.2.1=(QO d).2.2.1,(QO d).2.2.2=(QO d).2.2.2,(0:Int)=wqA d (QO d).2.2.2 0,(d.ps.n:Int)=(d.ps.n:Int),(0:Int)=0]++waa d++([cO=cO,(QO d).1.length<=(QO d).1.length,QB 2 (QO d).1.length (λi=>QA.enc ((QO d).1.getD i (Lay.mk (0:Int) (0:Int)))) λi=>QA.enc ((QO d).1.getD i (Lay.mk (0:Int) (0:Int)))]++wad d)) (.asm (True) (.all (λ(g5:Nat->Value)=>.need (!!(QO d).2.2.2 != 0||!(QO d).2.2.2 != 0) (.need (!!(QO d).2.2.2 != 0||!(QO d).2.2.2 != 0) (.need (!!(QO d).2.2.2 != 0||decide ((0:Int)<=(d.ps.n:Int))&&!(QO d).2.2.2 != 0) (.need (!!(QO d).2.2.2 != 0||!(QO d).2.2.2 != 0) (.need (!!(QO d).2.2.2 != 0||!(QO d).2.2.2 != 0&&!(QO d).2.2.2 != 0) (.need ((QO d).2.2.2 != 0||!(QO d).2.2.2 != 0) (.bnd ((QO d).2.2.2 != 0||wqA d (QO d).2.2.2 d.ps.n==i64.wrap (i64.wrap ((1:Int)*2^min d.ps.n 64)-1)) (λ(x6:Bool)=>.need (!x6||x6) (.bnd (x6||false) (λ(x7:Bool)=>.leaf (.bool false x7) ([])))))))))))))))))))))))))))))))))))))):=by kernel_rfl
theorem QWt:JL (mkS prog J6) (Qn f6) 8 QEI (λx_=>(wlH prog x_.1)):=by
 refine⟨?_⟩;rintro⟨d,⟨⟩⟩ hp G h1 h2;exact Qil d G h1 h2
theorem QdP:JH (mkS prog J6) f6 8 QEI (λx_=>(wlH prog x_.1)):=by
 refine⟨?_⟩;rintro⟨d,⟨⟩⟩ hp;refine⟨⟨rfl,by simp[QEI],rfl⟩,⟨?_⟩⟩
 rw[Qf0 d];simp only[QEI]at hp;have n1:∀ b:Bool,(!!b || !b)=true:=λb=>by cases b<;>rfl
 have n2:∀ b:Bool,(b || !b)=true:=λb=>by cases b<;>rfl
 have n3:∀ a c:Bool,(!(!a&&c) || !a&&c)=true:=λa c=>by cases a<;>cases c<;>rfl
 have n4:∀ a c:Bool,(!!a || !a&&(!c || !a&&c))=true:=λa c=>by cases a<;>cases c<;>rfl
 have n5:∀ a c:Bool,c=true->(!!a||c && !a)=true:=λa c h=>by rw[h];cases a<;>rfl
 have n6:∀ a:Bool,(!!a || !a && !a)=true:=λa=>by cases a<;>rfl
 have n0:(!!KR d 6||decide (d.ps.n<=d.ps.n)&&true&&decide (d.ps.n<=1000) && !KR d 6)=true:=by
  cases hg:KR d 6 with
  | true=>rfl
  | false=>
   have:¬ ((d.ps.n:Int)>14):=λh=>by rw[KR,qde h]at hg;cases hg
   rw[qde (qlr _),qde (show d.ps.n<=1000 by omega)];rfl
 iterate 4 (refine QG ?_ ?_;rotate_left)
 refine Jc λz0 y0=>?_;obtain rfl:z0=(KR d 6 || !d.ok):=y0.trans (rfl)
 refine QE ?_ ?_<;>intro b0
 .exact KN rfl rfl
 have hg:KR d 6=false/\d.ok=true:=by simpa using b0
 have ho:=hg.2;have hf:=QLE ho;obtain⟨hd,hpos,h9⟩:=JW (JU ho)
 iterate 7 (refine QG ?_ ?_;rotate_left)
 refine Jc λz1 y1=>?_;obtain rfl:z1=false:=y1.trans (hf.tw1);refine QG ?_ ?_;rotate_left;refine Jc λz2 y2=>?_;obtain rfl:z2=false:=y2.trans (by rw[hf.tw];rfl)
 iterate 5 (refine QG ?_ ?_;rotate_left)
 refine Jc λz3 y3=>?_;obtain rfl:z3=false:=y3.trans (hf.tw2);refine QG ?_ ?_;rotate_left;refine Jc λz4 y4=>?_;obtain rfl:z4=false:=y4.trans (rfl);refine QE ?_ ?_<;>intro b1
 .cases b1
 iterate 26 refine Qt (by first|with_reducible rfl|exact ho|exact qlr _|with_reducible exact qRr|exact trivial|exact rfl|(unfold wqA;cases (QO d).2.2.2 != 0<;>rfl)) ?_
 refine Qk λa0=>?_;refine Ql λg0=>?_
 iterate 6 (refine QG ?_ ?_;rotate_left)
 refine Jc λz5 y5=>?_;obtain rfl:z5=true:=y5.trans (QkZ ho);refine QG ?_ ?_;rotate_left;refine Jc λz6 y6=>?_;obtain rfl:z6=true:=y6.trans (rfl)
 .exact KN rfl rfl
 all_goals first|rfl|(rw[qde (qlr _)];rfl)|exact n0|exact n1 _|exact n2 _|exact n3 _ _|exact n4 _ _|exact n6 _|exact n5 _ _ (qde (by omega))|(rw[qde (qlr _),qde (show d.ps.n<=1000 by omega)];rfl)
