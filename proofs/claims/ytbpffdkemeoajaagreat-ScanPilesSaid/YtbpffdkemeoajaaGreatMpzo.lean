/- - -/
import Derived.Test.YtbpffdkemeoajaaGreatMpzn
open Go.Proofs.Tryz
open Go.IntKind (i64)
set_option maxRecDepth 100000
namespace Go.Proofs.YtbpffdkemeoajaaGreat
open Go Go.SX
theorem QRH(L:List (List QB))(w:List QB)(i:Nat):QG (L++[w]) i=if i<L.length then QG L i else if i=L.length then w else []:=by
 unfold QG;rw[List.getD_eq_getElem?_getD,List.getD_eq_getElem?_getD]
 by_cases h:i<L.length
 .rw[if_pos h,List.getElem?_append_left h]
 .rw[if_neg h,List.getElem?_append_right (by omega)]
  by_cases h2:i=L.length
  .subst h2;simp
  .rw[if_neg h2,List.getElem?_eq_none (by simp;omega)];rfl
theorem QcD(L:List (List QB))(w:List QB):Q1 2 (L++[w]).length (Va L.length (λi=>(QG L i).length) w.length) (λi=>(QG (L++[w]) i).length) (V3 L.length (λi j=>QA.enc ((QG L i).getD j ⟨0,0⟩)) (λi=>QA.enc (w.getD i ⟨0,0⟩))) (λi j=>QA.enc ((QG (L++[w]) i).getD j ⟨0,0⟩)):=by
 intro i hi;rw[List.length_append,List.length_singleton]at hi
 by_cases h:i<L.length
 .simp only[Va,V3,j5 h,QRH,if_pos h];exact⟨trivial,qRr⟩
 .have e:i=L.length:=by omega
  simp only[Va,V3,j6 h,QRH,if_neg h,if_pos e];exact⟨trivial,qRr⟩
variable {d:Nat}(x:QD)(w:List QB)(T:List (List QB))(C:List QB)(e:Int)
theorem QJE(L L':List (List QB)):(fdU x w L L').Ok:=by
 have e0:∀ nid:Nat,JR 0 8 nid 8=nid:=λnid=>by
  have:Nat.blt 8 0=false:=rfl;simp only[JR,this];omega
 refine⟨Nat.zero_le _,rfl,rfl,?_,rfl,λnid h=>?_,λnid h=>?_⟩
 .intro q hq;simp only[UC.po,fdU,List.mem_singleton]at hq;subst hq;exact⟨rfl,rfl,rfl,λh=>absurd h (Nat.not_lt_zero _)⟩
 .simp only[UC.va,fdU,QHs,AV.mapId,e0]
 .simp only[UC.po,fdU,QHs,Jm,List.map_cons,List.map_nil,Blk.mapId,e0]
abbrev zR(d:Nat):={ s:Nat×List (List QB) // s.1<=C.length/\s.2.length+(C.length+1-s.1)*38^d<=100000000 }
def QFo(d:Nat)(w C:List QB)(s:zR C d)(e:Ex)(J:JSt):Prop:=e = .exit 0/\J=fdE (s.1.2++ZC x d w C s.1.1)
abbrev nxt(i:Nat):QB:=C.getD i ⟨0,0⟩
noncomputable def vI(P:Program)(x:QD)(d:Nat)(w C:List QB)(s:zR C d):Env:=mkS P (qR QV (fdU x (w++[nxt C s.1.1]) s.1.2 (s.1.2++Jk x d (w++[nxt C s.1.1]))))
noncomputable def QAd(P:Program)(x:QD)(d:Nat)(w C:List QB)(s:zR C d):Hnd:=fdR P QV x w s.1.2 (s.1.2++Jk x d (w++[nxt C s.1.1])) C s.1.1 (nxt C s.1.1) (fkB w (nxt C s.1.1) w.length) (fkA w w.length)
theorem QOH(c:QB):0+w.length+1=(w++[c]).length:=by simp
theorem Qdl(c:QB):QC 2 (w++[c]).length (Qa (0+w.length) (Qa 0 (λ_ _=>0) λi=>QA.enc (w.getD i ⟨0,0⟩)) (QU [[AV.int false i64 c.cell,AV.int false i64 c.turn]] 0)) (λi=>QA.enc ((w++[c]).getD i ⟨0,0⟩)):=by
 rw[Nat.zero_add];intro i hi;rw[List.length_append,List.length_singleton]at hi;show eqF 2 0 (Qa w.length (Qa 0 (λ_ _=>0) λi=>QA.enc (w.getD i ⟨0,0⟩)) (QU [[AV.int false i64 c.cell,AV.int false i64 c.turn]] 0) i) (QA.enc ((w++[c]).getD i ⟨0,0⟩))
 by_cases h:i<w.length
 .have e2:Qa w.length (Qa 0 (λ_ _=>0) λi=>QA.enc (w.getD i ⟨0,0⟩)) (QU [[AV.int false i64 c.cell,AV.int false i64 c.turn]] 0) i=QA.enc (w.getD i ⟨0,0⟩):=by
   funext j;rw[Vb,if_pos h,Vb,if_neg (Nat.not_lt_zero _),Nat.sub_zero]
  have e3:(w++[c]).getD i ⟨0,0⟩=w.getD i ⟨0,0⟩:=by
   rw[List.getD_eq_getElem?_getD,List.getD_eq_getElem?_getD,List.getElem?_append_left h]
  rw[e2,e3];exact XC _ _ _
 .have e:i=w.length:=by omega
  subst e
  have e2:Qa w.length (Qa 0 (λ_ _=>0) λi=>QA.enc (w.getD i ⟨0,0⟩)) (QU [[AV.int false i64 c.cell,AV.int false i64 c.turn]] 0) w.length=QU [[AV.int false i64 c.cell,AV.int false i64 c.turn]] 0 0:=by
   funext j;rw[Vb,if_neg h,Nat.sub_self]
  have e3:(w++[c]).getD w.length ⟨0,0⟩=c:=by simp
  rw[e2,e3];exact⟨rfl,rfl,trivial⟩
set_option maxHeartbeats 1600000 in
theorem QYM(d:Nat)(w C:List QB)(hw:w.length<=1000)(hC:C.length<=1000)(hx:Kx x):qg (λs:zR C d=>fdJ x w s.1.2 C s.1.1) (λ_=>True) (λs=>C.length-s.1.1) (QFo x d w C) 8 QRM [] (vI prog x d w C) (QAd prog x d w C) (QT f112 0):=by
 refine⟨λs g _=>?_⟩;obtain⟨⟨i,L⟩,hk,hL⟩:=s;simp only at hk hL;unfold vI QAd;simp only;refine Qp (QZG QV x w L (L++Jk x d (w++[nxt C i])) C i (nxt C i) (fkB w (nxt C i) w.length) (fkA w w.length) g) ?_;have hro:=QYE x w (nxt C i);have nb:∀ i n:Nat,i<n->(decide ((0:Int)<=(i:Int)/\(i:Int)<(n:Int))&&decide (n<=n))=true:=λi n h=>by simp;omega
 have le:L.length+(C.length+1-(i+1))*38^d<=100000000:=by have:=Nat.mul_le_mul_right (38^d) (show C.length+1-(i+1)<=C.length+1-i by omega);omega
 refine QH ?_ ?_<;>intro b0
 .have h:i<C.length:=by have:=qdt b0;omega
  have hat:=QZh (x:=x) (d:=d) (w:=w) h
  iterate 47 refine QX (by first|exact tv|exact h) ?_
  refine KB λa0=>?_;refine Q7 λg0=>?_;refine vA (λq=>by first|(simp;done)|(simp at q ⊢;omega)) ?_
  refine YR ?_;refine jZ (λq=>by first|(simp;done)|(simp at q ⊢;omega)) ?_
  iterate 3 refine YR ?_
  refine QIQ ?_;refine QF (by first|rfl|(generalize (b)=q;cases q<;>first|rfl|(simp;done)|(simp;omega))|first|rfl|(simp;done)|(simp;omega)|omega|grind) ?_
  refine K6 λz0 y0=>?_;refine YR ?_;refine K6 λz1 y1=>?_;refine QH ?_ ?_<;>intro b1
  .have hro:Zk x w (nxt C i)=true:=hro.trans ((by rw[y0]at y1;exact y1.symm:_=z1).trans b1)
   have hlen:(Jk x d (w++[nxt C i])).length<=38^d:=Nat.le_trans (QU4 x hx d _) (Nat.pow_le_pow_left (by omega) d)
   refine QF (by simp;omega) ?_
   refine QF (by exact nb _ _ h) ?_
   refine QF (by exact qde h) ?_
   refine QF (by simp;omega) ?_
   refine QF ?_ ?_
   .refine KP.2 ?_
    repeat' first|with_reducible refine QK ?_ ?_|exact tv|exact QOH _ _|exact Nat.le_of_eq (QOH w _).symm|exact Qdl _ _|refine aI ?_ ?_
   refine⟨⟨(i+1,L++Jk x d (w++[nxt C i])),h,by
    rw[show C.length+1-i=(C.length+1-(i+1))+1 by omega,Nat.succ_mul]at hL
    show(L++Jk x d (w++[nxt C i])).length+(C.length+1-(i+1))*38^d<=100000000;rw[List.length_append];omega⟩,trivial,by show C.length-(i+1)<C.length-i;omega,λe' J hr=>?_,rfl,rfl,_,QVt ..,?_⟩
   .unfold QFo at hr ⊢;simp only at hr ⊢;rw[hat,hro,cond_true,<-List.append_assoc];exact hr
   .repeat' first|with_reducible refine QK ?_ ?_|exact tv|exact KW h hC|refine aI ?_ ?_
  .have hro:Zk x w (nxt C i)=false:=hro.trans ((by rw[y0]at y1;exact y1.symm:_=z1).trans b1)
   refine⟨⟨(i+1,L),h,le⟩,trivial,by show C.length-(i+1)<C.length-i;omega,λe' J hr=>?_,rfl,rfl,_,QXi ..,?_⟩
   .unfold QFo at hr ⊢;simp only at hr ⊢;rw[hat,hro,cond_false,List.nil_append];exact hr
   .repeat' first|with_reducible refine QK ?_ ?_|exact tv|exact KW h hC|refine aI ?_ ?_
 .have h:C.length<=i:=by have:=qdf b0;omega
  refine⟨_,⟨rfl,rfl⟩,rfl,rfl,_,QfP L _,?_⟩;simp only[QTe h,List.append_nil]
  repeat' first|with_reducible refine QK ?_ ?_|exact tv|exact QS _ _ _ _|refine aI ?_ ?_
theorem QQi{x:QD}{w C:List QB}(IH:∀(c:QB) (L:List (List QB)),L.length+38^d<=100000000->QO prog 112 (uFC (fdU x (w++[c]) L (L++Jk x d (w++[c])))))(s:zR C d):(vI prog x d w C s).Sound:=
 Vq (VS.add (IH (nxt C s.1.1) s.1.2 (by
  obtain⟨⟨k,L⟩,h1,h2⟩:=s;simp only at h1 h2 ⊢;have:=Nat.mul_le_mul_right (38^d) (show 1<=C.length+1-k by omega)
  omega)))
theorem Qe0{x:QD}{w C:List QB}(hw:w.length<=1000)(hC:C.length<=1000)(IH:∀(c:QB) (L:List (List QB)),L.length+38^d<=100000000->QO prog 112 (uFC (fdU x (w++[c]) L (L++Jk x d (w++[c])))))(s:zR C d)(G:Ctx)(hrd:G.rd=none)(hG:G.n<=8):Q8 (vI prog x d w C s) G (QAd prog x d w C s) (QT f112 0):=by
 have hE:=QQi IH s;unfold vI at hE;unfold vI QAd;refine Kg (body:=Kl (QT f112 0)) hE hrd (by kernel_rfl) ?_
 refine Vv λhi=>?_;refine YG (E:=mkS prog Kp) rfl (Kr (I:=λk=>fkJ x w s.1.2 C s.1.1 (fkB w (C.getD s.1.1 ⟨0,0⟩) k) (fkA w k) k) (n0:=8) (Vq VS) hG (λ_ _=>Qw (Vq VS) 3 G _ hrd) (λ_ _=>(by decide:8<=48)) ?_ (Qd4 x w s.1.2 C s.1.1 hi hC hw) (s0:=0) (Nat.zero_le _) ?_)
 .rintro s e J ⟨_,rfl⟩;exact(by decide:8<=48)
 .rintro e J ⟨rfl,rfl⟩;exact⟨_,qmc,trivial,rfl,rfl⟩
theorem QXJ(G:Ctx)(hrd:G.rd=none):Q8 (mkE prog Kp) G (fdN prog) (Qi f112):=
 Kg (body:=QT f112 0) (QL VS) hrd (by kernel_rfl) (λ_ _ _ _ _ _ _ h _ _=>h.elim)
theorem Qet{x:QD}(hx:x.ok=true)(w:List QB)(L:List (List QB))(hw:w.length=x.sK.n)(hL:L.length+1<=100000000):QO prog 112 (uFC (fdU x w L (L++Jk x 0 w))):=by
 have hs:=(Jo hx).s;refine JT (E:=mkE prog Kp) (QL VS) func112 (by kernel_rfl) (by kernel_rfl) (QJE ..) (λG h1 _=>QXJ G h1) ⟨?_⟩
 have ef:Jk x 0 w=cond (YI x (rwS w)) [w] []:=rfl;refine Qp (QUR x w L (L++Jk x 0 w)) ?_;refine QH (λ_=>QF (by rw[hx];simp) (QH (λht=>QF (by simp;omega) ?_) (λht=>?_))) (λh=>by rw[hw]at h;simp at h)
 .have e:L++Jk x 0 w=L++[w]:=by rw[ef,show YI x (rwS w)=true from ht];rfl
  rw[e];refine⟨rfl,rfl,_,Qdi x w L _,?_⟩
  repeat' first|with_reducible refine QK ?_ ?_|exact tv|exact(by simp:L.length+1=(L++[w]).length)|exact QcD L w|refine aI ?_ ?_
 .have e:L++Jk x 0 w=L:=by rw[ef,show YI x (rwS w)=false from ht];simp
  rw[e];refine⟨rfl,rfl,_,QbM x w L _,?_⟩
  repeat' first|with_reducible refine QK ?_ ?_|exact tv|exact QS _ _ _ _|refine aI ?_ ?_
theorem QTc{x:QD}(hx:Kx x)(k:Nat):(K3 x k).length<=37:=by
 have:=Z9 x.d (x.sK.get k) x.d.ps.n;have:=hx.d.n9;simp only[K3,List.length_cons];omega
theorem QWh(k:Nat):QC 2 (K3 x k).length (Qa 1 (QU [[AV.int true i64 (-2),AV.int true i64 0]] 0) λi=>QA.enc ((Qy x.d (x.sK.get k) x.d.ps.n).getD i ⟨0,0⟩)) (λi=>QA.enc ((K3 x k).getD i ⟨0,0⟩)):=by
 intro i hi;show eqF 2 0 (Qa 1 (QU [[AV.int true i64 (-2),AV.int true i64 0]] 0) (λi=>QA.enc ((Qy x.d (x.sK.get k) x.d.ps.n).getD i ⟨0,0⟩)) i) (QA.enc ((K3 x k).getD i ⟨0,0⟩));cases i with
 | zero=>
  have e2:Qa 1 (QU [[AV.int true i64 (-2),AV.int true i64 0]] 0) (λi=>QA.enc ((Qy x.d (x.sK.get k) x.d.ps.n).getD i ⟨0,0⟩)) 0=QU [[AV.int true i64 (-2),AV.int true i64 0]] 0 0:=by
   funext j;rw[Vb,if_pos (by decide)]
  rw[e2];exact⟨rfl,rfl,trivial⟩
 | succ i=>
  have e2:Qa 1 (QU [[AV.int true i64 (-2),AV.int true i64 0]] 0) (λi=>QA.enc ((Qy x.d (x.sK.get k) x.d.ps.n).getD i ⟨0,0⟩)) (i+1)=QA.enc ((Qy x.d (x.sK.get k) x.d.ps.n).getD i ⟨0,0⟩):=by
   funext j;rw[Vb,if_neg (by omega)];rfl
  rw[e2];exact XC _ _ _
theorem QXD{x:QD}(hx:x.ok=true){w:List QB}(hd:w.length<x.sK.n)(IH:∀(c:QB) (L:List (List QB)),L.length+38^d<=100000000->QO prog 112 (uFC (fdU x (w++[c]) L (L++Jk x d (w++[c])))))(L:List (List QB))(hL:L.length+38*38^d<=100000000):QO prog 112 (uFC (fdU x w L (L++ZC x d w (K3 x w.length) 0))):=by
 have hg:=Jo hx;have hs:=hg.s;have n9:=hg.d.n9;have hc:=QTc hg w.length
 have hL0:L.length+((K3 x w.length).length+1-0)*38^d<=100000000:=by
  have:=Nat.mul_le_mul_right (38^d) (show(K3 x w.length).length+1-0<=38 by omega)
  omega
 have hsl:=Z9 x.d (x.sK.get w.length) x.d.ps.n;refine JT (E:=mkE prog Kp) (H:=fdX prog x w L (L++ZC x d w (K3 x w.length) 0) (K3 x w.length)) (QL VS) func112 (c:=Qi f112) (by kernel_rfl) (by kernel_rfl) (QJE ..) (λG hrd hG=>?_) ⟨?_⟩
 .refine Kg (body:=QT f112 0) (QL VS) hrd (by kernel_rfl) ?_
  have hr:=QYM x d w (K3 x w.length) (by omega) (by omega) hg
  refine vo (E0:=mkE prog Kp) (E:=vI prog x d w (K3 x w.length)) (H:=QAd prog x d w (K3 x w.length)) (n0:=8) (s0:=⟨(0,L),Nat.zero_le _,hL0⟩) (λ_=>rfl) (QQi IH) (by rw[hG];exact qlr _) (λs _=>Qe0 (by omega) (by omega) IH s G hrd (by rw[hG];exact qlr _)) (λs _=>(by decide:8<=48)) ?_ hr trivial ?_
  .rintro s e J ⟨_,rfl⟩;exact(by decide:8<=48)
  .rintro e J ⟨rfl,rfl⟩;exact⟨_,qmc,trivial,rfl,rfl⟩
 .generalize L++ZC x d w (K3 x w.length) 0=L';have hcl:1+(Qy x.d (x.sK.get w.length) x.d.ps.n).length=(K3 x w.length).length:=by simp only[K3,List.length_cons];omega
  have hrows:=QWh x w.length;generalize K3 x w.length=C at hcl hrows hc ⊢;refine Qp (QVy x w L L' C) ?_;refine QH ?_ ?_<;>intro b0
  .simp at b0;omega
  .refine QF (by simp;omega) ?_
   refine QF (by exact qde hd) ?_
   iterate 2 refine QF (by simp;omega) ?_
   iterate 43 refine QX (by first|exact tv|exact hcl|exact congrArg _ hcl|exact Nat.le_of_eq hcl.symm|exact hrows) ?_
   refine KB λa0=>?_;refine Q7 λg0=>?_;refine⟨rfl,rfl,_,QX0 x w L L',?_⟩
   repeat' first|with_reducible refine QK ?_ ?_|exact tv|refine aI ?_ ?_
theorem QPS{x:QD}(hx:x.ok=true):∀(d:Nat) (w:List QB) (L:List (List QB)),w.length+d=x.sK.n->L.length+38^d<=100000000->QO prog 112 (uFC (fdU x w L (L++Jk x d w)))
 | 0,w,L,hw,hL=>Qet hx w L (by omega) (by simpa using hL)
 | d+1,w,L,hw,hL=>by
  have e:Jk x (d+1) w=ZC x d w (K3 x w.length) 0:=by rw[QUF,Y3 (by omega)]
  rw[e];refine QXD hx (by omega) (λc L' hL'=>QPS hx d (w++[c]) L' (by rw[List.length_append,List.length_singleton];omega) hL') L ?_
  rw[Nat.pow_succ,Nat.mul_comm]at hL;exact hL
def alU:UC:=⟨8,⟨1,[(0,.agg (K2 0 x))],JC 0 x,8⟩,λm=>.slz m 0 T.length (.of 0),λm=>[Jm true m T]⟩
def roU:UC:=⟨8,⟨1,[(0,.agg (K2 0 x))],JC 0 x,8⟩,λm=>.tup [.slz m 0 T.length (.of 0),.int false .i64 e],λm=>[Jm true m T]⟩
theorem QUO:(alU x T).Ok:=by
 have e0:∀ nid,JR 8 8 nid 8=nid:=λnid=>by have:=qo 0 nid;simpa using this
 refine⟨(by decide:8<=8),rfl,rfl,?_,rfl,λnid h=>?_,λnid h=>?_⟩
 .intro q hq;simp only[UC.po,alU,Jm,List.mem_singleton]at hq;subst hq;exact⟨rfl,rfl,rfl,λh=>absurd (show 8<8 from h) (by decide)⟩
 .simp only[UC.va,alU,AV.mapId,e0]
 .simp only[UC.po,alU,Jm,List.map_cons,List.map_nil,Blk.mapId,e0]
theorem QKp:(roU x T e).Ok:=by
 have e0:∀ nid,JR 8 8 nid 8=nid:=λnid=>by have:=qo 0 nid;simpa using this
 refine⟨(by decide:8<=8),rfl,rfl,?_,rfl,λnid h=>?_,λnid h=>?_⟩
 .intro q hq;simp only[UC.po,roU,Jm,List.mem_singleton]at hq;subst hq;exact⟨rfl,rfl,rfl,λh=>absurd (show 8<8 from h) (by decide)⟩
 .simp only[UC.va,roU,AV.mapId,AV.mapIdL,e0]
 .simp only[UC.po,roU,Jm,List.map_cons,List.map_nil,Blk.mapId,e0]
theorem QYh(pb:List Prop->Bool)(x:QD)(T:List (List QB)):Js (mkE prog (qR pb (fdU x [] [] T))) (hnd (mkE prog (qR pb (fdU x [] [] T))) 1) f76 (alU x T)=QE.need (pb (xq x++([0=0,0=0,0=0,0=0,x.d.ps.n<=x.d.ps.n,QC (28:Nat) x.d.ps.n (λi=>QA.enc (x.d.ps.get i)) λi=>QA.enc (x.d.ps.get i),x.sK.n<=x.sK.n,QC (28:Nat) x.sK.n (λi=>QA.enc (x.sK.get i)) λi=>QA.enc (x.sK.get i),x.hang.n<=x.hang.n, QC (4:Nat) x.hang.n (λi=>QA.enc (x.hang.get i)) λi=>QA.enc (x.hang.get i)]))) (QE.leaf (AV.slz (32:Nat) (0:Nat) T.length cO) ([((32:Nat), Blk.frz2 true (38:Nat) [CK.int i64,CK.int i64] T.length (λi=>(QG T i).length) λi j=>QA.enc ((QG T i).getD j (QB.mk (0:Int) (0:Int))))])):=by kernel_rfl
theorem Qe9:QI 8 [(AV.slz (32:Nat) (0:Nat) T.length cO)] ([((32:Nat),Blk.frz2 true (38:Nat) [CK.int i64,CK.int i64] T.length (λi=>(QG T i).length) λi j=>QA.enc ((QG T i).getD j (QB.mk (0:Int) (0:Int))))]) (Kb (alU x T))=( some [0=0,T.length=T.length,cO=cO,T.length=T.length,Q1 (2:Nat) T.length (λi=>(QG T i).length) (λi=>(QG T i).length) (λi j=>QA.enc ((QG T i).getD j (QB.mk (0:Int) (0:Int)))) λi j=>QA.enc ((QG T i).getD j (QB.mk (0:Int) (0:Int)))]):=by kernel_rfl
theorem Qgc{x:QD}(ho:x.ok=true)(h4:x.sK.n<=4):QO prog 76 (uFC (alU x (Qb x))):=by
 have hb:38^x.sK.n<=38^4:=Nat.pow_le_pow_right (by omega) h4
 have h38:38^4=2085136:=by decide
 have hF:QO prog 112 (uFC (fdU x [] [] (Qb x))):=by
  have:=QPS ho x.sK.n [] [] (by simp) (by simp only[List.length_nil];omega)
  rwa [List.nil_append,Qfn ho]at this
 have hT:QZ (qR QV (fdU x [] [] (Qb x))):=VS.add hF;refine JT (E:=mkE prog (qR QV (fdU x [] [] (Qb x)))) (H:=hnd (mkE prog (qR QV (fdU x [] [] (Qb x)))) 1) (QL hT) func76 (c:=Qi f76) (by kernel_rfl) (by kernel_rfl) (QUO ..) (λG h1 _=>Qw (QL hT) 1 G _ h1) ⟨?_⟩
 refine Qp (QYh QV x (Qb x)) ?_;refine QF (KP.2 ?_) ⟨rfl,rfl,_,Qe9 x (Qb x),?_⟩
 .repeat' first|with_reducible refine QK ?_ ?_|exact tv|exact(λi hi=>absurd hi (Nat.not_lt_zero i))|refine aI ?_ ?_
 .repeat' first|with_reducible refine QK ?_ ?_|exact tv|refine aI ?_ ?_
def zv(pb:List Prop->Bool)(x:QD)(T:List (List QB)):Tab:=Qh Kp 76 (Jj pb (alU x T))
def QDW(k:Nat):JSt:=⟨52,[(1,.ptr 8 0 0),(4,.int false .i64 k)],[(8,.cells 0 31 (K2 0 x))]++JC 0 x,40⟩
def QQy:Ex->List Nat
 | .normal=>[1,4]
 | .exit _=>[1]
 | .ret=>[2,3]
def QDI:JSt:=⟨52,[(2,.nils),(3,.int false .i64 11)],[],40⟩
def QGr:JSt:=⟨52,[(1,.ptr 8 0 0)],[(8,.cells 0 31 (K2 0 x))]++JC 0 x,40⟩
noncomputable abbrev V1:List AV:=
  [.nili,.ptr 52 0 0,.nils,vj 11]
noncomputable abbrev XJ(k:Nat):List AV:=
  [.nilp,.ptr 52 0 0,.ptr 8 0 0,vi (i64.wrap ((k:Int)+1))]
abbrev QLD:List CK:=
  [.int .i64,.int .i64,.int .i64,.int .i64,.int .i64,.int .i64,.int .i64,.int .i64,.int .i64,.int .i64,.int .i64,.int .i64,.int .i64,.int .i64,.int .i64,.int .i64,.int
  .i64,.int .i64,.int .i64,.int .i64,.int .i64,.int .i64,.int .i64,.int .i64,.int .i64,.int .i64,.int .i64,.int .i64]
noncomputable abbrev VO:List (Nat×Blk):=
  [(8,.cells 0 31 [vi x.d.pK.length,vi x.d.pK.aK,vi x.d.pK.oK,vi x.d.pK.dK.lo,.int false .i64
  x.d.pK.dK.hi,vi x.d.wide,vi x.d.high,.bool false x.d.turn,.slz 0 0 x.d.ps.n cO,.slz 1 0 x.sK.n cO,.slz 2 0 x.hang.n (Cap.of
  0),vi x.lost,vi x.fK]),(0,.frz QLD x.d.ps.n λi=>QA.enc (x.d.ps.get i)),(1,.frz QLD x.sK.n λi=>QA.enc (x.sK.get i)),(2,
  .frz [.int .i64,.int .i64,.int .i64,.int .i64] x.hang.n λi=>QA.enc (x.hang.get i))]
theorem Qft(k:Nat)(g:Nat->Value):exec (mkF prog Kp) (hnd (mkF prog Kp) 0) (QT f39 0) (JSt.inst (QDW x k) g) (KG [] QQy) = .br (decide ((k:Int)<(x.hang.n:Int))) (.need (decide ((0:Int)<=(k:Int)/\(k:Int)<(x.hang.n:Int))&&decide (x.hang.n<=x.hang.n)) (.need (decide (k<x.hang.n)) (.need (decide ((0:Int)<=(x.hang.get k).a/\(x.hang.get k).a<(x.sK.n:Int))&&decide (x.sK.n<=x.sK.n)) (.need (decide ((0:Int)<=(x.hang.get k).i/\(x.hang.get k).i<4)) (.br (decide ((x.hang.get k).i=0)) (.need (decide ((x.hang.get k).a.toNat<x.sK.n)) (.need (decide ((0:Int)<=(x.hang.get k).b/\(x.hang.get k).b<(x.sK.n:Int))&&decide (x.sK.n<=x.sK.n)) (.need (decide ((0:Int)<=(x.hang.get k).j/\(x.hang.get k).j<4)) (.br (decide ((x.hang.get k).j=0)) (.need (decide ((x.hang.get k).b.toNat<x.sK.n)) (.need (decide (x.d.ps.n<=x.d.ps.n)&&(true&&(true&&true))&&decide (x.d.ps.n<=1000)) (.br ((KE x.d.pK (x.sK.get (x.hang.get k).a.toNat).up (x.sK.get (x.hang.get k).b.toNat).up).1==0) (.leaf (.tup V1) ([])) (.leaf (.tup (XJ k)) ((VO x)))))) (.br (decide ((x.hang.get k).j=1)) (.need (decide ((x.hang.get k).b.toNat<x.sK.n)) (.need (decide (x.d.ps.n<=x.d.ps.n)&&(true&&(true&&true))&&decide (x.d.ps.n<=1000)) (.br ((KE x.d.pK (x.sK.get (x.hang.get k).a.toNat).up (x.sK.get (x.hang.get k).b.toNat).right).1==0) (.leaf (.tup V1) ([])) (.leaf (.tup (XJ k)) ((VO x)))))) (.br (decide ((x.hang.get k).j=2)) (.need (decide ((x.hang.get k).b.toNat<x.sK.n)) (.need (decide (x.d.ps.n<=x.d.ps.n)&&(true&&(true&&true))&&decide (x.d.ps.n<=1000)) (.br ((KE x.d.pK (x.sK.get (x.hang.get k).a.toNat).up (x.sK.get (x.hang.get k).b.toNat).down).1==0) (.leaf (.tup V1) ([])) (.leaf (.tup (XJ k)) ((VO x)))))) (.need (decide ((x.hang.get k).b.toNat<x.sK.n)) (.need (decide (x.d.ps.n<=x.d.ps.n)&&(true&&(true&&true))&&decide (x.d.ps.n<=1000)) (.br ((KE x.d.pK (x.sK.get (x.hang.get k).a.toNat).up (x.sK.get (x.hang.get k).b.toNat).left).1==0) (.leaf (.tup V1) ([])) (.leaf (.tup (XJ k)) ((VO x)))))))))))) (.br (decide ((x.hang.get k).i=1)) (.need (decide ((x.hang.get k).a.toNat<x.sK.n)) (.need (decide ((0:Int)<=(x.hang.get k).b/\(x.hang.get k).b<(x.sK.n:Int))&&decide (x.sK.n<=x.sK.n)) (.need (decide ((0:Int)<=(x.hang.get k).j/\(x.hang.get k).j<4)) (.br (decide ((x.hang.get k).j=0)) (.need (decide ((x.hang.get k).b.toNat<x.sK.n)) (.need (decide (x.d.ps.n<=x.d.ps.n)&&(true&&(true&&true))&&decide (x.d.ps.n<=1000)) (.br ((KE x.d.pK (x.sK.get (x.hang.get k).a.toNat).right (x.sK.get (x.hang.get k).b.toNat).up).1==0) (.leaf (.tup V1) ([])) (.leaf (.tup (XJ k)) ((VO x)))))) (.br (decide ((x.hang.get k).j=1)) (.need (decide ((x.hang.get k).b.toNat<x.sK.n)) (.need (decide (x.d.ps.n<=x.d.ps.n)&&(true&&(true&&true))&&decide (x.d.ps.n<=1000)) (.br ((KE x.d.pK (x.sK.get (x.hang.get k).a.toNat).right (x.sK.get (x.hang.get k).b.toNat).right).1==0) (.leaf (.tup V1) ([])) (.leaf (.tup (XJ k)) ((VO x)))))) (.br (decide ((x.hang.get k).j=2)) (.need (decide ((x.hang.get k).b.toNat<x.sK.n)) (.need (decide (x.d.ps.n<=x.d.ps.n)&&(true&&(true&&true))&&decide (x.d.ps.n<=1000)) (.br ((KE x.d.pK (x.sK.get (x.hang.get k).a.toNat).right (x.sK.get (x.hang.get k).b.toNat).down).1==0) (.leaf (.tup V1) ([])) (.leaf (.tup (XJ k)) ((VO x)))))) (.need (decide ((x.hang.get k).b.toNat<x.sK.n)) (.need (decide (x.d.ps.n<=x.d.ps.n)&&(true&&(true&&true))&&decide (x.d.ps.n<=1000)) (.br ((KE x.d.pK (x.sK.get (x.hang.get k).a.toNat).right (x.sK.get (x.hang.get k).b.toNat).left).1==0) (.leaf (.tup V1) ([])) (.leaf (.tup (XJ k)) ((VO x)))))))))))) (.br (decide ((x.hang.get k).i=2)) (.need (decide ((x.hang.get k).a.toNat<x.sK.n)) (.need (decide ((0:Int)<=(x.hang.get k).b/\(x.hang.get k).b<(x.sK.n:Int))&&decide (x.sK.n<=x.sK.n)) (.need (decide ((0:Int)<=(x.hang.get k).j/\(x.hang.get k).j<4)) (.br (decide ((x.hang.get k).j=0)) (.need (decide ((x.hang.get k).b.toNat<x.sK.n)) (.need (decide (x.d.ps.n<=x.d.ps.n)&&(true&&(true&&true))&&decide (x.d.ps.n<=1000)) (.br ((KE x.d.pK (x.sK.get (x.hang.get k).a.toNat).down (x.sK.get (x.hang.get k).b.toNat).up).1==0) (.leaf (.tup V1) ([])) (.leaf (.tup (XJ k)) ((VO x)))))) (.br (decide ((x.hang.get k).j=1)) (.need (decide ((x.hang.get k).b.toNat<x.sK.n)) (.need (decide (x.d.ps.n<=x.d.ps.n)&&(true&&(true&&true))&&decide (x.d.ps.n<=1000)) (.br ((KE x.d.pK (x.sK.get (x.hang.get k).a.toNat).down (x.sK.get (x.hang.get k).b.toNat).right).1==0) (.leaf (.tup V1) ([])) (.leaf (.tup (XJ k)) ((VO x)))))) (.br (decide ((x.hang.get k).j=2)) (.need (decide ((x.hang.get k).b.toNat<x.sK.n)) (.need (decide (x.d.ps.n<=x.d.ps.n)&&(true&&(true&&true))&&decide (x.d.ps.n<=1000)) (.br ((KE x.d.pK (x.sK.get (x.hang.get k).a.toNat).down (x.sK.get (x.hang.get k).b.toNat).down).1==0) (.leaf (.tup V1) ([])) (.leaf (.tup (XJ k)) ((VO x)))))) (.need (decide ((x.hang.get k).b.toNat<x.sK.n)) (.need (decide (x.d.ps.n<=x.d.ps.n)&&(true&&(true&&true))&&decide (x.d.ps.n<=1000)) (.br ((KE x.d.pK (x.sK.get (x.hang.get k).a.toNat).down (x.sK.get (x.hang.get k).b.toNat).left).1==0) (.leaf (.tup V1) ([])) (.leaf (.tup (XJ k)) ((VO x)))))))))))) (.need (decide ((x.hang.get k).a.toNat<x.sK.n)) (.need (decide ((0:Int)<=(x.hang.get k).b/\(x.hang.get k).b<(x.sK.n:Int))&&decide (x.sK.n<=x.sK.n)) (.need (decide ((0:Int)<=(x.hang.get k).j/\(x.hang.get k).j<4)) (.br (decide ((x.hang.get k).j=0)) (.need (decide ((x.hang.get k).b.toNat<x.sK.n)) (.need (decide (x.d.ps.n<=x.d.ps.n)&&(true&&(true&&true))&&decide (x.d.ps.n<=1000)) (.br ((KE x.d.pK (x.sK.get (x.hang.get k).a.toNat).left (x.sK.get (x.hang.get k).b.toNat).up).1==0) (.leaf (.tup V1) ([])) (.leaf (.tup (XJ k)) ((VO x)))))) (.br (decide ((x.hang.get k).j=1)) (.need (decide ((x.hang.get k).b.toNat<x.sK.n)) (.need (decide (x.d.ps.n<=x.d.ps.n)&&(true&&(true&&true))&&decide (x.d.ps.n<=1000)) (.br ((KE x.d.pK (x.sK.get (x.hang.get k).a.toNat).left (x.sK.get (x.hang.get k).b.toNat).right).1==0) (.leaf (.tup V1) ([])) (.leaf (.tup (XJ k)) ((VO x)))))) (.br (decide ((x.hang.get k).j=2)) (.need (decide ((x.hang.get k).b.toNat<x.sK.n)) (.need (decide (x.d.ps.n<=x.d.ps.n)&&(true&&(true&&true))&&decide (x.d.ps.n<=1000)) (.br ((KE x.d.pK (x.sK.get (x.hang.get k).a.toNat).left (x.sK.get (x.hang.get k).b.toNat).down).1==0) (.leaf (.tup V1) ([])) (.leaf (.tup (XJ k)) ((VO x)))))) (.need (decide ((x.hang.get k).b.toNat<x.sK.n)) (.need (decide (x.d.ps.n<=x.d.ps.n)&&(true&&(true&&true))&&decide (x.d.ps.n<=1000)) (.br ((KE x.d.pK (x.sK.get (x.hang.get k).a.toNat).left (x.sK.get (x.hang.get k).b.toNat).left).1==0) (.leaf (.tup V1) ([])) (.leaf (.tup (XJ k)) ((VO x))))))))))))))))))) (.leaf (.tup [.ptr 0 0 0,.ptr 52 0 0,.ptr 8 0 0]) ((VO x))):=by kernel_rfl
theorem Qcu :QI 8 [AV.nils,vj (11:Int)] ([]) QDI=( some [(11:Int)=(11:Int)]):=by kernel_rfl
abbrev QQo:List Prop:=
  [x.d.pK.aK=x.d.pK.aK,x.d.pK.oK=x.d.pK.oK,x.d.pK.dK.lo=x.d.pK.dK.lo,x.d.pK.dK.hi=x.d.pK.dK.hi,x.d.wide=x.d.wide,x.d.high =
  x.d.high,x.d.turn=x.d.turn,0=0,x.d.ps.n=x.d.ps.n,cO=cO,0=0,x.sK.n=x.sK.n,cO=cO,0=0,x.hang.n=x.hang.n,cO=cO,
  x.lost=x.lost,x.fK=x.fK,x.d.ps.n<=x.d.ps.n,QC 28 x.d.ps.n (λi=>QA.enc (x.d.ps.get i)) λi=>QA.enc (x.d.ps.get i),x.sK.n<=x.sK.n,QC 28
  x.sK.n (λi=>QA.enc (x.sK.get i)) λi=>QA.enc (x.sK.get i),x.hang.n<=x.hang.n,QC 4 x.hang.n (λi=>QA.enc (x.hang.get i)) λi=>QA.enc
  (x.hang.get i)]
theorem QaS(k k':Nat):QI 8 [.ptr 8 0 0,vi (i64.wrap ((k:Int)+1))] ((VO x)) (QDW x k')=(some ([0=0,0=0,i64.wrap ((k:Int)+1)=(k':Int), x.d.pK.length=x.d.pK.length]++(QQo x))):=by kernel_rfl
theorem Qcz :QI 8 [.ptr 8 0 0] ((VO x)) (QGr x)=(some ([0=0,0=0,x.d.pK.length=x.d.pK.length]++(QQo x))):=by kernel_rfl
def QAt(k:Nat)(e:Ex)(J:JSt):Prop:=(e = .ret/\(QN (VK x) (x.hang.n-k) k).isSome=true/\J=QDI)∨(e = .exit 0/\(QN (VK x) (x.hang.n-k) k).isSome=false/\J=QGr x)
theorem QYb(hx:Kx x):Kk (QDW x) (λk=>k<=x.hang.n) (λk=>x.hang.n-k) (QAt x) 8 QQy [] (mkF prog Kp) (λ_=>hnd (mkF prog Kp) 0) (QT f39 0):=by
 refine⟨λk g hk=>Qp (Qft x k g) ?_⟩;have h12:=hx.n;have n9:=hx.d.n9;have nd:(decide (x.d.ps.n<=x.d.ps.n)&&(true&&(true&&true))&&decide (x.d.ps.n<=1000))=true:=by simp;omega
 refine QH ?_ ?_<;>intro h
 .have h:k<x.hang.n:=by have:=qdt h;omega
  obtain⟨m,hm⟩:∃ m,x.hang.n-k=m+1:=⟨x.hang.n-k-1,by omega⟩
  have hm':x.hang.n-(k+1)=m:=by omega
  have hw:i64.wrap ((k:Int)+1)=((k+1:Nat):Int):=(w64 (by omega) (by omega)).trans (by omega)
  obtain⟨⟨b1,b2⟩,b3,b4⟩:=hx.j k h
  have go:VK x k=false->∀ e J,QAt x (k+1) e J->QAt x k e J:=λq e J h=>by
   have hf:QN (VK x) (x.hang.n-k) k=QN (VK x) (x.hang.n-(k+1)) (k+1):=by rw[hm,hm',QN,q]
   unfold QAt at h ⊢;rw[hf];exact h
  have stop:VK x k=true->QAt x k .ret QDI:=λq=>.inl ⟨rfl,by rw[hm,QN,q];rfl,rfl⟩
  generalize hj:x.hang.get k=j at *;have na:decide (j.a.toNat<x.sK.n)=true:=by simp;omega
  have nb:decide (j.b.toNat<x.sK.n)=true:=by simp;omega
  refine QF (by simp;omega) (QF (by simp;omega) (QF (by simp;omega) (QF (by simp;omega) ?_)))
  refine QH (λi0=>?_) (λi0=>QH (λi1=>?_) (λi1=>QH (λi2=>?_) (λi2=>?_)))
  all_goals
   refine QF na (QF (by simp;omega) (QF (by simp;omega) ?_))
   refine QH (λj0=>?_) (λj0=>QH (λj1=>?_) (λj1=>QH (λj2=>?_) (λj2=>?_)))
   all_goals
    refine QF nb (QF nd (QH (λq=>?_) (λq=>?_)))
    .refine⟨_,stop ?_,rfl,rfl,_,Qcu,⟨rfl,trivial⟩⟩;simp only[VK,hj,ze, *]
    .refine⟨k+1,by show k+1<=x.hang.n;omega,by show x.hang.n-(k+1)<x.hang.n-k;omega,go ?_,rfl,rfl,_,QaS x k (k+1),?_⟩
     .simp only[VK,hj,ze, *]
     .repeat' first|with_reducible refine QK ?_ ?_|exact tv|exact hw|refine aI ?_ ?_
 .have h:x.hang.n<=k:=by have:=qdf h;omega
  have hf:QN (VK x) (x.hang.n-k) k=none:=by rw[show x.hang.n-k=0 by omega];rfl
  refine⟨_,.inr ⟨rfl,by rw[hf];rfl,rfl⟩,rfl,rfl,_,Qcz x,?_⟩
  repeat' first|with_reducible refine QK ?_ ?_|exact tv|refine aI ?_ ?_
def Qa0:List (Prop×Ex×JSt):=[(Ky x=true,.ret,QDI),(Ky x=false,.exit 0,QGr x)]
abbrev QE6(P:Program)(pb:List Prop->Bool)(x:QD)(T:List (List QB)):Hnd:={ hnd (mkE P (zv pb x T)) 1 with loop:=λ_=>Jp (x.ok=true) (Q4 8 [] (QDW x (0:Nat)) (Qa0 x)) }
abbrev QE3(P : Program): Hnd := { hnd (mkE P Kp) 1 with loop := λ_ _ _=>.fail "a loop" }
theorem QgA(G:Ctx)(hrd:G.rd=none):Q8 (mkE prog Kp) G (QE3 prog) (Qi f39):=
 Kg (body:=QT f39 0) (QL VS) hrd (by kernel_rfl) (λ_ _ _ _ _ _ _ h _ _=>h.elim)
theorem QcH(hT:QZ (zv QV x T))(G:Ctx)(hrd:G.rd=none)(hG:G.n=8):Q8 (mkE prog (zv QV x T)) G (QE6 prog QV x T) (Qi f39):=by
 refine Kg (body:=QT f39 0) (QL hT) hrd (by kernel_rfl) ?_
 refine Vv λhx=>?_;refine YG (E:=mkF prog Kp) rfl (Kr (n0:=8) (Wk VS) (by omega) (λs hs=>Qw (Wk VS) 0 G _ hrd) (λs hs=>(by decide:8<=40)) ?_ (QYb x (Jo hx)) (s0:=0) (Nat.zero_le _) ?_)
 .rintro s e J (⟨_,_,rfl⟩|⟨_,_,rfl⟩)<;>exact(by decide:8<=40)
 .rintro e J (⟨rfl,h,rfl⟩|⟨rfl,h,rfl⟩)
  .exact⟨_,qmc,h,rfl,rfl⟩
  .exact⟨_,List.mem_cons_of_mem _ qmc,h,rfl,rfl⟩
theorem QeX(pb:List Prop->Bool)(x:QD)(T T':List (List QB))(e:Int):Js (mkE prog (zv pb x T)) (QE6 prog pb x T) f39 (roU x T' e) = .need (decide (x.d.ps.n<=x.d.ps.n)&&(decide (x.sK.n<=x.sK.n)&&(decide (x.hang.n<=x.hang.n)&&true))&&decide (x.d.ps.n<=1000/\x.sK.n<=1000/\x.hang.n<=1000)) (.br (!x.ok) (.leaf (.tup [.nils,vj 1]) ([])) (.ak [x.ok=true,0=0,0=0,(0:Int)=0] (.ak (xq x) (.ak (xp x) (.both (.asm (Ky x=true) (.all (λ(g0:Nat->Value)=>.leaf (.tup [.nils,vi 11]) ([])))) (.asm (Ky x=false) (.all (λ(g1:Nat->Value)=>.need (pb (xq x++(xp x))) (.br ((T.length:Int)==0) (.leaf (.tup [.nils,vj 6]) ([])) (.leaf (.tup [.slz 48 0 T.length cO,vj 0]) ([(48,.frz2 true 38 kB T.length (λi=>(QG T i).length) λi j=>QA.enc ((QG T i).getD j ⟨0,0⟩))]))))))))))):=by kernel_rfl
theorem Qf9:Js (mkE prog Kp) (QE3 prog) f39 (roU x T e) =
  QE.need (decide (x.d.ps.n <= x.d.ps.n) && (decide (x.sK.n <= x.sK.n) && (decide (x.hang.n <= x.hang.n) && true)) && decide (x.d.ps.n <= (1000 : Nat) /\ x.sK.n <= (1000 : Nat) /\ x.hang.n <= (1000 : Nat))) (QE.br (!x.ok) (QE.leaf (AV.tup [AV.nils, AV.int true i64 (1 : Int)]) ([])) (QE.fail ("a loop"))) := by kernel_rfl
theorem QWk:QI 8 [(AV.tup [AV.nils,vj (1:Int)])] ([]) (Kb (roU x T e))=( some [T.length=(0:Nat),(1:Int)=e,T.length=(0:Nat)]):=by kernel_rfl
theorem QUV:QI 8 [(AV.tup [AV.nils,vi (11:Int)])] ([]) (Kb (roU x T e))=( some [T.length=(0:Nat),(11:Int)=e,T.length=(0:Nat)]):=by kernel_rfl
theorem Qc6:QI 8 [(AV.tup [AV.nils,vj (6:Int)])] ([]) (Kb (roU x T e))=( some [T.length=(0:Nat),(6:Int)=e,T.length=(0:Nat)]):=by kernel_rfl
theorem QYm(T T':List (List QB))(e:Int):QI 8 [(AV.tup [AV.slz (48:Nat) (0:Nat) T.length cO,vj (0:Int)])] ([((48:Nat),Blk.frz2 true (38:Nat) [CK.int i64,CK.int i64] T.length (λi=>(QG T i).length) λi j=>QA.enc ((QG T i).getD j (QB.mk (0:Int) (0:Int))))]) (Kb (roU x T' e))=( some [0=0,T.length=T'.length,cO=cO,(0:Int)=e,T.length=T'.length,Q1 (2:Nat) T'.length (λi=>(QG T i).length) (λi=>(QG T' i).length) (λi j=>QA.enc ((QG T i).getD j (QB.mk (0:Int) (0:Int)))) λi j=>QA.enc ((QG T' i).getD j (QB.mk (0:Int) (0:Int)))]):=by kernel_rfl
def QY:List (List QB):=cond (Qo x==0) (Qb x) []
theorem QDT(hs:XZ x)(h4:x.ok=true->x.sK.n<=4):QO prog 39 (uFC (roU x (QY x) (Qo x))):=by
 have s1:=hs.d;have s2:=hs.s;have s3:=hs.h;have nd:(decide (x.d.ps.n<=x.d.ps.n)&&(decide (x.sK.n<=x.sK.n)&&(decide (x.hang.n<=x.hang.n)&&true))&&decide (x.d.ps.n<=1000/\x.sK.n<=1000/\x.hang.n<=1000))=true:=by simp;omega
 cases ho:x.ok with
 | false=>
  have he:Qo x=1:=by unfold Qo;rw[ho];rfl
  have hT:QY x=[]:=by unfold QY;rw[he];rfl
  rw[hT,he];refine JT (E:=mkE prog Kp) (H:=QE3 prog) (QL VS) func39 (c:=Qi f39) (by kernel_rfl) (by kernel_rfl) (QKp ..) (λG h1 _=>QgA G h1) ⟨?_⟩
  refine Qp (Qf9 x [] 1) ?_;refine QF nd (QH (λ_=>?_) (λh=>by rw[ho]at h;simp at h))
  refine⟨rfl,rfl,_,QWk x [] 1,?_⟩
  repeat' first|with_reducible refine QK ?_ ?_|exact tv|exact List.length_nil|exact(λi hi=>absurd hi (Nat.not_lt_zero i))|refine aI ?_ ?_
 | true=>
  have hA:=Qgc ho (h4 ho);have hT:QZ (zv QV x (Qb x)):=VS.add hA;refine JT (E:=mkE prog (zv QV x (Qb x))) (H:=QE6 prog QV x (Qb x)) (QL hT) func39 (c:=Qi f39) (by kernel_rfl) (by kernel_rfl) (QKp ..) (λG h1 h2=>QcH x (Qb x) hT G h1 h2) ⟨?_⟩
  refine Qp (QeX QV x (Qb x) (QY x) (Qo x)) ?_;have hE:Qo x=cond (Ky x) 11 (cond (Qb x).isEmpty 6 0):=by unfold Qo;rw[ho];rfl
  refine QF (by exact nd) ?_
  refine QH ?_ ?_<;>intro b0
  .rw[ho]at b0;simp at b0
  .iterate 29 refine QX (by first|exact tv|exact ho) ?_
   refine Vx ?_ ?_
   .refine KB λa0=>?_;refine Q7 λg0=>?_;have he:Qo x=11:=by rw[hE,a0];rfl
    have hT:QY x=[]:=by unfold QY;rw[he];rfl
    rw[hT,he];refine⟨rfl,rfl,_,QUV x [] 11,?_⟩
    repeat' first|with_reducible refine QK ?_ ?_|exact tv|exact List.length_nil|exact(λi hi=>absurd hi (Nat.not_lt_zero i))|refine aI ?_ ?_
   .refine KB λa1=>?_;refine Q7 λg1=>?_;refine QF ?_ ?_
    .refine KP.2 ?_
     repeat' first|with_reducible refine QK ?_ ?_|exact tv|refine aI ?_ ?_
    refine QH ?_ ?_<;>intro b1
    .have hl:Qb x=[]:=by
      have:(Qb x).length=0:=by simpa using b1
      exact List.eq_nil_of_length_eq_zero this
     have he:Qo x=6:=by rw[hE,a1,hl];rfl
     have hT:QY x=[]:=by unfold QY;rw[he];rfl
     rw[hT,he];refine⟨rfl,rfl,_,Qc6 x [] 6,?_⟩
     repeat' first|with_reducible refine QK ?_ ?_|exact tv|exact List.length_nil|exact(λi hi=>absurd hi (Nat.not_lt_zero i))|refine aI ?_ ?_
    .have hl:(Qb x).isEmpty=false:=by
      cases h:Qb x with
      | nil=>rw[h]at b1;simp at b1
      | cons a l=>rfl
     have he:Qo x=0:=by rw[hE,a1,hl];rfl
     have hT:QY x=Qb x:=by unfold QY;rw[he];rfl
     rw[hT,he];refine⟨rfl,rfl,_,QYm x (Qb x) (Qb x) 0,?_⟩
     repeat' first|with_reducible refine QK ?_ ?_|exact tv|exact QS _ _ _ _|refine aI ?_ ?_
