/- - -/
import Derived.Test.YtekbmehgcofnkaaGreatMzn
open Go.Proofs.Tryz
open Go.IntKind (i64)
set_option maxRecDepth 100000
namespace Go.Proofs.YtekbmehgcofnkaaGreat
open Go.SX Go.SX.Told
variable {w0:List Jn}(pb:List Prop->Bool)(d:Puz)(o:List Lay)(E:ECt)(p q:Int)(L:List Lay)(x:Lay)(s':Nat)
theorem QLj{d:Puz}{E:ECt}{ac body:Code}{rec:List Lay->LJ->QZ LJ}{l:List Lay}(hd:KI d)(hE:WfE E)(hl:l.length<=1000)(hL:∀ y∈l,KC d y)(s:LJ)(IH:∀ p,p<d.ps.n->QEB d E w0 ac body rec l p){X:List (Prop×Ex×JSt)}(hX:∀ e J,Xk d E w0 ac body rec l (0,s) e J->∃ y∈X,y.1/\y.2.1=e/\y.2.2=J)(G:Ctx)(hrd:G.rd=none)(hG:G.n=520):
  Qu (mkE prog QT) G (faX prog (Gh d E w0 ac body (QD l) l s.1 0) X) (Qp f103):=by
 refine KM (body:=QJ f103 0) (QQ Qd) hrd (by kernel_rfl) ?_
 have hEnv:∀ k:Nat×LJ,(mkE prog (WT QO d l.length k.1)).Sound:=λk=>QQ (Qd.add (YL d l.length k.1));refine Jt (E0:=mkE prog QT) (E:=λk:Nat×LJ=>mkE prog (WT QO d l.length k.1)) (H:=λk=>QCR prog QO d E w0 ac body (QD l) l k.2.1 k.1 (HM d E w0 ac body rec l k.1 k.2)) (n0:=520) (s0:=(0,s)) (λ_=>rfl) hEnv (by omega) (λk _=>QUr hd hE hl hL k.1 k.2 (IH k.1) G hrd (by omega)) (λk _=>(by decide:520<=552)) ?_ (QaU d E w0 ac body rec l hd.n) (Nat.zero_le _) hX
 intro k e J hr;unfold Xk at hr;split at hr<;>(rw[hr.2];exact(by decide:520<=552))
set_option maxHeartbeats 1000000 in
theorem Qbg{d:Puz}{E:ECt}(hd:KI d)(hE:WfE E){k:Nat}{l:List Lay}(hk:l.length+(k+1)=d.ps.n)(hL:∀ y∈l,KC d y)(IH:∀ p,p<d.ps.n->QEB d E w0 VG VN (onY d E (faY d) k) l p)(s:LJ):QR prog 103 (uFC (YU d E w0 VG VN l s (onY d E (faY d) (k+1) l s))):=by
 have hdn:=hd.n;have hr0:onY d E (faY d) (k+1) l s=Qz (Km d E (onY d E (faY d) k) l) (List.range d.ps.n) s:=rfl;rw[hr0];have hne:((l.length:Int)==(d.ps.n:Int))=false:=by rw[beq_eq_false_iff_ne];omega
 obtain⟨f,hq0⟩:=s;cases hc:Qz (Km d E (onY d E (faY d) k) l) (List.range d.ps.n) ⟨f,hq0⟩with
 | go s'=>
  obtain⟨f',hq1⟩:=s';simp only[YU];have et:=QKk d E w0 (QD l) (QD l) l f True False f';refine Ks (E:=mkE prog QT) (QQ Qd) func103 (by kernel_rfl) (by kernel_rfl) (QKa ..) (QLj hd hE (by omega) hL ⟨f,hq0⟩ IH (X:=[(True,.exit 0,zB d E w0 VG VN (QD l) l f'),(False,.ret,faF d E w0 VG VN (QD l) l f')]) ?_) ⟨?_⟩
  .intro e J hr;unfold Xk at hr;simp only[List.drop_zero,hc]at hr;exact⟨_,qmc,trivial,hr.1.symm,hr.2.symm⟩
  refine Qf et ?_;clear et;refine QF ?_ ?_<;>intro b0
  .exact Bool.noConfusion (hne.symm.trans b0)
  iterate 123 refine Qt (by first|exact tv|with_reducible exact qRr|exact rfl) ?_
  refine Kl ?_ ?_;refine Qj λa0=>?_;refine Qk λg0=>?_;refine⟨rfl,rfl,_,Qb4 d E w0 (QD l) (QD l) l f f',?_⟩
  rotate_left
  refine Qj λa1=>?_;refine Qk λg1=>?_
  .exact a1.elim
  all_goals (repeat' first|with_reducible refine QP ?_ ?_|exact tv|with_reducible exact qRr|exact rfl|refine aI ?_ ?_)
 | stop s'=>
  obtain⟨f',hq1⟩:=s';simp only[YU];have et:=QKk d E w0 (QD l) (QD l) l f False True f';refine Ks (E:=mkE prog QT) (QQ Qd) func103 (by kernel_rfl) (by kernel_rfl) (QQ6 ..) (QLj hd hE (by omega) hL ⟨f,hq0⟩ IH (X:=[(False,.exit 0,zB d E w0 VG VN (QD l) l f'),(True,.ret,faF d E w0 VG VN (QD l) l f')]) ?_) ⟨?_⟩
  .intro e J hr;unfold Xk at hr;simp only[List.drop_zero,hc]at hr;exact⟨_,List.mem_cons_of_mem _ qmc,trivial,hr.1.symm,hr.2.symm⟩
  refine Qf et ?_;clear et;refine QF ?_ ?_<;>intro b0
  .exact Bool.noConfusion (hne.symm.trans b0)
  iterate 123 refine Qt (by first|exact tv|with_reducible exact qRr|exact rfl) ?_
  refine Kl ?_ ?_;refine Qj λa0=>?_;refine Qk λg0=>?_
  .exact a0.elim
  refine Qj λa1=>?_;refine Qk λg1=>?_;refine⟨rfl,rfl,_,QWd d E w0 (QD l) (QD l) l f f',?_⟩
  rotate_left
  all_goals (repeat' first|with_reducible refine QP ?_ ?_|exact tv|with_reducible exact qRr|exact rfl|refine aI ?_ ?_)
theorem QVr{d:Puz}{E:ECt}(hd:KI d)(hE:WfE E)(k:Nat):∀(l:List Lay) (s:LJ),l.length+k=d.ps.n->(∀ y∈l,KC d y)->QR prog 103 (uFC (YU d E w0 VG VN l s (onY d E (faY d) k l s))):=by
 induction k with
 | zero=>exact λl s hk hL=>QZD hd l s hk hL
 | succ k ih=>
  intro l s hk hL;refine Qbg hd hE hk hL ?_ s;intro p hp t ht s;exact ih _ s (QBX l _ hk) (QDE hp ht hL)
def XN(w0:List Jn)(U:UC):Tab:=Qc (Qc (Qc QT 60 (KB pb (nbU d E))) 89 (KB pb (joU d 0 E 1 w0))) 103 (KB pb U)
def QAV(f:List Jn)(e:Int):AV := .tup [.slz 0 0 f.length (.of 0),.int false .i64 e]
def GU(f:List Jn):List (Nat×Blk):=[rwJ true 0 f]
abbrev QRU:List Prop:=
  (wab d++([cO=cO]++wae d))
abbrev QNc(d:Puz):List Prop:=
  ([0=0,0=0,(1:Int)=1]++wab d++([cO=cO,0=0]++wae d++[E.1=E.1,E.2=E.2]))
abbrev QNo(d:Puz)(u:Nat->Nat->Int)(w0:List Jn):List Prop:=
  ((wb2++[0=0])++wab d++(([cO=cO,0=0,E.1=E.1,E.2=E.2,0=0]++wcN d++[QB 1 d.ps.n (λx x_1=>(0:Int)) u])++waj++[Array.mk
  [24]=Array.mk [24],(QN f43 0).1=(QN f43 0).1,(QN f43 0).2=(QN f43 0).2])++wab d++(wcU++[0=0,(0:Int)=0])++wab d++((([cO=cO]++wcG++([0=0,w0.length=w0.length,cO=cO,0=0,0=0,Fn.func 91=Fn.func 91,0=0,0=0,0=0,0=0]++wcY++[0=0,w0.length=w0.length,cO=cO,w0.length<=w0.length,QB 4 w0.length (λi=>QA.enc (w0.getD i (Jn.mk (0:Int) (0:Int) (0:Int) (0:Int)))) λi=>QA.enc (w0.getD i (Jn.mk (0:Int) (0:Int) (0
  : Int) (0:Int))),Fn.func 103=Fn.func 103]))++wb2++[0=0,0=0,0=0,Fn.func 91=Fn.func 91,0=0,0=0])++wae d))
noncomputable abbrev QKF(f':List Jn):List (Nat×Blk):=
  [(514,.rowz true 67 (wbk) f'.length λi=>QA.enc (f'.getD i (Jn.mk (0:Int) (0:Int) (0:Int) (0:Int))))]
theorem QRr(w0:List Jn)(u:Nat->Nat->Int)(f':List Jn):Ku (mkE prog (XN pb d E w0 (faU d E w0 (QN f43 0).1 (QN f43 0).2 u [] w0 f'))) (hnd (mkE prog (XN pb d E w0 (faU d E w0 (QN f43 0).1 (QN f43 0).2 u [] w0 f'))) 8) f43 (Qi.vals 0 ((d,()):Puz×Unit)) (Qi.blks 0 ((d,()):Puz×Unit)) 112 = .need (decide (d.ps.n<=d.ps.n)&&true&&decide (d.ps.n<=1000)) (.br (!d.ok) (.leaf (.tup [.nils,vj 1]) ([])) (.need (pb ((QRU d))) (.need (pb ((QNc E d))) (.need (decide ((d.ps.n:Int)=(d.ps.n:Int))&&decide ((0:Int)<=(d.ps.n:Int)/\(d.ps.n:Int)<=17179869184)) (.need (pb ((QNo E d u w0))) (.leaf (.tup [.slz 514 0 f'.length cO,vj 0]) ((QKF f')))))))):=by kernel_rfl
theorem QW0(w0:List Jn)(u:Nat->Nat->Int)(f':List Jn):Ku (mkE prog (XN pb d E w0 (faV d E w0 (QN f43 0).1 (QN f43 0).2 u [] w0 f'))) (hnd (mkE prog (XN pb d E w0 (faV d E w0 (QN f43 0).1 (QN f43 0).2 u [] w0 f'))) 8) f43 (Qi.vals 0 ((d,()):Puz×Unit)) (Qi.blks 0 ((d,()):Puz×Unit)) 112 = .need (decide (d.ps.n<=d.ps.n)&&true&&decide (d.ps.n<=1000)) (.br (!d.ok) (.leaf (.tup [.nils,vj 1]) ([])) (.need (pb ((QRU d))) (.need (pb ((QNc E d))) (.need (decide ((d.ps.n:Int)=(d.ps.n:Int))&&decide ((0:Int)<=(d.ps.n:Int)/\(d.ps.n:Int)<=17179869184)) (.need (pb ((QNo E d u w0))) (.leaf (.tup [.slz 514 0 f'.length cO,vj 0]) ((QKF f')))))))):=by kernel_rfl
theorem Qa3(f:List Jn)(e:Int):QG 112 [(AV.tup [AV.nils,vj (1:Int)])] ([]) (KT 112 (QAV f e) (GU f))=( some [f.length=(0:Nat),(1:Int)=e,f.length=(0:Nat)]):=by kernel_rfl
noncomputable abbrev wcx(f:List Jn)(f':List Jn):List Prop:=[f.length<=f'.length,QB (4:Nat) f.length (λi=>QA.enc (f'.getD i (Jn.mk (0:Int) (0:Int) (0:Int) (0:Int)))) λi=>QA.enc (f.getD i (Jn.mk (0:Int) (0:Int) (0:Int) (0:Int)))]
theorem QYs(f' f:List Jn)(e:Int):QG 112 [(AV.tup [AV.slz (514:Nat) (0:Nat) f'.length cO,vj (0:Int)])] ([((514:Nat),Blk.rowz true (67:Nat) [CK.int i64,CK.int i64,CK.int i64,CK.int i64] f'.length λi=>QA.enc (f'.getD i (Jn.mk (0:Int) (0:Int) (0:Int) (0:Int))))]) (KT 112 (QAV f e) (GU f))=( some ([0=0,f'.length=f.length,cO=cO,(0:Int)=e]++wcx f f')):=by kernel_rfl
theorem QUf(f' f:List Jn)(e:Int):QG 112 [(AV.tup [AV.slz (514:Nat) (0:Nat) f'.length cO,vj (0:Int)])] ([((514:Nat),Blk.rowz true (67:Nat) [CK.int i64,CK.int i64,CK.int i64,CK.int i64] f'.length λi=>QA.enc (f'.getD i (Jn.mk (0:Int) (0:Int) (0:Int) (0:Int))))]) (KT 112 (QAV f e) (GU f))=( some ([0=0,f'.length=f.length,cO=cO,(0:Int)=e]++wcx f f')):=by kernel_rfl
theorem QFm{α β:Type}(g:α->List β)(h:∀ x,(g x).length<=1):∀ l:List α,(l.flatMap g).length<=l.length
 | []=>qlr _
 | x::l=>by
  have h1:=h x;have h2:=QFm g h l;rw[List.flatMap_cons,List.length_append,List.length_cons];omega
def w0Z:LJ:=if h:(KO (Kc (QM d) 1)).length<=1000000000 then ⟨_,h⟩else ⟨[],by decide⟩
theorem Qbb{d:Puz}(hn:d.ps.n<=1000):(w0Z d).1=KO (Kc (QM d) 1):=by
 have h1:(KO (Kc (QM d) 1)).length<=1000000000:=by
  rw[G1];have:=QFm (VC 1) (QHI 1) (QM d).1;have h2:=(Y5 d hn).l;unfold Kc;omega
 unfold w0Z;rw[dif_pos h1]
def Yb:List Jn×Int:=cond d.ok ((match onY d (QM d) (faY d) d.ps.n [] (w0Z d)with | .go s | .stop s=>s.1),0) ([],1)
def Xx:WF (Puz×Unit):=λ|(d,_)=>(decide (d.ps.n<=1000),QAV (Yb d).1 (Yb d).2,GU (Yb d).1)
def QaT:FC:=wFC Xx
theorem QH8:WOk (Xx (d,())).2.1 (Xx (d,())).2.2:=⟨rfl,by simp[Xx,GU,rwJ,Blk.own,Blk.all],rfl⟩
theorem QZX(hn:d.ps.n<=1000)(hx:d.ok=false):QR prog 43 (wFC (VJ Xx (d,()))):=by
 have hT:Qe (XN (λ_=>false) d (QM d) [] (faU d (QM d) [] VG VN (QD []) [] [] [])):=((Qd.add (JY (by kernel_rfl) _)).add (JY (by kernel_rfl) _)).add (JY (by kernel_rfl) _)
 have hv:Yb d=([],1):=by simp only[Yb,hx,cond_false]
 refine Yk (c:=Qp f43) (E:=mkE prog (XN (λ_=>false) d (QM d) [] (faU d (QM d) [] VG VN (QD []) [] [] []))) (H:=hnd (mkE prog (XN (λ_=>false) d (QM d) [] (faU d (QM d) [] VG VN (QD []) [] [] []))) 8) (QQ hT) func43 (by kernel_rfl) (by kernel_rfl) (N:=112) (by decide) (d,()) (λG h1 _=>Q1 (QQ hT) 8 G _ h1) (QH8 d) ?_
 refine Qf (QRr (λ_=>false) d (QM d) [] (QD []) []) ?_;refine QH (by simp;omega) (QF (λ_=>?_) (λh=>by rw[hx]at h;cases h))
 simp only[Xx,hv];refine⟨rfl,rfl,_,Qa3 [] 1,?_⟩
 repeat' first|with_reducible refine QP ?_ ?_|exact tv|with_reducible exact qRr|exact rfl|refine aI ?_ ?_
theorem Qbx(hx:d.ok=true):QR prog 43 (wFC (VJ Xx (d,()))):=by
 have hd:=(jx (jy hx)).1;have hdn:=hd.n;have hO:=Y5 d hdn;have hon:=QVr (w0:=(w0Z d).1) hd hO.w d.ps.n [] (w0Z d) (by simp) (λc hc=>by cases hc)
 have hjo:QR prog 89 (uFC (joU d 0 (QM d) 1 (w0Z d).1)):=by
  rw[Qbb hdn];exact QHE d 0 (QM d) 1 hO.w hO.m (Nat.le_trans hO.l (by decide))
 have hz:∀ k,QB 1 k (λ_ _=>0) (QD []):=λk i _=>⟨rfl,trivial⟩;cases he:onY d (QM d) (faY d) d.ps.n [] (w0Z d)with
 | go s=>
  rw[he]at hon;have hT:Qe (XN QO d (QM d) (w0Z d).1 (faU d (QM d) (w0Z d).1 VG VN (QD []) [] (w0Z d).1 s.1)):=((Qd.add (Zz d (by omega))).add hjo).add hon
  have hv:Yb d=(s.1,0):=by
   simp only[Yb,hx,he,cond_true]
  refine Yk (c:=Qp f43) (E:=mkE prog (XN QO d (QM d) (w0Z d).1 (faU d (QM d) (w0Z d).1 VG VN (QD []) [] (w0Z d).1 s.1))) (H:=hnd (mkE prog (XN QO d (QM d) (w0Z d).1 (faU d (QM d) (w0Z d).1 VG VN (QD []) [] (w0Z d).1 s.1))) 8) (QQ hT) func43 (by kernel_rfl) (by kernel_rfl) (N:=112) (by decide) (d,()) (λG h1 _=>Q1 (QQ hT) 8 G _ h1) (QH8 d) ?_
  have et:=QRr QO d (QM d) (w0Z d).1 (QD []) s.1;refine Qf et ?_;clear et;refine QH ?_ ?_;rotate_left;refine QF ?_ ?_<;>intro b0
  .rw[hx]at b0;cases b0
  iterate 4 (refine QH ?_ ?_;rotate_left)
  simp only[Xx,hv];refine⟨rfl,rfl,_,QYs s.1 s.1 0,?_⟩
  rotate_left
  all_goals first|((with_reducible show _=true);(first|(refine Q6.2 ?_;repeat' first|with_reducible refine QP ?_ ?_|exact tv|with_reducible exact qRr|with_reducible exact hz _|exact rfl|refine aI ?_ ?_)|(simp;omega)))|(repeat' first|with_reducible refine QP ?_ ?_|exact tv|with_reducible exact qRr|exact rfl|refine aI ?_ ?_)
 | stop s=>
  rw[he]at hon;have hT:Qe (XN QO d (QM d) (w0Z d).1 (faV d (QM d) (w0Z d).1 VG VN (QD []) [] (w0Z d).1 s.1)):=((Qd.add (Zz d (by omega))).add hjo).add hon
  have hv:Yb d=(s.1,0):=by
   simp only[Yb,hx,he,cond_true]
  refine Yk (c:=Qp f43) (E:=mkE prog (XN QO d (QM d) (w0Z d).1 (faV d (QM d) (w0Z d).1 VG VN (QD []) [] (w0Z d).1 s.1))) (H:=hnd (mkE prog (XN QO d (QM d) (w0Z d).1 (faV d (QM d) (w0Z d).1 VG VN (QD []) [] (w0Z d).1 s.1))) 8) (QQ hT) func43 (by kernel_rfl) (by kernel_rfl) (N:=112) (by decide) (d,()) (λG h1 _=>Q1 (QQ hT) 8 G _ h1) (QH8 d) ?_
  have et:=QW0 QO d (QM d) (w0Z d).1 (QD []) s.1;refine Qf et ?_;clear et;refine QH ?_ ?_;rotate_left;refine QF ?_ ?_<;>intro b0
  .rw[hx]at b0;cases b0
  iterate 4 (refine QH ?_ ?_;rotate_left)
  simp only[Xx,hv];refine⟨rfl,rfl,_,QUf s.1 s.1 0,?_⟩
  rotate_left
  all_goals first|((with_reducible show _=true);(first|(refine Q6.2 ?_;repeat' first|with_reducible refine QP ?_ ?_|exact tv|with_reducible exact qRr|with_reducible exact hz _|exact rfl|refine aI ?_ ?_)|(simp;omega)))|(repeat' first|with_reducible refine QP ?_ ?_|exact tv|with_reducible exact qRr|exact rfl|refine aI ?_ ?_)
theorem QXs(hx:(Xx (d,())).1=true):QR prog 43 (wFC (VJ Xx (d,()))):=by
 have hn:d.ps.n<=1000:=qdt hx;cases ho:d.ok with
 | false=>exact QZX d hn ho
 | true=>exact Qbx d ho
theorem QWq:QR prog 43 QaT:=vh (by kernel_rfl) λ|(d,()),hx=>QXs d hx
def brZ(n:Nat):List AV:=KR d++[.map 289,.slz 298 0 n (.of 0)]
def QGr:List (Nat×Blk):=(288,.cellsR 0 152 (brZ d L.length))::QBA 298 L::(289,.mp E.1 E.2)::Ql.blk 0 d.ps
def mzJ(s:Nat):JSt:=⟨113,[(0,.ptr 288 0 0),(3,.ptr 304 0 0),(5,.int false .i64 L.length),(6,.int false .i64 (Qo d L.length)),(7,.int false .i64 (Q2 d L.length)),(49,.agg [.bool false (QU d L.length 0),.bool false (QU d L.length 1),.bool false (QU d L.length 2),.bool false (QU d L.length 3)]),(50,.int false .i64 s)],(304,.cells 0 49 (Enc.enc x).cells)::QGr d E L,312⟩
def Gr:JSt:=⟨113,[(4,.bool false false)],[(289,.mp E.1 E.2)],312⟩
def QGL:JSt:=⟨113,[(0,.ptr 288 0 0),(3,.ptr 304 0 0),(5,.int false .i64 L.length),(6,.int false .i64 (Qo d L.length)),(7,.int false .i64 (Q2 d L.length))],(304,.cells 0 49 (Enc.enc x).cells)::QGr d E L,312⟩
def QLi:Ex->List Nat
 | .normal=>[0,3,5,6,7,49,50]
 | .exit _=>[0,3,5,6,7]
 | .ret=>[4]
abbrev QEX(d:Puz)(s:Nat)(x:Lay):List Prop:=
  ([0=0,0=0,x.piece=x.piece,onS x (s:Int)=onS x (s:Int)]++wab d++([cO=cO,0=0,L.length=L.length,cO
  = cO]++wae d))
noncomputable abbrev WZ(d:Puz):List AV:=
  [.bool false (QU d L.length 0),.bool false (QU d L.length 1),.bool false (QU d L.length 2),.bool false (QU d L.length 3)]
noncomputable abbrev QP4(d:Puz):List AV:=
  (.nilp::.ptr 113 0 0::.ptr 288 0 0::.ptr 304 0 0::List.append (wat L d) ([.agg (WZ L d),.int true
  .i64 1]))
noncomputable abbrev wbZ(d:Puz):List AV:=[.bool false d.turn,.slz 0 0 d.ps.n cO,.map 289]
noncomputable abbrev VB(d:Puz)(x:Lay):List (Nat×Blk):=
  [(289,.mp E.1 E.2),(288,.cellsR 0 152 (vi d.pK.length::vi d.pK.aK::vi d.pK.oK::vi d.pK.dK.lo::.int false .i64
  d.pK.dK.hi::vi d.wide::vi d.high::List.append (wbZ d) ([.slz 298 0 L.length cO]))),(304,.cells 0 49 [.int
  false .i64 x.piece,vi x.turn]),(0,.frz (List.append (waa) ((List.append (waG) ((List.append (wbk) ([.int .i64]))))))
  d.ps.n λi=>QA.enc (d.ps.get i)),(298,.frz kB L.length λi=>QA.enc (L.getD i (Lay.mk (0:Int) (0:Int))))]
noncomputable abbrev QMB(d:Puz):List AV:=
  (.nilp::.ptr 113 0 0::.ptr 288 0 0::.ptr 304 0 0::List.append (wat L d) ([.agg (WZ L d),.int true
  .i64 2]))
noncomputable abbrev QRu(d:Puz):List AV:=
  (.nilp::.ptr 113 0 0::.ptr 288 0 0::.ptr 304 0 0::List.append (wat L d) ([.agg (WZ L d),.int true
  .i64 3]))
noncomputable abbrev QKq(d:Puz):List AV:=
  (.nilp::.ptr 113 0 0::.ptr 288 0 0::.ptr 304 0 0::List.append (wat L d) ([.agg (WZ L d),.int true
  .i64 4]))
theorem QZb(s:Nat)(g:Nat->Value):exec (mkF prog (Gj pb (flU d L.length x.piece (onS x s)))) (hnd (mkF prog (Gj pb (flU d L.length x.piece (onS x s)))) 1) (QJ f105 0) (JSt.inst (mzJ d E L x s) g) (Q9 [289] QLi) = .br (decide ((s:Int)<4)) (.need (decide ((0:Int)<=(s:Int)/\(s:Int)<4)) (.br (decide ((s:Int)=0)) (.br (QU d L.length 0) (.need (true&&(true&&true)&&decide (((0:Int)<=x.turn/\x.turn<=3)/\(0:Int)<=(s:Int)/\(s:Int)<=3)) (.need (pb ((QEX L d s x))) (.br (!KY d x.piece (onS x (s:Int))) (.leaf (.tup (wbY)) ([(289,.mp E.1 E.2)])) (.leaf (.tup (QP4 L d)) ((VB E L d x)))))) (.leaf (.tup (QP4 L d)) ((VB E L d x)))) (.br (decide ((s:Int)=1)) (.br (QU d L.length 1) (.need (true&&(true&&true)&&decide (((0:Int)<=x.turn/\x.turn<=3)/\(0:Int)<=(s:Int)/\(s:Int)<=3)) (.need (pb ((QEX L d s x))) (.br (!KY d x.piece (onS x (s:Int))) (.leaf (.tup (wbY)) ([(289,.mp E.1 E.2)])) (.leaf (.tup (QMB L d)) ((VB E L d x)))))) (.leaf (.tup (QMB L d)) ((VB E L d x)))) (.br (decide ((s:Int)=2)) (.br (QU d L.length 2) (.need (true&&(true&&true)&&decide (((0:Int)<=x.turn/\x.turn<=3)/\(0:Int)<=(s:Int)/\(s:Int)<=3)) (.need (pb ((QEX L d s x))) (.br (!KY d x.piece (onS x (s:Int))) (.leaf (.tup (wbY)) ([(289,.mp E.1 E.2)])) (.leaf (.tup (QRu L d)) ((VB E L d x)))))) (.leaf (.tup (QRu L d)) ((VB E L d x)))) (.br (QU d L.length 3) (.need (true&&(true&&true)&&decide (((0:Int)<=x.turn/\x.turn<=3)/\(0:Int)<=(s:Int)/\(s:Int)<=3)) (.need (pb ((QEX L d s x))) (.br (!KY d x.piece (onS x (s:Int))) (.leaf (.tup (wbY)) ([(289,.mp E.1 E.2)])) (.leaf (.tup (QKq L d)) ((VB E L d x)))))) (.leaf (.tup (QKq L d)) ((VB E L d x)))))))) (.leaf (.tup (.ptr 0 0 0::.ptr 113 0 0::.ptr 288 0 0::.ptr 304 0 0::wat L d)) ((VB E L d x))):=by kernel_rfl
theorem QfX:QG 304 [AV.bool true false] ([((289:Nat),Blk.mp E.1 E.2)]) (Gr E)=( some [false=false,E.1=E.1,E.2=E.2]):=by kernel_rfl
noncomputable abbrev QLz(d:Puz):List AV:=
  (.ptr 288 0 0::.ptr 304 0 0::List.append (wat L d) ([.agg (WZ L d),vj 1]))
abbrev QKg(d:Puz)(s':Nat)(x:Lay):List Prop:=
  (([0=0,0=0,0=0,0=0]++wam L d++[(1:Int)=(s':Int),x.piece=x.piece,x.turn=x.turn])++wab d++(([cO=cO,0=0,L.length=L.length,cO=cO]++wan L++[E.1=E.1,E.2=E.2])++wae d))
theorem QU4 :QG 304 (QLz L d) ((VB E L d x)) (mzJ d E L x s')=(some (QKg E L d s' x)):=by kernel_rfl
theorem QY1 :QG 304 (QLz L d) ((VB E L d x)) (mzJ d E L x s')=(some (QKg E L d s' x)):=by kernel_rfl
theorem Qdm:QG 304 [AV.bool true false] ([((289:Nat),Blk.mp E.1 E.2)]) (Gr E)=( some [false=false,E.1=E.1,E.2=E.2]):=by kernel_rfl
noncomputable abbrev QQv(d:Puz):List AV:=
  (.ptr 288 0 0::.ptr 304 0 0::List.append (wat L d) ([.agg (WZ L d),vj 2]))
abbrev QOo(d:Puz)(s':Nat)(x:Lay):List Prop:=
  (([0=0,0=0,0=0,0=0]++wam L d++[(2:Int)=(s':Int),x.piece=x.piece,x.turn=x.turn])++wab d++(([cO=cO,0=0,L.length=L.length,cO=cO]++wan L++[E.1=E.1,E.2=E.2])++wae d))
theorem QbX :QG 304 (QQv L d) ((VB E L d x)) (mzJ d E L x s')=(some (QOo E L d s' x)):=by kernel_rfl
theorem QeB :QG 304 (QQv L d) ((VB E L d x)) (mzJ d E L x s')=(some (QOo E L d s' x)):=by kernel_rfl
theorem Qch:QG 304 [AV.bool true false] ([((289:Nat),Blk.mp E.1 E.2)]) (Gr E)=( some [false=false,E.1=E.1,E.2=E.2]):=by kernel_rfl
noncomputable abbrev QSH(d:Puz):List AV:=
  (.ptr 288 0 0::.ptr 304 0 0::List.append (wat L d) ([.agg (WZ L d),vj 3]))
abbrev QR0(d:Puz)(s':Nat)(x:Lay):List Prop:=
  (([0=0,0=0,0=0,0=0]++wam L d++[(3:Int)=(s':Int),x.piece=x.piece,x.turn=x.turn])++wab d++(([cO=cO,0=0,L.length=L.length,cO=cO]++wan L++[E.1=E.1,E.2=E.2])++wae d))
theorem QW4 :QG 304 (QSH L d) ((VB E L d x)) (mzJ d E L x s')=(some (QR0 E L d s' x)):=by kernel_rfl
theorem Qck :QG 304 (QSH L d) ((VB E L d x)) (mzJ d E L x s')=(some (QR0 E L d s' x)):=by kernel_rfl
theorem QU0:QG 304 [AV.bool true false] ([((289:Nat),Blk.mp E.1 E.2)]) (Gr E)=( some [false=false,E.1=E.1,E.2=E.2]):=by kernel_rfl
noncomputable abbrev QKW(d:Puz):List AV:=
  (.ptr 288 0 0::.ptr 304 0 0::List.append (wat L d) ([.agg (WZ L d),vj 4]))
abbrev QRB(d:Puz)(s':Nat)(x:Lay):List Prop:=
  (([0=0,0=0,0=0,0=0]++wam L d++[(4:Int)=(s':Int),x.piece=x.piece,x.turn=x.turn])++wab d++(([cO=cO,0=0,L.length=L.length,cO=cO]++wan L++[E.1=E.1,E.2=E.2])++wae d))
theorem Qba :QG 304 (QKW L d) ((VB E L d x)) (mzJ d E L x s')=(some (QRB E L d s' x)):=by kernel_rfl
theorem QVi :QG 304 (QKW L d) ((VB E L d x)) (mzJ d E L x s')=(some (QRB E L d s' x)):=by kernel_rfl
theorem QUe :QG 304 (.ptr 288 0 0::.ptr 304 0 0::wat L d) ((VB E L d x)) (QGL d E L x)=( some (([0=0,0=0,0=0,0=0]++wcz L d++[x.piece=x.piece,x.turn=x.turn])++wab d++(([cO=cO,0=0,L.length=L.length,cO=cO]++wan L++[E.1=E.1,E.2=E.2])++wae d))):=by kernel_rfl
noncomputable def GD(P:Program)(d:Puz)(L:List Lay)(x:Lay)(s:Nat):Env:=mkF P (Gj QO (flU d L.length x.piece (onS x s)))
theorem QKT{d:Puz}{L:List Lay}{x:Lay}(hx:KC d x)(s:Nat):(GD prog d L x s).Sound:=
 Ke (Qd.add (QLE d L.length x.piece (onS x s) hx.p.1 hx.p.2 (QDS hx s).1 (QDS hx s).2))
def mzR(s:Nat)(e:Ex)(J:JSt):Prop:=(e = .ret/\(QX (Kp d L.length x) (4-s) s).isNone=false/\J=Gr E)∨(e = .exit 0/\(QX (Kp d L.length x) (4-s) s).isNone=true/\J=QGL d E L x)
set_option maxHeartbeats 4000000 in
theorem QbZ(hx:KC d x):Jd (mzJ d E L x) (λs=>s<=4) (λs=>4-s) (mzR d E L x) 304 QLi [289] (GD prog d L x) (λs=>hnd (GD prog d L x s) 1) (QJ f105 0):=by
 refine⟨λs g0 hk=>?_⟩;unfold GD;refine Qf (QZb QO d E L x s g0) ?_;have hk:s<=4:=hk;refine QF (λb0=>?_) (λb0=>?_);have h:s<4:=by have:=qdt b0;omega
 have hf:=VX (p:=Kp d L.length x) h;have ht:=hx.t;refine QH ?_ ?_;rotate_left;refine QF (λb1=>?_) (λb1=>?_);obtain rfl:s=0:=by have:=qdt b1;omega
 refine QF ?_ ?_<;>intro b2
 iterate 2 (refine QH ?_ ?_;rotate_left)
 refine QF ?_ ?_<;>intro b3
 .have hb:Kp d L.length x 0=true:=by show(QU d L.length 0 && !KY d x.piece (onS x _))=true;rw[b2];exact b3
  exact⟨_,.inl ⟨rfl,by rw[hf.1 hb];rfl,rfl⟩,rfl,rfl,_,QfX E,⟨rfl,rfl,rfl,trivial⟩⟩
 have hb:Kp d L.length x 0=false:=by show(QU d L.length 0 && !KY d x.piece (onS x _))=false;rw[b2];exact b3
 refine⟨1,by show 1<=4;omega,by show 4-1<4-0;omega,λe J h=>by unfold mzR at h ⊢;rw[hf.2 hb];exact h,rfl,rfl,_,QU4 d E L x 1,?_⟩
 rotate_left
 have hb:Kp d L.length x 0=false:=by show(QU d L.length 0 && !KY d x.piece (onS x _))=false;rw[b2];rfl
 refine⟨1,by show 1<=4;omega,by show 4-1<4-0;omega,λe J h=>by unfold mzR at h ⊢;rw[hf.2 hb];exact h,rfl,rfl,_,QY1 d E L x 1,?_⟩
 rotate_left
 refine QF (λb4=>?_) (λb4=>?_);obtain rfl:s=1:=by have:=qdt b4;omega
 refine QF ?_ ?_<;>intro b5
 iterate 2 (refine QH ?_ ?_;rotate_left)
 refine QF ?_ ?_<;>intro b6
 .have hb:Kp d L.length x 1=true:=by show(QU d L.length 1 && !KY d x.piece (onS x _))=true;rw[b5];exact b6
  exact⟨_,.inl ⟨rfl,by rw[hf.1 hb];rfl,rfl⟩,rfl,rfl,_,Qdm E,⟨rfl,rfl,rfl,trivial⟩⟩
 have hb:Kp d L.length x 1=false:=by show(QU d L.length 1 && !KY d x.piece (onS x _))=false;rw[b5];exact b6
 refine⟨2,by show 2<=4;omega,by show 4-2<4-1;omega,λe J h=>by unfold mzR at h ⊢;rw[hf.2 hb];exact h,rfl,rfl,_,QbX d E L x 2,?_⟩
 rotate_left
 have hb:Kp d L.length x 1=false:=by show(QU d L.length 1 && !KY d x.piece (onS x _))=false;rw[b5];rfl
 refine⟨2,by show 2<=4;omega,by show 4-2<4-1;omega,λe J h=>by unfold mzR at h ⊢;rw[hf.2 hb];exact h,rfl,rfl,_,QeB d E L x 2,?_⟩
 rotate_left
 refine QF (λb7=>?_) (λb7=>?_);obtain rfl:s=2:=by have:=qdt b7;omega
 refine QF ?_ ?_<;>intro b8
 iterate 2 (refine QH ?_ ?_;rotate_left)
 refine QF ?_ ?_<;>intro b9
 .have hb:Kp d L.length x 2=true:=by show(QU d L.length 2 && !KY d x.piece (onS x _))=true;rw[b8];exact b9
  exact⟨_,.inl ⟨rfl,by rw[hf.1 hb];rfl,rfl⟩,rfl,rfl,_,Qch E,⟨rfl,rfl,rfl,trivial⟩⟩
 have hb:Kp d L.length x 2=false:=by show(QU d L.length 2 && !KY d x.piece (onS x _))=false;rw[b8];exact b9
 refine⟨3,by show 3<=4;omega,by show 4-3<4-2;omega,λe J h=>by unfold mzR at h ⊢;rw[hf.2 hb];exact h,rfl,rfl,_,QW4 d E L x 3,?_⟩
 rotate_left
 have hb:Kp d L.length x 2=false:=by show(QU d L.length 2 && !KY d x.piece (onS x _))=false;rw[b8];rfl
 refine⟨3,by show 3<=4;omega,by show 4-3<4-2;omega,λe J h=>by unfold mzR at h ⊢;rw[hf.2 hb];exact h,rfl,rfl,_,Qck d E L x 3,?_⟩
 rotate_left
 obtain rfl:s=3:=by
  have h1:=qdf b1;have h2:=qdf b4;have h3:=qdf b7;omega
 refine QF ?_ ?_<;>intro b10
 iterate 2 (refine QH ?_ ?_;rotate_left)
 refine QF ?_ ?_<;>intro b11
 .have hb:Kp d L.length x 3=true:=by show(QU d L.length 3 && !KY d x.piece (onS x _))=true;rw[b10];exact b11
  exact⟨_,.inl ⟨rfl,by rw[hf.1 hb];rfl,rfl⟩,rfl,rfl,_,QU0 E,⟨rfl,rfl,rfl,trivial⟩⟩
 have hb:Kp d L.length x 3=false:=by show(QU d L.length 3 && !KY d x.piece (onS x _))=false;rw[b10];exact b11
 refine⟨4,by show 4<=4;omega,by show 4-4<4-3;omega,λe J h=>by unfold mzR at h ⊢;rw[hf.2 hb];exact h,rfl,rfl,_,Qba d E L x 4,?_⟩
 rotate_left
 have hb:Kp d L.length x 3=false:=by show(QU d L.length 3 && !KY d x.piece (onS x _))=false;rw[b10];rfl
 refine⟨4,by show 4<=4;omega,by show 4-4<4-3;omega,λe J h=>by unfold mzR at h ⊢;rw[hf.2 hb];exact h,rfl,rfl,_,QVi d E L x 4,?_⟩
 rotate_left
 obtain rfl:s=4:=by have:=qdf b0;omega
 refine⟨_,.inr ⟨rfl,rfl,rfl⟩,rfl,rfl,_,QUe d E L x,?_⟩
 rotate_left
 all_goals first|((with_reducible show _=true);(first|(refine Q6.2 ?_;repeat' first|exact tv|exact qRr|refine aI ?_ ?_)|(simp;omega)))|(repeat' first|with_reducible refine QP ?_ ?_|exact tv|exact qRr|exact rfl|refine aI ?_ ?_)
def mzX:List (Prop×Ex×JSt):=[(Zu d L.length x=false,.ret,Gr E),(Zu d L.length x=true,.exit 0,QGL d E L x)]
abbrev mzH(P:Program)(d:Puz)(E:ECt)(L:List Lay)(x:Lay):Hnd:={ hnd (mkF P QT) 1 with loop:=λ_=>KE 304 [289] (mzJ d E L x (0:Nat)) (mzX d E L x) }
theorem QVb(hx:KC d x)(G:Ctx)(hrd:G.rd=none)(hG:G.n<=304):Qu (mkF prog QT) G (mzH prog d E L x) (Qp f105):=by
 refine KM (body:=QJ f105 0) (Ke Qd) hrd (by kernel_rfl) ?_
 refine Jt (E0:=mkF prog QT) (E:=GD prog d L x) (H:=λs=>hnd (GD prog d L x s) 1) (n0:=304) (s0:=0) (λ_=>rfl) (QKT hx) hG (λs _=>Q1 (QKT hx s) 1 G _ hrd) (λs _=>(by decide:304<=312)) ?_ (QbZ d E L x hx) (Nat.zero_le _) ?_
 .rintro s e J (⟨_,_,rfl⟩|⟨_,_,rfl⟩)<;>exact(by decide:304<=312)
 .rintro e J (⟨rfl,h,rfl⟩|⟨rfl,h,rfl⟩)
  .exact⟨_,qmc,h,rfl,rfl⟩
  .exact⟨_,List.mem_cons_of_mem _ qmc,h,rfl,rfl⟩
def mzU(v:Bool):UC:=⟨296,⟨2,[(0,.ptr 288 0 0),(1,Enc.enc x)],QGr d E L,304⟩,λ_=>.bool false v,λ_=>[(289,.mp E.1 E.2)]⟩
theorem QWF(v:Bool):VF (mkF prog QT) (mzH prog d E L x) f105 (mzU d E L x v) = .need (!decide (d.wide=0)) (.need (!decide (d.wide=0)) (.ak ([0=0,0=0,0=0,0=0,(L.length:Int)=(L.length:Int),i64.wrap ((L.length:Int).tdiv d.wide)=Qo d L.length,(L.length:Int).tmod d.wide=Q2 d L.length,(i64.wrap ((L.length:Int).tdiv d.wide)==0)=QU d L.length 0,((L.length:Int).tmod d.wide==i64.wrap (d.wide-1))=QU d L.length 1,(i64.wrap ((L.length:Int).tdiv d.wide)==i64.wrap (d.high-1))=QU d L.length 2,((L.length:Int).tmod d.wide==0)=QU d L.length 3,(0:Int)=0,x.piece=x.piece,x.turn=x.turn]++wab d++(([cO=cO,0=0,L.length=L.length,cO=cO]++wan L++[E.1=E.1,E.2=E.2])++wae d)) (.both (.asm (Zu d L.length x=false) (.all (λ(g0:Nat->Value)=>.leaf (.bool false false) ([(289, .mp E.1 E.2)])))) (.asm (Zu d L.length x=true) (.all (λ(g1:Nat->Value)=>.br (decide (Qo d L.length>0)) (.need (decide ((0:Int)<=i64.wrap ((L.length:Int)-d.wide)/\i64.wrap ((L.length:Int)-d.wide)<(L.length:Int))&&decide (L.length<=L.length)) (.need (decide ((i64.wrap ((L.length:Int)-d.wide)).toNat<L.length)) (.need (true&&(true&&true)&&decide (((0:Int)<=(L.getD (i64.wrap ((L.length:Int)-d.wide)).toNat (Lay.mk (0:Int) (0:Int))).turn/\(L.getD (i64.wrap ((L.length:Int)-d.wide)).toNat (Lay.mk (0:Int) (0:Int))).turn<=3)/\(0:Int)<=2/\(2:Int)<=3)) (.need (true&&(true&&true)&&decide (((0:Int)<=x.turn/\x.turn<=3)/\(0:Int)<=0/\(0:Int)<=3)) (.need (wf4 i64 E.1) (.br (KL E.1 [(L.getD (i64.wrap ((L.length:Int)-d.wide)).toNat (Lay.mk (0:Int) (0:Int))).piece,onS (L.getD (i64.wrap ((L.length:Int)-d.wide)).toNat (Lay.mk (0:Int) (0:Int))) (2:Int),x.piece,onS x (0:Int)]==0) (.leaf (.bool true false) ([(289,.mp E.1 E.2)])) (.br (Q2 d L.length==0) (.leaf (.bool true true) ([(289,.mp E.1 E.2)])) (.need (decide ((0:Int)<=i64.wrap ((L.length:Int)-1)/\i64.wrap ((L.length:Int)-1)<(L.length:Int))&&decide (L.length<=L.length)) (.need (decide ((i64.wrap ((L.length:Int)-1)).toNat<L.length)) (.need (true&&(true&&true)&&decide (((0:Int)<=(L.getD (i64.wrap ((L.length:Int)-1)).toNat (Lay.mk (0:Int) (0:Int))).turn/\(L.getD (i64.wrap ((L.length:Int)-1)).toNat (Lay.mk (0:Int) (0:Int))).turn<=3)/\(0:Int)<=1/\(1:Int)<=3)) (.need (true&&(true&&true)&&decide (((0:Int)<=x.turn/\x.turn<=3)/\(0:Int)<=3/\(3:Int)<=3)) (.need (wf4 i64 E.1) (.leaf (.bool false (KL E.1 [(L.getD (i64.wrap ((L.length:Int)-1)).toNat (Lay.mk (0:Int) (0:Int))).piece,onS (L.getD (i64.wrap ((L.length:Int)-1)).toNat (Lay.mk (0:Int) (0:Int))) (1:Int),x.piece,onS x (3:Int)] != 0)) ([(289,.mp E.1 E.2)])))))))))))))) (.br (Q2 d L.length==0) (.leaf (.bool true true) ([(289,.mp E.1 E.2)])) (.need (decide ((0:Int)<=i64.wrap ((L.length:Int)-1)/\i64.wrap ((L.length:Int)-1)<(L.length:Int))&&decide (L.length<=L.length)) (.need (decide ((i64.wrap ((L.length:Int)-1)).toNat<L.length)) (.need (true&&(true&&true)&&decide (((0:Int)<=(L.getD (i64.wrap ((L.length:Int)-1)).toNat (Lay.mk (0:Int) (0:Int))).turn/\(L.getD (i64.wrap ((L.length:Int)-1)).toNat (Lay.mk (0:Int) (0:Int))).turn<=3)/\(0:Int)<=1/\(1:Int)<=3)) (.need (true&&(true&&true)&&decide (((0:Int)<=x.turn/\x.turn<=3)/\(0:Int)<=3/\(3:Int)<=3)) (.need (wf4 i64 E.1) (.leaf (.bool false (KL E.1 [(L.getD (i64.wrap ((L.length:Int)-1)).toNat (Lay.mk (0:Int) (0:Int))).piece,onS (L.getD (i64.wrap ((L.length:Int)-1)).toNat (Lay.mk (0:Int) (0:Int))) (1:Int),x.piece,onS x (3:Int)] != 0)) ([(289,.mp E.1 E.2)])))))))))))))):=by kernel_rfl
theorem Qbs(v b:Bool)(k:Bool)(h:v=b):(QC.leaf (.bool k v) [(289,.mp E.1 E.2)]).den (jH (mzU d E L x b)):=⟨rfl,rfl,_,by cases k<;>rfl,by subst h;exact⟨rfl,rfl,rfl,trivial⟩⟩
theorem QUS(v:Bool):(mzU d E L x v).Ok:=by
 refine⟨(by decide:296<=304),rfl,rfl,?_,rfl,λ_ _=>rfl,λnid h=>rfl⟩
 intro q hq;simp only[UC.po,mzU,List.mem_cons,List.not_mem_nil,or_false]at hq;subst hq;exact⟨rfl,rfl,rfl,λ_=>rfl⟩
theorem Qet(L:List Lay)(x:Lay)(hd:KI d)(hE:WfE E)(hl:L.length<=1000)(hL:∀ y∈L,KC d y)(hx:KC d x):QR prog 105 (uFC (mzU d E L x (Q0 d E L x))):=by
 refine Ks (E:=mkF prog QT) (Ke Qd) func105 (by kernel_rfl) (by kernel_rfl) (QUS ..) (λG h1 h2=>QVb d E L x hx G h1 (by rw[h2];exact qlr _)) ⟨?_⟩
 have fin:∀(v k:Bool),v=Q0 d E L x->(QC.leaf (.bool k v) [(289,.mp E.1 E.2)]).den (jH (mzU d E L x (Q0 d E L x))):=λv k h=>Qbs d E L x v _ k h;have hw1:=hd.w1;have hwn:=hd.wn;have hh1:=hd.h1;have hhn:=hd.hn;have hn:=hd.n;have hr:=QKV hd L.length;have ht:=hx.t;have hE:wf4 .i64 E.1=true:=hE;have wr:i64.wrap ((L.length:Int).tdiv d.wide)=Qo d L.length:=w64 (by have:=hr.1;unfold Qo at this;omega) (by have:=hr.2;unfold Qo at this;omega)
 have ww:i64.wrap (d.wide-1)=d.wide-1:=w64 (by omega) (by omega)
 have wh:i64.wrap (d.high-1)=d.high-1:=w64 (by omega) (by omega)
 have wu:i64.wrap ((L.length:Int)-d.wide)=(L.length:Int)-d.wide:=w64 (by omega) (by omega)
 have wl:i64.wrap ((L.length:Int)-1)=(L.length:Int)-1:=w64 (by omega) (by omega)
 generalize hv:Q0 d E L x=v at fin;refine Qf (QWF d E L x v) ?_;rw[wr,ww,wh,wu,wl]
 iterate 2 (refine QH ?_ ?_;rotate_left)
 iterate 34 refine Qt (by first|exact tv|exact qRr|exact rfl) ?_
 refine Kl ?_ ?_;refine Qj λa0=>?_;refine Qk λg0=>?_
 .refine fin _ _ ?_;rw[<-hv,Q0,a0];rfl
 refine Qj λa1=>?_;refine Qk λg1=>?_;refine QF (λb0=>?_) (λb0=>?_);have hcw:=QOA hd (qdt b0);have hU:=(Gy hL (i:=(L.length:Int)-d.wide) (by omega) (by omega)).t
 iterate 5 (refine QH ?_ ?_;rotate_left)
 refine QF ?_ ?_<;>intro b1
 .refine fin _ _ ?_;rw[<-hv,Q0,a1,show decide (0<Qo d L.length)=true from b0,show(WP E (atL L ((L.length:Int)-d.wide)) x 2 0==0)=true from b1];rfl
 refine QF ?_ ?_<;>intro b2
 .refine fin _ _ ?_;rw[<-hv,Q0,a1,show decide (0<Qo d L.length)=true from b0,show(WP E (atL L ((L.length:Int)-d.wide)) x 2 0==0)=false from b1,b2];rfl
 have hc1:=QCd b2;have hV:=(Gy hL (i:=(L.length:Int)-1) (by omega) (by omega)).t
 iterate 5 (refine QH ?_ ?_;rotate_left)
 .refine fin _ _ ?_;rw[<-hv,Q0,a1,show decide (0<Qo d L.length)=true from b0,show(WP E (atL L ((L.length:Int)-d.wide)) x 2 0==0)=false from b1,b2];rfl
 refine QF ?_ ?_<;>intro b3
 .refine fin _ _ ?_;rw[<-hv,Q0,a1,show decide (0<Qo d L.length)=false from b0,b3];rfl
 have hc1:=QCd b3;have hV:=(Gy hL (i:=(L.length:Int)-1) (by omega) (by omega)).t
 iterate 5 (refine QH ?_ ?_;rotate_left)
 .refine fin _ _ ?_;rw[<-hv,Q0,a1,show decide (0<Qo d L.length)=false from b0,b3];rfl
 all_goals first|exact hE|rfl|exact qde (show(0<=(atL L _).turn/\_)/\_ from⟨hU,by decide,by decide⟩)|exact qde (show(0<=(atL L _).turn/\_)/\_ from⟨hV,by decide,by decide⟩)|exact qde ⟨ht,by decide,by decide⟩|(simp;omega)
def swS:Lay:=cond (x.piece==p) ⟨q,x.turn⟩ (cond (x.piece==q) ⟨p,x.turn⟩ x)
def swJ(o:List Lay)(k:Nat):JSt:=⟨39,[(1,.int false .i64 p),(2,.int false .i64 q),(7,.slz 16 0 o.length (.of 0)),(12,.slz 16 0 o.length (.of 0)),(13,.int false .i64 o.length),(14,.int false .i64 k)],[rwY 16 o],24⟩
def swE:JSt:=⟨39,[(7,.slz 16 0 o.length (.of 0))],[rwY 16 o],24⟩
def QNJ:Ex->List Nat
 | .normal=>[1,2,7,12,13,14]
 | .exit _=>[7]
 | .ret=>[]
noncomputable abbrev QIA(k:Nat)(o:List Lay)(p:Int)(q:Int):List AV:=
  [.nilp,.ptr 39 0 0,vi p,vi q,.slz 16 0 o.length cO,.slz 16 0 o.length cO,vi (o.length:Int),.int false .i64
  (i64.wrap ((k:Int)+1))]
theorem QTw(o:List Lay)(k:Nat)(g:Nat->Value):exec (mkE prog QT) (hnd (mkE prog QT) 1) (QJ f63 0) (JSt.inst (swJ p q o k) g) (Q9 [] QNJ) = .br (decide ((k:Int)<(o.length:Int))) (.need (decide ((0:Int)<=(k:Int)/\(k:Int)<(o.length:Int))&&decide (o.length<=o.length)) (.need (decide (k<o.length)) (.br ((o.getD k (Lay.mk (0:Int) (0:Int))).piece==p) (.need (decide ((0:Int)<=(k:Int)/\(k:Int)<(o.length:Int))&&decide (o.length<=o.length)) (.need (decide (k<o.length)) (.leaf (.tup (QIA k o p q)) ([(16,.rowz true 49 kB o.length λi=>bif decide (i=k)then KZ [vi q] 0 (QA.enc (o.getD k (Lay.mk (0:Int) (0:Int))))else QA.enc (o.getD i (Lay.mk (0:Int) (0:Int))))])))) (.br ((o.getD k (Lay.mk (0:Int) (0:Int))).piece==q) (.need (decide ((0:Int)<=(k:Int)/\(k:Int)<(o.length:Int))&&decide (o.length<=o.length)) (.need (decide (k<o.length)) (.leaf (.tup (QIA k o p q)) ([(16,.rowz true 49 kB o.length λi=>bif decide (i=k)then KZ [vi p] 0 (QA.enc (o.getD k (Lay.mk (0:Int) (0:Int))))else QA.enc (o.getD i (Lay.mk (0:Int) (0:Int))))])))) (.leaf (.tup (QIA k o p q)) ([(16,.rowz true 49 kB o.length λi=>QA.enc (o.getD i (Lay.mk (0:Int) (0:Int))))])))))) (.leaf (.tup [.ptr 0 0 0,.ptr 39 0 0,.slz 16 0 o.length cO]) ([(16,.rowz true 49 kB o.length λi=>QA.enc (o.getD i (Lay.mk (0:Int) (0:Int))))])):=by kernel_rfl
theorem QSm(o o':List Lay)(k k':Nat):QG 8 [vi p,vi q,AV.slz (16:Nat) (0:Nat) o.length cO,AV.slz (16:Nat) (0:Nat) o.length cO,vi (↑o.length:Int),vi (i64.wrap ((↑k:Int)+(1:Int)))] ([((16:Nat),Blk.rowz true (49:Nat) [CK.int i64,CK.int i64] o.length λi=>bif decide (i=k)then KZ [vi q] (0:Nat) (QA.enc (o.getD k (Lay.mk (0:Int) (0:Int))))else QA.enc (o.getD i (Lay.mk (0:Int) (0:Int))))]) (swJ p q o' k')=( some [p=p,q=q,0=0,o.length=o'.length,cO=cO,0=0,o.length=o'.length,cO=cO,(↑o.length:Int)=(↑o'.length:Int),i64.wrap ((↑k:Int)+(1:Int))=(↑k':Int),o'.length<=o.length,QB (2:Nat) o'.length (λi=>bif decide (i=k) then KZ [vi q] (0:Nat) (QA.enc (o.getD k (Lay.mk (0:Int) (0:Int))))else QA.enc (o.getD i (Lay.mk (0:Int) (0:Int)))) λi=>QA.enc (o'.getD i (Lay.mk (0:Int) (0:Int)))]):=by kernel_rfl
theorem QZZ(o o':List Lay)(k k':Nat):QG 8 [vi p,vi q,AV.slz (16:Nat) (0:Nat) o.length cO,AV.slz (16:Nat) (0:Nat) o.length cO,vi (↑o.length:Int),vi (i64.wrap ((↑k:Int)+(1:Int)))] ([((16:Nat),Blk.rowz true (49:Nat) [CK.int i64,CK.int i64] o.length λi=>bif decide (i=k)then KZ [vi p] (0:Nat) (QA.enc (o.getD k (Lay.mk (0:Int) (0:Int))))else QA.enc (o.getD i (Lay.mk (0:Int) (0:Int))))]) (swJ p q o' k')=( some [p=p,q=q,0=0,o.length=o'.length,cO=cO,0=0,o.length=o'.length,cO=cO,(↑o.length:Int)=(↑o'.length:Int),i64.wrap ((↑k:Int)+(1:Int))=(↑k':Int),o'.length<=o.length,QB (2:Nat) o'.length (λi=>bif decide (i=k) then KZ [vi p] (0:Nat) (QA.enc (o.getD k (Lay.mk (0:Int) (0:Int))))else QA.enc (o.getD i (Lay.mk (0:Int) (0:Int)))) λi=>QA.enc (o'.getD i (Lay.mk (0:Int) (0:Int)))]):=by kernel_rfl
theorem Qc1(o:List Lay)(k k':Nat):QG 8 [vi p,vi q,AV.slz (16:Nat) (0:Nat) o.length cO,AV.slz (16:Nat) (0:Nat) o.length cO,vi (↑o.length:Int),vi (i64.wrap ((↑k:Int)+(1:Int)))] ([((16:Nat),Blk.rowz true (49:Nat) [CK.int i64,CK.int i64] o.length λi=>QA.enc (o.getD i (Lay.mk (0:Int) (0:Int))))]) (swJ p q o k')=( some [p=p,q=q,0=0,o.length=o.length,cO=cO,0=0,o.length=o.length,cO=cO, (↑o.length:Int)=(↑o.length:Int),i64.wrap ((↑k:Int)+(1:Int))=(↑k':Int),o.length<=o.length,QB (2:Nat) o.length (λi=>QA.enc (o.getD i (Lay.mk (0:Int) (0:Int)))) λi=>QA.enc (o.getD i (Lay.mk (0:Int) (0:Int)))]):=by kernel_rfl
theorem QUm:QG 8 [AV.slz (16:Nat) (0:Nat) o.length cO] ([((16:Nat),Blk.rowz true (49:Nat) [CK.int i64,CK.int i64] o.length λi=>QA.enc (o.getD i (Lay.mk (0:Int) (0:Int))))]) (swE o)=( some [0=0,o.length=o.length,cO=cO,o.length<=o.length,QB (2:Nat) o.length (λi=>QA.enc (o.getD i (Lay.mk (0:Int) (0:Int)))) λi=>QA.enc (o.getD i (Lay.mk (0:Int) (0:Int)))]):=by kernel_rfl
def swU(l:List Lay)(p q:Int)(v:List Lay):UC:=⟨0,⟨3,[(0,.slz 5 0 l.length (.of 0)),(1,.int false .i64 p),(2,.int false .i64 q)],[QBA 5 l],8⟩,λm=>.slz m 0 v.length (.of 0),λm=>[rwY m v]⟩
def qY(l:List Lay):Tab:=Qc QT 68 (KB pb (clU l))
abbrev swH(P:Program)(pb:List Prop->Bool)(l:List Lay)(p q:Int)(X:List (Prop×Ex×JSt)):Hnd:={ hnd (mkE P (qY pb l)) 2 with loop:=λ_=>KE 8 [] (swJ p q l (0:Nat)) X }
theorem Qew(l:List Lay)(p q:Int)(v:List Lay):VF (mkE prog (qY pb l)) (swH prog pb l p q [(True,.exit 0,swE v)]) f63 (swU l p q v)=QC.need (pb ([0=0,l.length=l.length,cO=cO,l.length<=l.length,QB (2:Nat) l.length (λi=>QA.enc (l.getD i (Lay.mk (0:Int) (0:Int)))) λi=>QA.enc (l.getD i (Lay.mk (0:Int) (0:Int)))])) (QC.ask (p=p) (QC.ask (q=q) (QC.ask (0=0) (QC.ask (l.length=l.length) (QC.ask (cO=cO) (QC.ask (0=0) (QC.ask (l.length=l.length) (QC.ask (cO=cO) (QC.ask ((↑l.length:Int)=(↑l.length:Int)) (QC.ask ((0:Int)=(0:Int)) (QC.ask (l.length<=l.length) (QC.ask (QB (2:Nat) l.length (λi=>QA.enc (l.getD i (Lay.mk (0:Int) (0:Int)))) λi=>QA.enc (l.getD i (Lay.mk (0:Int) (0:Int)))) (QC.asm (True) (QC.all (λ(g0:Nat->Value)=>QC.leaf (AV.slz (16:Nat) (0:Nat) v.length cO) ([((16:Nat),Blk.rowz true (49:Nat) [CK.int i64,CK.int i64] v.length λi=>QA.enc (v.getD i (Lay.mk (0:Int) (0:Int))))])))))))))))))))):=by kernel_rfl
theorem QWD(l:List Lay)(p q:Int)(v:List Lay):QG 8 [(AV.slz (16:Nat) (0:Nat) v.length cO)] ([((16:Nat),Blk.rowz true (49:Nat) [CK.int i64,CK.int i64] v.length λi=>QA.enc (v.getD i (Lay.mk (0:Int) (0:Int))))]) (KP (swU l p q v))=( some [0=0,v.length=v.length,cO=cO,v.length<=v.length,QB (2:Nat) v.length (λi=>QA.enc (v.getD i (Lay.mk (0:Int) (0:Int)))) λi=>QA.enc (v.getD i (Lay.mk (0:Int) (0:Int)))]):=by kernel_rfl
