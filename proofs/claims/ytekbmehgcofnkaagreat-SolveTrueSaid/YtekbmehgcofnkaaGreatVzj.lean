/- - -/
import Derived.Test.YtekbmehgcofnkaaGreatVzi
set_option linter.all false
noncomputable section
open Go.Proofs.Tryz
open Go.IntKind (i64)
set_option maxRecDepth 100000
namespace Go.Proofs.YtekbmehgcofnkaaGreat
open Go.SX Go.SX.Told
abbrev Jz:Code:=(Qu f43).1
abbrev Ju:Code:=(Qu f43).2
variable {e:MapEntry}(pb:List Prop->Bool)(d:Puz)(E:ECt)(l:List Lay)(w0:List Jn)(c:Nat)(f' f:List Jn)(M:ECt)(u:Nat->Nat->Int)
def Xs(s o:Int):Jn:=cond (decide ((l.getD o.toNat ⟨0,0⟩:Lay).piece<(l.getD c ⟨0,0⟩:Lay).piece))
 ⟨(l.getD o.toNat ⟨0,0⟩:Lay).piece,onS (l.getD o.toNat ⟨0,0⟩) ((i64.wrap (s+2)).tmod 4),(l.getD c ⟨0,0⟩:Lay).piece,onS (l.getD c ⟨0,0⟩) s⟩
 ⟨(l.getD c ⟨0,0⟩:Lay).piece,onS (l.getD c ⟨0,0⟩) s,(l.getD o.toNat ⟨0,0⟩:Lay).piece,onS (l.getD o.toNat ⟨0,0⟩) ((i64.wrap (s+2)).tmod 4)⟩
def Vj(e:MapEntry):Option Jn:=cond ((QT e 0==1&&((intV e.val).tmod d.wide==0))||decide (intV e.val≥(l.length:Int))) none (some (Xs l c (QT e 0) (intV e.val)))
def QAf(e:MapEntry)(y:Jn):Bool:=match Vj d l c e with
 | some j=>eqJ j y
 | none=>false
def QCD(b:Nat)(y:Jn):Bool:=match M.1.find? (·.born==b)with
 | some e=>QAf d l c e y
 | none=>false
def Kn(S:List Nat)(f:List Jn):List Jn:=f.filter λy=>!S.any λb=>QCD d l c M b y
def vQ(e:MapEntry)(f:List Jn):List Jn:=f.filter λy=>!QAf d l c e y
theorem QJe{d:Puz}{l:List Lay}{c:Nat}{f:List Jn}(h:Vj d l c e=none):vQ d l c e f=f:=by
 unfold vQ;rw[List.filter_eq_self];intro y _;unfold QAf;rw[h];rfl
theorem QFy{d:Puz}{l:List Lay}{c:Nat}{f:List Jn}{j:Jn}(h:Vj d l c e=some j):vQ d l c e f=VM j f:=by
 unfold vQ VM QAf;rw[h]
structure QF5 (M:ECt):Prop where
 wf:wf1 .i64 .i64 M.1=true
 born:(M.1.map (·.born)).Nodup
 low:∀ e∈M.1,e.born<M.2
 key:∀ e∈M.1,0<=QT e 0/\QT e 0<=2
 val:∀ e∈M.1,0<=intV e.val
theorem Qha{M:ECt}(hM:QF5 M)(d:Puz)(l:List Lay)(c:Nat)(S:List Nat)(f:List Jn)(he:e∈M.1):Kn d l c M (S++[e.born]) f=vQ d l c e (Kn d l c M S f):=by
 unfold Kn vQ;rw[List.filter_filter];congr 1;funext y
 have h1:QCD d l c M e.born y=QAf d l c e y:=by
  unfold QCD;rw[vT hM.born he]
 rw[List.any_append];simp only[List.any_cons,List.any_nil,Bool.or_false,h1,Bool.not_or,Bool.and_comm]
theorem Qat(S:List Nat)(f:List Jn):(Kn d l c M S f).length<=f.length:=List.length_filter_le _ _
def HX(P:Program)(d:Puz)(l:List Lay)(c:Nat)(M:ECt)(f0:List Jn)(S:List Nat):Env:=mkE P (QIL QK (Kn d l c M S f0) λx=>VM x (Kn d l c M S f0))
theorem QjH(f0:List Jn)(hf:f0.length<=1000000000)(S:List Nat):(HX prog d l c M f0 S).Sound:=
 QP (Qm.add (QfF λx=>Qgf (Kn d l c M S f0) x (Nat.le_trans (Qat ..) hf)))
def QcY(l:List Lay)(c:Nat)(M:ECt)(f0:List Jn)(_:List Nat)(e:Ex)(J:JSt):Prop:=e = .exit 2/\∃ T,Xr M.1 T/\Z1 M.1 T/\J=mlE d w0 l Jz Ju c (Kn d l c M T f0)
set_option maxHeartbeats 1000000 in
theorem QgF(l:List Lay)(c:Nat)(M:ECt)(f0:List Jn)(hM:QF5 M)(hw:d.wide≠0)(hcl:c<l.length)(hll:l.length<=1000)(ht:∀ i,i<l.length->0<=(l.getD i ⟨0,0⟩:Lay).turn/\(l.getD i ⟨0,0⟩:Lay).turn<=3):K6 (λS=>mlJ d w0 l Jz Ju M S c (Kn d l c M S f0)) (Xr M.1) (λS=>M.1.length-S.length) (QcY d w0 l c M f0) 752 QTr [729,296,200] (HX prog d l c M f0) (λS=>hnd (HX prog d l c M f0 S) 3) (QW (QI f133 0)):=by
 refine⟨λS g hS=>?_⟩;have hS:Xr M.1 S:=hS;unfold HX;have et:=Qc6 QK d w0 l M S c (Kn d l c M S f0) (λx=>VM x (Kn d l c M S f0)) g;refine Qh et ?_;clear et;refine Qt ⟨hM.low,qlr _⟩ (Kq (Qk λha=>?_) (Ql λg0=>Qk λho=>?_))
 .refine⟨_,⟨rfl,S,hS,ha,rfl⟩,rfl,rfl,_,Qhp d w0 l c (Kn d l c M S f0),?_⟩
  repeat' first|with_reducible refine QM ?_ ?_|exact tv|exact Nat.le_refl _|with_reducible exact qRr|exact qRr|exact rfl|refine aI ?_ ?_
 .obtain⟨hj,hn⟩:=ho;have hm:=QRX hj;obtain⟨hc,hh⟩:=QQi hM.born S hm;have hS':=QSQ hS hm hn;have hlen:=QF6 hS';rw[List.length_append,List.length_singleton]at hlen;have hmu:M.1.length-(S++[(M.1.getD (nxI g0) noE).born]).length<M.1.length-S.length:=by rw[List.length_append,List.length_singleton];omega
  have hc:QL M.1 (S++[(M.1.getD (nxI g0) noE).3])=M.1.getD (nxI g0) noE:=hc;have hh:YW M.1 (S++[(M.1.getD (nxI g0) noE).3])=true:=hh;have hwf:=hM.wf;obtain⟨e,hec⟩:∃ e,QL M.1 (S++[(M.1.getD (nxI g0) noE).3])=e:=⟨_,rfl⟩;have hee:M.1.getD (nxI g0) noE=e:=hc.symm.trans hec;have hl:Kn d l c M (S++[(M.1.getD (nxI g0) noE).born]) f0=vQ d l c e (Kn d l c M S f0):=by rw[<-hee];exact Qha hM d l c S f0 hm
  have hk:0<=QT e 0/\QT e 0<=2:=by rw[<-hee];exact hM.key _ hm
  have hv:0<=intV e.val:=by rw[<-hee];exact hM.val _ hm
  have hmod:0<=(i64.wrap (QT e 0+2)).tmod 4/\(i64.wrap (QT e 0+2)).tmod 4<=3:=by
   rw[w64 (by omega) (by omega)]
   have h1:=Int.tmod_nonneg 4 (show(0:Int)<=QT e 0+2 by omega)
   have h2:=Int.tmod_lt_of_pos (QT e 0+2) (show(0:Int)<4 by decide)
   omega
  refine QG (by rw[hh,hwf];simp) ?_
  refine QE (λb1=>QG (by simp;omega) (QE (λb2=>?_) (λb2=>?_))) (λb1=>?_)
  .rw[hec]at b1 b2;have hE:Vj d l c e=none:=by unfold Vj;rw[b1,show((intV e.val).tmod d.wide==0)=true from b2];rfl
   rw[QJe hE]at hl;refine⟨_,hS',hmu,λ_ _ r=>r,?_⟩;show Jg 752 _ _ _ _ (mlJ d w0 l Jz Ju M (S++[(M.1.getD (nxI g0) noE).born]) c (Kn d l c M (S++[(M.1.getD (nxI g0) noE).born]) f0));rw[hl];refine⟨rfl,rfl,_,Qbm d w0 l M S (S++[(M.1.getD (nxI g0) noE).born]) c (Kn d l c M S f0) g0,?_⟩
   repeat' first|with_reducible refine QM ?_ ?_|exact tv|exact Nat.le_refl _|with_reducible exact qRr|exact qRr|exact rfl|refine aI ?_ ?_
  .have hk0:(QT e 0==1&&((intV e.val).tmod d.wide==0))=false:=by rw[hec]at b2;rw[show((intV e.val).tmod d.wide==0)=false from b2,Bool.and_false]
   refine QE (λb3=>?_) (λb3=>QG ?_ (QG ?_ (QG ?_ (QG ?_ (QG ?_ (QG ?_ (QE (λb4=>QG ?_ ?_) (λb4=>QG ?_ ?_))))))))
   .rw[hec]at b3;have hE:Vj d l c e=none:=by unfold Vj;rw[hk0,show decide (intV e.val≥(l.length:Int))=true from b3];rfl
    rw[QJe hE]at hl;refine⟨_,hS',hmu,λ_ _ r=>r,?_⟩;show Jg 752 _ _ _ _ (mlJ d w0 l Jz Ju M (S++[(M.1.getD (nxI g0) noE).born]) c (Kn d l c M (S++[(M.1.getD (nxI g0) noE).born]) f0));rw[hl];refine⟨rfl,rfl,_,QZ9 d w0 l M S (S++[(M.1.getD (nxI g0) noE).born]) c (Kn d l c M S f0) g0,?_⟩
    repeat' first|with_reducible refine QM ?_ ?_|exact tv|exact Nat.le_refl _|with_reducible exact qRr|exact qRr|exact rfl|refine aI ?_ ?_
   .simp;omega
   .simp;omega
   .rw[hec];simp only[Bool.true_and,qdE];exact⟨ht c hcl,hk.1,by omega⟩
   .rw[hec]at b3 ⊢;have:=qdf b3;simp;omega
   .rw[hec]at b3 ⊢;have:=qdf b3;simp;omega
   .rw[hec]at b3 ⊢;have:=qdf b3;simp only[Bool.true_and,qdE];exact⟨ht _ (by omega),hmod⟩
   .refine KG.2 ?_
    repeat' first|with_reducible refine QM ?_ ?_|exact tv|exact Nat.le_refl _|with_reducible exact qRr|exact qRr|exact rfl|refine aI ?_ ?_
   .rw[hec]at b3 b4;have hE:Vj d l c e=some (Xs l c (QT e 0) (intV e.val)):=by unfold Vj;rw[hk0,show decide (intV e.val≥(l.length:Int))=false from b3];rfl
    have hJ:Xs l c (QT e 0) (intV e.val)=⟨(l.getD (intV e.val).toNat ⟨0,0⟩:Lay).piece,onS (l.getD (intV e.val).toNat ⟨0,0⟩) ((i64.wrap (QT e 0+2)).tmod 4),(l.getD c ⟨0,0⟩:Lay).piece,onS (l.getD c ⟨0,0⟩) (QT e 0)⟩:=by unfold Xs;rw[show decide ((l.getD (intV e.val).toNat ⟨0,0⟩:Lay).piece<(l.getD c ⟨0,0⟩:Lay).piece)=true from b4];rfl
    rw[QFy hE,hJ]at hl;refine⟨_,hS',hmu,λ_ _ r=>r,rfl,rfl,_,QbP d w0 l M S (S++[(M.1.getD (nxI g0) noE).born]) c (Kn d l c M S f0) (Kn d l c M (S++[(M.1.getD (nxI g0) noE).born]) f0) (λx=>VM x (Kn d l c M S f0)) g0,?_⟩;rw[hl];subst hec
    repeat' first|with_reducible refine QM ?_ ?_|exact tv|exact Nat.le_refl _|with_reducible exact qRr|exact qRr|exact rfl|refine aI ?_ ?_
   .refine KG.2 ?_
    repeat' first|with_reducible refine QM ?_ ?_|exact tv|exact Nat.le_refl _|with_reducible exact qRr|exact qRr|exact rfl|refine aI ?_ ?_
   .rw[hec]at b3 b4;have hE:Vj d l c e=some (Xs l c (QT e 0) (intV e.val)):=by unfold Vj;rw[hk0,show decide (intV e.val≥(l.length:Int))=false from b3];rfl
    have hJ:Xs l c (QT e 0) (intV e.val)=⟨(l.getD c ⟨0,0⟩:Lay).piece,onS (l.getD c ⟨0,0⟩) (QT e 0),(l.getD (intV e.val).toNat ⟨0,0⟩:Lay).piece,onS (l.getD (intV e.val).toNat ⟨0,0⟩) ((i64.wrap (QT e 0+2)).tmod 4)⟩:=by unfold Xs;rw[show decide ((l.getD (intV e.val).toNat ⟨0,0⟩:Lay).piece<(l.getD c ⟨0,0⟩:Lay).piece)=false from b4];rfl
    rw[QFy hE,hJ]at hl;refine⟨_,hS',hmu,λ_ _ r=>r,rfl,rfl,_,QZs d w0 l M S (S++[(M.1.getD (nxI g0) noE).born]) c (Kn d l c M S f0) (Kn d l c M (S++[(M.1.getD (nxI g0) noE).born]) f0) (λx=>VM x (Kn d l c M S f0)) g0,?_⟩;rw[hl];subst hec
    repeat' first|with_reducible refine QM ?_ ?_|exact tv|exact Nat.le_refl _|with_reducible exact qRr|exact qRr|exact rfl|refine aI ?_ ?_
  .have hk0:(QT e 0==1&&((intV e.val).tmod d.wide==0))=false:=by rw[hec]at b1;rw[b1,Bool.false_and]
   refine QE (λb3=>?_) (λb3=>QG ?_ (QG ?_ (QG ?_ (QG ?_ (QG ?_ (QG ?_ (QE (λb4=>QG ?_ ?_) (λb4=>QG ?_ ?_))))))))
   .rw[hec]at b3;have hE:Vj d l c e=none:=by unfold Vj;rw[hk0,show decide (intV e.val≥(l.length:Int))=true from b3];rfl
    rw[QJe hE]at hl;refine⟨_,hS',hmu,λ_ _ r=>r,?_⟩;show Jg 752 _ _ _ _ (mlJ d w0 l Jz Ju M (S++[(M.1.getD (nxI g0) noE).born]) c (Kn d l c M (S++[(M.1.getD (nxI g0) noE).born]) f0));rw[hl];refine⟨rfl,rfl,_,Qj6 d w0 l M S (S++[(M.1.getD (nxI g0) noE).born]) c (Kn d l c M S f0) g0,?_⟩
    repeat' first|with_reducible refine QM ?_ ?_|exact tv|exact Nat.le_refl _|with_reducible exact qRr|exact qRr|exact rfl|refine aI ?_ ?_
   .simp;omega
   .simp;omega
   .rw[hec];simp only[Bool.true_and,qdE];exact⟨ht c hcl,hk.1,by omega⟩
   .rw[hec]at b3 ⊢;have:=qdf b3;simp;omega
   .rw[hec]at b3 ⊢;have:=qdf b3;simp;omega
   .rw[hec]at b3 ⊢;have:=qdf b3;simp only[Bool.true_and,qdE];exact⟨ht _ (by omega),hmod⟩
   .refine KG.2 ?_
    repeat' first|with_reducible refine QM ?_ ?_|exact tv|exact Nat.le_refl _|with_reducible exact qRr|exact qRr|exact rfl|refine aI ?_ ?_
   .rw[hec]at b3 b4;have hE:Vj d l c e=some (Xs l c (QT e 0) (intV e.val)):=by unfold Vj;rw[hk0,show decide (intV e.val≥(l.length:Int))=false from b3];rfl
    have hJ:Xs l c (QT e 0) (intV e.val)=⟨(l.getD (intV e.val).toNat ⟨0,0⟩:Lay).piece,onS (l.getD (intV e.val).toNat ⟨0,0⟩) ((i64.wrap (QT e 0+2)).tmod 4),(l.getD c ⟨0,0⟩:Lay).piece,onS (l.getD c ⟨0,0⟩) (QT e 0)⟩:=by unfold Xs;rw[show decide ((l.getD (intV e.val).toNat ⟨0,0⟩:Lay).piece<(l.getD c ⟨0,0⟩:Lay).piece)=true from b4];rfl
    rw[QFy hE,hJ]at hl;refine⟨_,hS',hmu,λ_ _ r=>r,rfl,rfl,_,QgO d w0 l M S (S++[(M.1.getD (nxI g0) noE).born]) c (Kn d l c M S f0) (Kn d l c M (S++[(M.1.getD (nxI g0) noE).born]) f0) (λx=>VM x (Kn d l c M S f0)) g0,?_⟩;rw[hl];subst hec
    repeat' first|with_reducible refine QM ?_ ?_|exact tv|exact Nat.le_refl _|with_reducible exact qRr|exact qRr|exact rfl|refine aI ?_ ?_
   .refine KG.2 ?_
    repeat' first|with_reducible refine QM ?_ ?_|exact tv|exact Nat.le_refl _|with_reducible exact qRr|exact qRr|exact rfl|refine aI ?_ ?_
   .rw[hec]at b3 b4;have hE:Vj d l c e=some (Xs l c (QT e 0) (intV e.val)):=by unfold Vj;rw[hk0,show decide (intV e.val≥(l.length:Int))=false from b3];rfl
    have hJ:Xs l c (QT e 0) (intV e.val)=⟨(l.getD c ⟨0,0⟩:Lay).piece,onS (l.getD c ⟨0,0⟩) (QT e 0),(l.getD (intV e.val).toNat ⟨0,0⟩:Lay).piece,onS (l.getD (intV e.val).toNat ⟨0,0⟩) ((i64.wrap (QT e 0+2)).tmod 4)⟩:=by unfold Xs;rw[show decide ((l.getD (intV e.val).toNat ⟨0,0⟩:Lay).piece<(l.getD c ⟨0,0⟩:Lay).piece)=false from b4];rfl
    rw[QFy hE,hJ]at hl;refine⟨_,hS',hmu,λ_ _ r=>r,rfl,rfl,_,QcQ d w0 l M S (S++[(M.1.getD (nxI g0) noE).born]) c (Kn d l c M S f0) (Kn d l c M (S++[(M.1.getD (nxI g0) noE).born]) f0) (λx=>VM x (Kn d l c M S f0)) g0,?_⟩;rw[hl];subst hec
    repeat' first|with_reducible refine QM ?_ ?_|exact tv|exact Nat.le_refl _|with_reducible exact qRr|exact qRr|exact rfl|refine aI ?_ ?_
def VV:ECt:=([{ key := .int .i64 1,val := .int .i64 (i64.wrap ((c:Int)+1)),born:=0 },{ key := .int .i64 2,val := .int .i64 (i64.wrap ((c:Int)+d.wide)),born:=1 }],2)
def moE(l:List Lay)(ac body:Code)(f:List Jn):JSt:=⟨83,[],mtW d w0 l ac body 776 f,784⟩
def QNC:Ex->List Nat
 | .normal=>[0,1,2,9,10,11]
 | _=>[]
abbrev moH(P:Program)(d:Puz)(w0:List Jn)(l:List Lay)(ac body:Code)(M:ECt)(S0:List Nat)(c:Nat)(f:List Jn)(X:List (Prop×Ex×JSt)):Hnd:={ hnd (mkE P QV) 3 with loop:=λ_=>Ks (c<l.length) (KF 752 [729,296,200] (mlJ d w0 l ac body M S0 c f) X) }
abbrev QFU:Nat×Blk:=(729,.lp LoopState.ready none (mtT d w0 l) (Array.mk [28]) (Qu f43).1 (Qu f43).2)
abbrev QHm:Nat×Blk:=(296,.cells 0 64 [.slz 776 0 f'.length cO])
abbrev QOO:Nat×Blk:=(200,.cellsR 0 152 (List.append (waf d) ([.map 201,.slz 496 0 l.length cO])))
abbrev QLd:Nat×Blk:=(0,.frz (wae) d.ps.n λi=>QA.enc (d.ps.get i))
abbrev QLC:Nat×Blk:=(776,.rowz true 67 (List.append (waJ) ([.int .i64])) f'.length λi=>QA.enc (f'.getD i (Jn.mk (0:Int) (0:Int) (0:Int) (0:Int))))
abbrev QUn(l:List Lay)(w0:List Jn):List (Nat×Blk):=[(QFU d l w0),(QHm f'),(QOO d l),(696,.cellsR 0 42 [.slz 496 0 l.length cO]),(688,.cellsR 0 90 [.ptr 200 0 0]),(496,.frz kB l.length λi=> QA.enc (l.getD i (Lay.mk (0:Int) (0:Int)))),(QLd d),(QLC f')]
abbrev QUT(l:List Lay)(w0:List Jn):List (Nat×Blk):=
  [(QFU d l w0),(296,.cells 0 64 [.slz 776 0 f.length cO]),(QOO d l),(QLd d),(496,.frz kB l.length λi=>QA.enc (l.getD i (Lay.mk (0:Int)
  (0:Int)))),(696,.cellsR 0 42 [.slz 496 0 l.length cO]),(688,.cellsR 0 90 [.ptr 200 0 0]),(776,.rowz true 67 (List.append (waJ) ([.int .i64])) f.length fun
  i=>QA.enc (f.getD i (Jn.mk (0:Int) (0:Int) (0:Int) (0:Int))))]
theorem QfU(l:List Lay)(M:ECt)(S0:List Nat)(c:Nat)(f f':List Jn)(g:Nat->Value):exec (mkE prog QV) (moH prog d w0 l (Qu f43).1 (Qu f43).2 M S0 c f [(True,.exit 2,mlE d w0 l (Qu f43).1 (Qu f43).2 c f')]) (QI f133 0) (JSt.inst (mlE d w0 l (Qu f43).1 (Qu f43).2 c f) g) (Q5 [729,296,200] QNC) = .br (decide ((c:Int)<(l.length:Int))) (.ak (((([c<l.length,0=0,0=0,0=0,0=0]++wcc l)++wbu c++[784+8+8+8=808,0=0,2=M.2,[]=S0,2=M.2,[]++[MapEntry.mk (Value.int i64 1) (Value.int i64 (i64.wrap ((c:Int)+1))) 0]++[MapEntry.mk (Value.int i64 2) (Value.int i64 (i64.wrap ((c:Int)+d.wide))) 1]=M.1,2=M.2])++wai++[Array.mk [(28:Tmp)]=Array.mk [(28:Tmp)],(Qu f43).1=(Qu f43).1,(Qu f43).2=(Qu f43).2])++waa d++(wb8++(wch l++[(0:Int)=0]))++waa d++(((waB l w0++[0=0,f.length=f.length,cO=cO])++wah f++([0=0]++wch l))++wag l)++waa d++((wcd l)++wad d)) (.asm (True) (.all (λ(g0:Nat->Value)=>.leaf (.tup (.nilp::.ptr 83 0 0::.yld 729::List.append (wa8 l) ([vi (i64.wrap ((c:Int)+1))]))) ((QUn d f' l w0)))))) (.leaf (.tup [.ptr 0 0 0,.ptr 83 0 0]) ((QUT d f l w0))):=by kernel_rfl
abbrev QI3:List Prop:=((wai++(wa7))++waa d++(((wb8++(wch l++[(0:Int)=0]))++waK d)++waC d))
abbrev QKI:List Prop:=(waB l w0)
abbrev QOy:List Prop:=([0=0,f'.length=f'.length,cO=cO]++way f')
theorem QYE(l:List Lay)(c c':Nat)(f':List Jn):QF 752 (.yld 729::List.append (wa8 l) ([vi (i64.wrap ((c:Int)+1))])) ((QUn d f' l w0)) (mlE d w0 l (Qu f43).1 (Qu f43).2 c' f')=(some (([0=0,0=0,0=0,0=0]++wcc l++[i64.wrap ((c:Int)+1)=(c':Int)])++(QI3 d l)++[0=0,d.ps.n=d.ps.n]++(QKI l w0)++(QOy f')++((([0=0]++wch l)++wag l)++waa d++((wcd l)++wad d)))):=by kernel_rfl
theorem Qds(l:List Lay)(f:List Jn):QF 752 [] ((QUT d f l w0)) (moE d w0 l (Qu f43).1 (Qu f43).2 f)=(some ((QI3 d l)++[0=0,d.ps.n=d.ps.n]++(QKI l w0)++([0=0,f.length=f.length,cO=cO]++wah f))):=by kernel_rfl
def vn(l:List Lay)(ac body:Code)(f f':List Jn):UC:=⟨736,⟨3,[(0,.yld 729),(1,.ptr 696 0 0),(2,.ptr 688 0 0)],mtW d w0 l ac body 744 f++mtR d l,752⟩,λ_=>.tup [],λm=>mtW d w0 l ac body m f'⟩
abbrev mtH(P:Program)(d:Puz)(w0:List Jn)(l:List Lay)(ac body:Code)(f:List Jn)(X:List (Prop×Ex×JSt)):Hnd:={ hnd (mkE P QV) 3 with loop:=λ_=>KF 752 [729,296,200] (mlE d w0 l ac body 0 f) X }
theorem QZU(l:List Lay)(f f':List Jn):VK (mkE prog QV) (mtH prog d w0 l (Qu f43).1 (Qu f43).2 f [(True,.exit 0,moE d w0 l (Qu f43).1 (Qu f43).2 f')]) f133 (vn d w0 l (Qu f43).1 (Qu f43).2 f f') = .ak ((([0=0,0=0,0=0,0=0]++wcc l++[(0:Int)=0])++wai++[Array.mk [(28:Tmp)]=Array.mk [(28:Tmp)],(Qu f43).1=(Qu f43).1,(Qu f43).2=(Qu f43).2])++waa d++(wb8++(wch l++[(0:Int)=0]))++waa d++(((waB l w0++[0=0,f.length=f.length,cO=cO])++wah f++([0=0]++wch l))++wag l)++waa d++((wcd l)++wad d)) (.asm (True) (.all (λ(g0:Nat->Value)=>.leaf (.tup []) ([(QFU d l w0),(QHm f'),(QLC f')])))):=by kernel_rfl
theorem Qhw(l:List Lay)(f f':List Jn):QF 752 [(.tup [])] ([(QFU d l w0),(QHm f'),(QLC f')]) (KX (vn d w0 l (Qu f43).1 (Qu f43).2 f f'))=(some ((QI3 d l)++[0=0,d.ps.n=d.ps.n] ++ (QKI l w0)++(QOy f'))):=by kernel_rfl
def QI1(M:ECt)(f:List Jn):List Jn:=f.filter λy=>!M.1.any λe=>QAf d l c e y
theorem QbX{M:ECt}(hM:QF5 M)(d:Puz)(l:List Lay)(c:Nat){T:List Nat}(f:List Jn)(h1:Xr M.1 T)(h2:Z1 M.1 T):Kn d l c M T f=QI1 d l c M f:=by
 unfold Kn QI1;congr 1;funext y;congr 1;rw[Bool.eq_iff_iff,List.any_eq_true,List.any_eq_true];constructor
 .rintro⟨b,hb,hh⟩;obtain⟨e,he,rfl⟩:=List.mem_map.1 (h1.sub b hb);refine⟨e,he,?_⟩;unfold QCD at hh;rw[vT hM.born he]at hh;exact hh
 .rintro⟨e,he,hh⟩;refine⟨e.born,h2 e he,?_⟩;unfold QCD;rw[vT hM.born he];exact hh
theorem Qic{d:Puz}(hd:Kb d){c:Nat}(hc:c<=1000):QF5 (VV d c):=by
 have h1:=hd.w1;have h2:=hd.wn;have h3:=hd.n;refine⟨rfl,by simp[VV],?_,?_,?_⟩
 .intro e he;simp only[VV,List.mem_cons,List.not_mem_nil,or_false]at he;rcases he with rfl|rfl
  .exact(by decide:(0:Nat)<2)
  .exact(by decide:(1:Nat)<2)
 .intro e he;simp only[VV,List.mem_cons,List.not_mem_nil,or_false]at he;rcases he with rfl|rfl
  .exact(by decide:(0:Int)<=1/\(1:Int)<=2)
  .exact(by decide:(0:Int)<=2/\(2:Int)<=2)
 .intro e he;simp only[VV,List.mem_cons,List.not_mem_nil,or_false]at he;rcases he with rfl|rfl
  .show 0<=i64.wrap ((c:Int)+1);rw[w64 (by omega) (by omega)];omega
  .show 0<=i64.wrap ((c:Int)+d.wide);rw[w64 (by omega) (by omega)];omega
def qp(f:LJ)(c:Nat):LJ:=⟨QI1 d l c (VV d c) f.1,Nat.le_trans (List.length_filter_le _ _) f.2⟩
def Xc(f:LJ):LJ:=(List.range l.length).foldl (qp d l) f
theorem QXw{d:Puz}(hd:Kb d)(w0:List Jn)(l:List Lay)(hll:l.length<=1000)(hL:∀ y∈l,KJ d y)(c:Nat)(f:LJ)(G:Ctx)(hrd:G.rd=none)(hG:G.n<=752):
  Q0 (mkE prog QV) G (moH prog d w0 l Jz Ju (VV d c) [] c f.1 [(True,.exit 2,mlE d w0 l Jz Ju c (qp d l f c).1)]) (QI f133 0):=by
 refine KO (body:=QW (QI f133 0)) (QP Qm) hrd (by kernel_rfl) ?_
 refine JJ λhc=>?_;have hw1:=hd.w1;have hM:=Qic hd (c:=c) (by omega)
 have h0:Kn d l c (VV d c) [] f.1=f.1:=by
  unfold Kn;rw[List.filter_eq_self];intro y _;rfl
 have hJ:mlJ d w0 l Jz Ju (VV d c) [] c f.1=mlJ d w0 l Jz Ju (VV d c) [] c (Kn d l c (VV d c) [] f.1):=by rw[h0]
 rw[hJ]
 have ht:∀ i,i<l.length->0<=(l.getD i ⟨0,0⟩:Lay).turn/\(l.getD i ⟨0,0⟩:Lay).turn<=3:=λi hi=>by
  rw[Jb hi];exact(hL _ (List.getElem_mem hi)).t
 have hEnv:=QjH d l c (VV d c) f.1 f.2;refine JG (E0:=mkE prog QV) (E:=HX prog d l c (VV d c) f.1) (H:=λS=>hnd (HX prog d l c (VV d c) f.1 S) 3) (n0:=752) (s0:=[]) (λ_=>rfl) hEnv hG (λS _=>Qz (hEnv S) 3 G _ hrd) (λS _=>(by decide:752<=832)) ?_ (QgF d w0 l c (VV d c) f.1 hM (by omega) hc hll ht) ⟨List.nodup_nil,λb hb=>by cases hb⟩ ?_
 .rintro S e J ⟨_,T,_,_,rfl⟩;exact(by decide:752<=784)
 .rintro e J ⟨rfl,T,h1,h2,rfl⟩;refine⟨_,qmc,trivial,rfl,?_⟩;rw[QbX hM d l c f.1 h1 h2];rfl
def QK0(l:List Lay)(k:Nat×LJ)(e:Ex)(J:JSt):Prop:=e = .exit 0/\J=moE d w0 l Jz Ju (((List.range l.length).drop k.1).foldl (qp d l) k.2).1
set_option maxHeartbeats 1000000 in
theorem Qf2(l:List Lay)(hll:l.length<=1000):K6 (λk:Nat×LJ=>mlE d w0 l Jz Ju k.1 k.2.1) (λk=>k.1<=l.length) (λk=>l.length-k.1) (QK0 d w0 l) 752 QNC [729,296,200] (λ_=>mkE prog QV) (λk=>moH prog d w0 l Jz Ju (VV d k.1) [] k.1 k.2.1 [(True,.exit 2,mlE d w0 l Jz Ju k.1 (qp d l k.2 k.1).1)]) (QI f133 0):=by
 refine⟨λk g0 hk=>?_⟩;obtain⟨c,f⟩:=k;have hk:c<=l.length:=hk;have et:=QfU d w0 l (VV d c) [] c f.1 (qp d l f c).1 g0;refine Qh et ?_;clear et;refine QE (λb0=>?_) (λb0=>?_);have h:c<l.length:=by have:=qdt b0;omega
 have hw:=Vo h hll
 iterate 128 refine Qt (by first|exact tv|exact h|with_reducible exact qRr|exact rfl) ?_
 refine Qk λa0=>?_;refine Ql λg0=>?_
 .refine⟨(c+1,qp d l f c),h,by show l.length-(c+1)<l.length-c;omega,λe J hr=>?_,rfl,rfl,_,QYE d w0 l c (c+1) (qp d l f c).1,?_⟩
  .unfold QK0 at hr ⊢;simp only at hr ⊢;rw[QJJ h];exact hr
  .repeat' first|with_reducible refine QM ?_ ?_|exact tv|with_reducible exact qRr|exact hw|exact rfl|refine aI ?_ ?_
 have h:l.length<=c:=by have:=qdf b0;omega
 refine⟨_,(by unfold QK0;simp only[QJs h,and_self]),rfl,rfl,_,Qds d w0 l f.1,?_⟩
 rotate_left
 all_goals (repeat' first|with_reducible refine QM ?_ ?_|exact tv|with_reducible exact qRr|exact rfl|refine aI ?_ ?_)
theorem Qjn{d:Puz}(hd:Kb d)(w0:List Jn)(l:List Lay)(hll:l.length<=1000)(hL:∀ y∈l,KJ d y)(f:LJ)(G:Ctx)(hrd:G.rd=none)(hG:G.n=752):
  Q0 (mkE prog QV) G (mtH prog d w0 l Jz Ju f.1 [(True,.exit 0,moE d w0 l Jz Ju (Xc d l f).1)]) (Qn f133):=by
 refine KO (body:=QI f133 0) (QP Qm) hrd (by kernel_rfl) ?_
 refine JG (E0:=mkE prog QV) (E:=λ_:Nat×LJ=>mkE prog QV) (H:=λk=>moH prog d w0 l Jz Ju (VV d k.1) [] k.1 k.2.1 [(True,.exit 2,mlE d w0 l Jz Ju k.1 (qp d l k.2 k.1).1)]) (n0:=752) (s0:=(0,f)) (λ_=>rfl) (λ_=>QP Qm) (by omega) (λk _=>QXw hd w0 l hll hL k.1 k.2 G hrd (by omega)) (λk _=>(by decide:752<=784)) ?_ (Qf2 d w0 l hll) (Nat.zero_le _) ?_
 .rintro k e J ⟨_,rfl⟩;exact(by decide:752<=784)
 .rintro e J ⟨rfl,rfl⟩;exact⟨_,qmc,trivial,rfl,rfl⟩
theorem Qcd(l:List Lay)(ac body:Code)(f f':List Jn):(vn d w0 l ac body f f').Ok:=by
 refine⟨(by decide:736<=752),rfl,rfl,?_,rfl,λ_ _=>rfl,λnid h=>?_⟩
 .intro q hq;simp only[UC.po,vn,mtW,rwJ,List.mem_cons,List.not_mem_nil,or_false]at hq;rcases hq with rfl|rfl|rfl<;>refine⟨rfl,rfl,rfl,?_⟩<;>first|exact λ_=>rfl|exact λh=>absurd (show 752<736 from h) (by decide)
 .have e0:=Km 736 752 0 nid (by decide)
  simp only[UC.po,vn,mtW,rwJ,mtT,KZ,Qg.val,List.cons_append,List.nil_append,List.map_cons,List.map_nil,Blk.mapId,AV.mapId,AV.mapIdL,Nat.add_zero]at e0 ⊢;rw[e0];rfl
theorem Qiz{d:Puz}(hd:Kb d)(w0:List Jn)(l:List Lay)(hll:l.length<=1000)(hL:∀ y∈l,KJ d y)(f:LJ):QS prog 133 (uFC (vn d w0 l Jz Ju f.1 (Xc d l f).1)):=by
 refine K0 (c:=Qn f133) (E:=mkE prog QV) (QP Qm) func133 (by kernel_rfl) (by kernel_rfl) (Qcd ..) (λG h1 h2=>Qjn hd w0 l hll hL f G h1 (by rw[h2];rfl)) ⟨?_⟩
 have et:=QZU d w0 l f.1 (Xc d l f).1;refine Qh et ?_;clear et
 iterate 119 refine Qt (by first|exact tv|with_reducible exact qRr|exact rfl) ?_
 refine Qk λa0=>?_;refine Ql λg0=>?_;refine⟨rfl,rfl,_,Qhw d w0 l f.1 (Xc d l f).1,?_⟩
 rotate_left
 all_goals (repeat' first|with_reducible refine QM ?_ ?_|exact tv|with_reducible exact qRr|exact rfl|refine aI ?_ ?_)
def QCJ(l:List Lay)(ac2 body2:Code)(f f':List Jn):Tab:=Qc QV 133 (KT pb (vn d w0 l ac2 body2 f f'))
abbrev faM(P : Program)(T : Tab): Hnd := { hnd (mkE P T) 5 with loop := λ_ _ _=>.fail "a loop" }
abbrev QOk:Nat×Blk:=(200,.cells 0 152 (List.append (waf d) ([.map 201,.slz 496 0 l.length cO])))
abbrev QNi:List AV:=(List.append (waF d) ([.bool false d.turn,.slz 0 0 d.ps.n cO]))
abbrev QSN:List AV:=[.agg (QNi d),.ptr 112 0 0,.nils,vj 0,.ptr 200 0 0,vj 0,.ptr 296 0 0,.ptr 328 0 0,.tup [],.tup [],.tup [.ptr 200 0 0,vj 0],.agg (QNi d),.tup [.ptr 200 0 0,vj 0],.ptr 200 0 0,vj 0,vj 0,.bool true false,.tup [],.ptr 200 0 0,.slz 288 0 w0.length cO,.ptr 200 0 0,.mth (Fn.func 91) [.ptr 200 0 0],.ptr 200 0 0,.fn (Fn.func 102) [.ptr 352 0 0,.ptr 360 0 0],.tup [],.tup [],.tup [],.tup [],.tup [],.tup [],.tup [],.tup [],.tup [],.tup [],.tup [],.tup []]
abbrev QTK:Nat×Blk:=(0,.frz (wae) d.ps.n λi=>QA.enc (d.ps.get i))
abbrev QTp:Nat×Blk:=(736,.rowz true 67 (List.append (waJ) ([.int .i64])) f'.length λi=>QA.enc (f'.getD i (Jn.mk (0:Int) (0:Int) (0:Int) (0:Int))))
abbrev wbs(d:Puz)(l:List Lay)(u:Nat->Nat->Int):List (Nat×Blk):=[(496,.rowz true 49 kB l.length λi=>QA.enc (l.getD i (Lay.mk (0:Int) (0:Int)))),(504,.rowz true 4 [CK.bool] d.ps.n u),(328,.cellsR 0 141 [.mth (Fn.func 91) [.ptr 200 0 0]]),(352,.cellsR 0 90 [.ptr 200 0 0]),(360,.cellsR 0 96 [.nils])]
abbrev QU9(d:Puz)(f':List Jn)(l:List Lay)(u:Nat->Nat->Int)(w0:List Jn):List (Nat×Blk):=((QOk d l)::(201,.mp E.1 E.2)::(464,.cells 0 114 [.slz 504 0 d.ps.n cO])::(393,.lp LoopState.done (some (Code.exit 0)) (QSN d w0) (Array.mk [24]) ((QQ f43 0).1) ((QQ f43 0).2))::(296,.cells 0 64 [.slz 736 0 f'.length cO])::(QTK d)::List.append (wbs d l u) ([(QTp f')]))
abbrev QSj(d:Puz)(f':List Jn)(l:List Lay)(u:Nat->Nat->Int)(w0:List Jn):List (Nat×Blk):=((QOk d l)::(201,.mp E.1 E.2)::(464,.cells 0 114 [.slz 504 0 d.ps.n cO])::(393,.lp LoopState.ready none (QSN d w0) (Array.mk [24]) ((QQ f43 0).1) ((QQ f43 0).2))::(296,.cells 0 64 [.slz 736 0 f'.length cO])::(QTK d)::List.append (wbs d l u) ([(QTp f')]))
theorem QXK(l:List Lay)(f f':List Jn):(Vv (mkE prog (QCJ pb d w0 l (Qu f43).1 (Qu f43).2 f f')) (faM prog (QCJ pb d w0 l (Qu f43).1 (Qu f43).2 f f')) f103
  QIy (Hb d E w0 (QQ f43 0).1 (QQ f43 0).2 u l f).hp 520 λv h _=>Z4 WN v h) = .br ((l.length:Int)==(d.ps.n:Int)) (.need (pb ([0=0,0=0,0 =
  0,0=0,LoopState.ready=LoopState.ready,(none:Option Code)=none,Array.mk [28]=Array.mk [28],(Qu f43).1=(Qu f43).1,(Qu f43).2=(Qu
  f43).2,d.pK.length=d.pK.length,d.pK.aK=d.pK.aK,d.pK.oK=d.pK.oK,d.pK.dK.lo=d.pK.dK.lo,d.pK.dK.hi=d.pK.dK.hi,d.wide =
  d.wide,d.high=d.high,d.turn=d.turn,0=0,d.ps.n=d.ps.n,Cap.of 0=Cap.of 0,0=0,0=0,(0:Int)=0,0=0,0=0,(0:Int)=0,0=0,0=0,0=0,0=0,0=0,
  l.length=l.length,Cap.of 0=Cap.of 0,0=0,0=0,(0:Int)=0,d.pK.length=d.pK.length,d.pK.aK=d.pK.aK,d.pK.oK=d.pK.oK,d.pK.dK.lo =
  d.pK.dK.lo,d.pK.dK.hi=d.pK.dK.hi,d.wide=d.wide,d.high=d.high,d.turn=d.turn,0=0,d.ps.n=d.ps.n,Cap.of 0=Cap.of 0,0=0,0=0,(0:Int)=0,0=0,
  0=0,(0:Int)=0,(0:Int)=0,false=false,0=0,0=0,0=0,w0.length=w0.length,Cap.of 0=Cap.of 0,0=0,0=0,Fn.func 91=Fn.func 91,0=0,0=0,0=0,0 =
  0,Fn.func 102=Fn.func 102,0=0,0=0,0=0,0=0,0=0,l.length=l.length,Cap.of 0=Cap.of 0,Fn.func 91=Fn.func 91,0=0,0=0,0=0,l.length=l.length,Cap.of
  0=Cap.of 0,Fn.func 133=Fn.func 133,0=0,0=0,0=0,0=0,0=0,f.length=f.length,Cap.of 0=Cap.of 0,f.length<=f.length,QB 4 f.length (λi=>QA.enc
  (f.getD i (Jn.mk (0:Int) (0:Int) (0:Int) (0:Int)))) λi=>QA.enc (f.getD i (Jn.mk (0:Int) (0:Int) (0:Int) (0:Int))),0=0,l.length=l.length,Cap.of 0 =
  Cap.of 0,0=0,0=0,l.length<=l.length,QB 2 l.length (λi=>QA.enc (l.getD i (Lay.mk (0:Int) (0:Int)))) λi=>QA.enc (l.getD i (Lay.mk (0:Int) (0:Int))),
  d.pK.length=d.pK.length,d.pK.aK=d.pK.aK,d.pK.oK=d.pK.oK,d.pK.dK.lo=d.pK.dK.lo,d.pK.dK.hi=d.pK.dK.hi,d.wide=d.wide,d.high =
  d.high,d.turn=d.turn,0=0,d.ps.n=d.ps.n,Cap.of 0=Cap.of 0,0=0,l.length=l.length,Cap.of 0=Cap.of 0,d.ps.n<=d.ps.n,QB 28 d.ps.n (λi=>QA.enc (d.ps.get
  i)) λi=>QA.enc (d.ps.get i)])) (.br ((f'.length:Int)==0) (.leaf (.bool true false) ((QU9 E d f' l u w0))) (.leaf (.bool true true) ((QSj E d f' l u w0))))) (.fail
  ("a loop")) := by kernel_rfl
abbrev G9:List Prop:=(waa d++[cO=cO,0=0])
abbrev QTV(d:Puz)(l:List Lay):List Prop:=((wb4 E l)++wag l++(wbo d))
abbrev QER:List Prop:=[0=0,(0:Int)=0,0=0,0=0,(0:Int)=0]
abbrev Hc:List Prop:=[0=0,0=0,0=0,0=0]
abbrev QO6:List Prop:=[(0:Int)=0,false=false,0=0,0=0,0=0,w0.length=w0.length,cO=cO,0=0,0=0,Fn.func 91=Fn.func (91:FuncId)]
abbrev QUf:List Prop:=([0=0,f'.length=f'.length,cO=cO]++way f')
theorem Qg1(l:List Lay)(f f':List Jn):QF 520 [(.bool true false)] ((QU9 E d f' l u w0)) (KX (faV d E w0 (QQ f43 0).1 (QQ f43 0).2 u l f f'))=(some ([false=false]++(G9 d)++(QTV E d l) ++ ([QB 1 d.ps.n u u]++waT++(wbc))++(G9 d)++QER++Hc++[0=0,0=0,(0:Int)=0]++(G9 d)++QER++(QO6 w0)++Hc++[Fn.func 102=Fn.func (102:FuncId)]++Hc++(QUf f'))):=by kernel_rfl
theorem Qh9(l:List Lay)(f f':List Jn):QF 520 [(.bool true true)] ((QSj E d f' l u w0)) (KX (faU d E w0 (QQ f43 0).1 (QQ f43 0).2 u l f f'))=(some ([true=true]++(G9 d)++(QTV E d l) ++ ([QB 1 d.ps.n u u]++wai++(wbc))++(G9 d)++QER++Hc++[0=0,0=0,(0:Int)=0]++(G9 d)++QER++(QO6 w0)++Hc++[Fn.func 102=Fn.func (102:FuncId)]++Hc++(QUf f'))):=by kernel_rfl
def faY(s:LJ):Qi LJ:=cond (((Xc d l s).1.length:Int)==0) (.stop (Xc d l s)) (.go (Xc d l s))
theorem QOQ(T:Tab)(hT:Qf T)(G:Ctx)(hrd:G.rd=none):Q0 (mkE prog T) G (faM prog T) (Qn f103):=
 KO (body:=QI f103 0) (QP hT) hrd (by kernel_rfl) (λ_ _ _ _ _ _ _ h _ _=>h.elim)
set_option maxHeartbeats 1000000 in
theorem QbI{d:Puz}(hd:Kb d){E:ECt}{w0:List Jn}(l:List Lay)(s:LJ)(hk:l.length=d.ps.n)(hL:∀ y∈l,KJ d y):QS prog 103 (uFC (ZO d E w0 Vi Vn l s (faY d l s))):=by
 have hll:l.length<=1000:=by rw[hk];exact hd.n
 have hT:Qf (QCJ QK d w0 l Jz Ju s.1 (Xc d l s).1):=Qm.add (Qiz hd w0 l hll hL s);have et:=QXK QK d E w0 (QD l) l s.1 (Xc d l s).1;have hlen:((l.length:Int)==(d.ps.n:Int))=true:=by rw[hk];simp
 unfold faY;cases h0:(((Xc d l s).1.length:Int)==0)with
 | true=>
  simp only[cond_true,ZO];refine K0 (E:=mkE prog (QCJ QK d w0 l Jz Ju s.1 (Xc d l s).1)) (QP hT) func103 (by kernel_rfl) (by kernel_rfl) (QOb ..) (λG hG _=>QOQ _ hT G hG) ⟨?_⟩
  refine Qh et ?_;clear et;refine QE (λb0=>?_) (λb0=>?_);refine QG ?_ ?_;rotate_left;refine QE (λb1=>?_) (λb1=>?_);refine⟨rfl,rfl,_,Qg1 d E w0 (QD l) l s.1 (Xc d l s).1,?_⟩
  rotate_left
  .exact Bool.noConfusion (h0.symm.trans b1)
  .exact Bool.noConfusion (hlen.symm.trans b0)
  all_goals first|((with_reducible show _=true);(first|(refine KG.2 ?_;repeat' first|with_reducible refine QM ?_ ?_|exact tv|with_reducible exact qRr|exact rfl|refine aI ?_ ?_)|(simp;omega)))|(repeat' first|with_reducible refine QM ?_ ?_|exact tv|with_reducible exact qRr|exact rfl|refine aI ?_ ?_)
 | false=>
  simp only[cond_false,ZO];refine K0 (E:=mkE prog (QCJ QK d w0 l Jz Ju s.1 (Xc d l s).1)) (QP hT) func103 (by kernel_rfl) (by kernel_rfl) (QQE ..) (λG hG _=>QOQ _ hT G hG) ⟨?_⟩
  refine Qh et ?_;clear et;refine QE (λb0=>?_) (λb0=>?_);refine QG ?_ ?_;rotate_left;refine QE ?_ ?_<;>intro b1
  .exact Bool.noConfusion (h0.symm.trans b1)
  refine⟨rfl,rfl,_,Qh9 d E w0 (QD l) l s.1 (Xc d l s).1,?_⟩
  rotate_left
  .exact Bool.noConfusion (hlen.symm.trans b0)
  all_goals first|((with_reducible show _=true);(first|(refine KG.2 ?_;repeat' first|with_reducible refine QM ?_ ?_|exact tv|with_reducible exact qRr|exact rfl|refine aI ?_ ?_)|(simp;omega)))|(repeat' first|with_reducible refine QM ?_ ?_|exact tv|with_reducible exact qRr|exact rfl|refine aI ?_ ?_)
theorem QTt{d:Puz}{E:ECt}{w0:List Jn}{ac body:Code}{rec:List Lay->LJ->Qi LJ}{l:List Lay}(hd:Kb d)(hE:WfE E)(hl:l.length<=1000)(hL:∀ y∈l,KJ d y)(s:LJ)(IH:∀ p,p<d.ps.n->QEm d E w0 ac body rec l p){X:List (Prop×Ex×JSt)}(hX:∀ e J,Ya d E w0 ac body rec l (0,s) e J->∃ y∈X,y.1/\y.2.1=e/\y.2.2=J)(G:Ctx)(hrd:G.rd=none)(hG:G.n=520):
  Q0 (mkE prog QV) G (faX prog (Hw d E w0 ac body (QD l) l s.1 0) X) (Qn f103):=by
 refine KO (body:=QI f103 0) (QP Qm) hrd (by kernel_rfl) ?_
 have hEnv:∀ k:Nat×LJ,(mkE prog (qM QK d l.length k.1)).Sound:=λk=>QP (Qm.add (Yf d l.length k.1));refine JG (E0:=mkE prog QV) (E:=λk:Nat×LJ=>mkE prog (qM QK d l.length k.1)) (H:=λk=>QEb prog QK d E w0 ac body (QD l) l k.2.1 k.1 (QBk d E w0 ac body rec l k.1 k.2)) (n0:=520) (s0:=(0,s)) (λ_=>rfl) hEnv (by omega) (λk _=>Qj9 hd hE hl hL k.1 k.2 (IH k.1) G hrd (by omega)) (λk _=>(by decide:520<=552)) ?_ (Qkn d E w0 ac body rec l hd.n) (Nat.zero_le _) hX
 intro k e J hr;unfold Ya at hr;split at hr<;>(rw[hr.2];exact(by decide:520<=552))
set_option maxHeartbeats 1000000 in
theorem Qj7{d:Puz}{E:ECt}{w0:List Jn}(hd:Kb d)(hE:WfE E){k:Nat}{l:List Lay}(hk:l.length+(k+1)=d.ps.n)(hL:∀ y∈l,KJ d y)(IH:∀ p,p<d.ps.n->QEm d E w0 Vi Vn (onY d E (faY d) k) l p)(s:LJ):QS prog 103 (uFC (ZO d E w0 Vi Vn l s (onY d E (faY d) (k+1) l s))):=by
 have hdn:=hd.n;have hr0:onY d E (faY d) (k+1) l s=KC (K3 d E (onY d E (faY d) k) l) (List.range d.ps.n) s:=rfl;rw[hr0];have hne:((l.length:Int)==(d.ps.n:Int))=false:=by rw[beq_eq_false_iff_ne];omega
 obtain⟨f,hq0⟩:=s;cases hc:KC (K3 d E (onY d E (faY d) k) l) (List.range d.ps.n) ⟨f,hq0⟩with
 | go s'=>
  obtain⟨f',hq1⟩:=s';simp only[ZO];have et:=QMU d E w0 (QD l) (QD l) l f True False f';refine K0 (E:=mkE prog QV) (QP Qm) func103 (by kernel_rfl) (by kernel_rfl) (QQE ..) (QTt hd hE (by omega) hL ⟨f,hq0⟩ IH (X:=[(True,.exit 0,Gx d E w0 Vi Vn (QD l) l f'),(False,.ret,faF d E w0 Vi Vn (QD l) l f')]) ?_) ⟨?_⟩
  .intro e J hr;unfold Ya at hr;simp only[List.drop_zero,hc]at hr;exact⟨_,qmc,trivial,hr.1.symm,hr.2.symm⟩
  refine Qh et ?_;clear et;refine QE ?_ ?_<;>intro b0
  .exact Bool.noConfusion (hne.symm.trans b0)
  iterate 123 refine Qt (by first|exact tv|with_reducible exact qRr|exact rfl) ?_
  refine Kq ?_ ?_;refine Qk λa0=>?_;refine Ql λg0=>?_;refine⟨rfl,rfl,_,Qio d E w0 (QD l) (QD l) l f f',?_⟩
  rotate_left
  refine Qk λa1=>?_;refine Ql λg1=>?_
  .exact a1.elim
  all_goals (repeat' first|with_reducible refine QM ?_ ?_|exact tv|with_reducible exact qRr|exact rfl|refine aI ?_ ?_)
 | stop s'=>
  obtain⟨f',hq1⟩:=s';simp only[ZO];have et:=QMU d E w0 (QD l) (QD l) l f False True f';refine K0 (E:=mkE prog QV) (QP Qm) func103 (by kernel_rfl) (by kernel_rfl) (QOb ..) (QTt hd hE (by omega) hL ⟨f,hq0⟩ IH (X:=[(False,.exit 0,Gx d E w0 Vi Vn (QD l) l f'),(True,.ret,faF d E w0 Vi Vn (QD l) l f')]) ?_) ⟨?_⟩
  .intro e J hr;unfold Ya at hr;simp only[List.drop_zero,hc]at hr;exact⟨_,List.mem_cons_of_mem _ qmc,trivial,hr.1.symm,hr.2.symm⟩
  refine Qh et ?_;clear et;refine QE ?_ ?_<;>intro b0
  .exact Bool.noConfusion (hne.symm.trans b0)
  iterate 123 refine Qt (by first|exact tv|with_reducible exact qRr|exact rfl) ?_
  refine Kq ?_ ?_;refine Qk λa0=>?_;refine Ql λg0=>?_
  .exact a0.elim
  refine Qk λa1=>?_;refine Ql λg1=>?_;refine⟨rfl,rfl,_,Qgm d E w0 (QD l) (QD l) l f f',?_⟩
  rotate_left
  all_goals (repeat' first|with_reducible refine QM ?_ ?_|exact tv|with_reducible exact qRr|exact rfl|refine aI ?_ ?_)
theorem QZc{d:Puz}{E:ECt}{w0:List Jn}(hd:Kb d)(hE:WfE E)(k:Nat):∀(l:List Lay) (s:LJ),l.length+k=d.ps.n->(∀ y∈l,KJ d y)->QS prog 103 (uFC (ZO d E w0 Vi Vn l s (onY d E (faY d) k l s))):=by
 induction k with
 | zero=>exact λl s hk hL=>QbI hd l s hk hL
 | succ k ih=>
  intro l s hk hL;refine Qj7 hd hE hk hL ?_ s;intro p hp t ht s;exact ih _ s (QC6 l _ hk) (QEa hp ht hL)
def X9(U:UC):Tab:=Qc (Qc (Qc QV 60 (KT pb (nbU d E))) 89 (KT pb (joU d 0 E 1 w0))) 103 (KT pb U)
def QCr(e:Int):AV := .tup [.slz 0 0 f.length (.of 0),.int false .i64 e]
def Gp:List (Nat×Blk):=[rwJ true 0 f]
abbrev QOj:List Prop:=(waa d++([cO=cO]++wad d))
abbrev QSM(d:Puz):List Prop:=([0=0,0=0,(1:Int)=1]++waa d++([cO=cO,0=0]++wad d++[E.1=E.1,E.2=E.2]))
abbrev QRO(d:Puz)(u:Nat->Nat->Int)(w0:List Jn):List Prop:=((wbN)++waa d++(([cO=cO,0=0,E.1=E.1,E.2=E.2,0=0]++wbo d++[QB 1 d.ps.n (λx x_1=>(0:Int)) u])++wai++[Array.mk [24]=Array.mk [24],(QQ f43 0).1=(QQ f43 0).1,(QQ f43 0).2=(QQ f43 0).2])++waa d++(wb8++[0=0,(0:Int)=0])++waa d++(((wcf)++wa6++(([0=0,0=0,0=0,w0.length=w0.length,cO=cO,0=0,0=0,Fn.func 91=Fn.func 91,0=0,0=0,0=0,0=0]++wcg++[0=0,w0.length=w0.length,cO=cO,w0.length<=w0.length,QB 4 w0.length (λi=>QA.enc (w0.getD i (Jn.mk (0:Int) (0:Int) (0:Int) (0:Int)))) λi=>QA.enc (w0.getD i (Jn.mk (0:Int) (0:Int) (0:Int) (0:Int))),Fn.func 103=Fn.func 103])++wbN++[0=0,0=0,Fn.func 91=Fn.func 91,0=0,0=0]))++wad d))
abbrev QS3:List (Nat×Blk):=[(514,.rowz true 67 (List.append (waJ) ([.int .i64])) f'.length λi=>QA.enc (f'.getD i (Jn.mk (0:Int) (0:Int) (0:Int) (0:Int))))]
theorem QMo(f':List Jn):Kg (mkE prog (X9 pb d E w0 (faU d E w0 (QQ f43 0).1 (QQ f43 0).2 u [] w0 f'))) (hnd (mkE prog (X9 pb d E w0 (faU d E w0 (QQ f43 0).1 (QQ f43 0).2 u [] w0 f'))) 8) f43 (QZ.vals 0 ((d,()):Puz×Unit)) (QZ.blks 0 ((d,()):Puz×Unit)) 112 = .need (decide (d.ps.n<=d.ps.n)&&true&&decide (d.ps.n<=1000)) (.br (!d.ok) (.leaf (.tup [.nils,vj 1]) ([])) (.need (pb ((QOj d))) (.need (pb ((QSM E d))) (.need (decide ((d.ps.n:Int)=(d.ps.n:Int))&&decide ((0:Int)<=(d.ps.n:Int)/\(d.ps.n:Int)<=17179869184)) (.need (pb ((QRO E d u w0))) (.leaf (.tup [.slz 514 0 f'.length cO,vj 0]) ((QS3 f')))))))):=by kernel_rfl
theorem Qcr(f':List Jn):Kg (mkE prog (X9 pb d E w0 (faV d E w0 (QQ f43 0).1 (QQ f43 0).2 u [] w0 f'))) (hnd (mkE prog (X9 pb d E w0 (faV d E w0 (QQ f43 0).1 (QQ f43 0).2 u [] w0 f'))) 8) f43 (QZ.vals 0 ((d,()):Puz×Unit)) (QZ.blks 0 ((d,()):Puz×Unit)) 112 = .need (decide (d.ps.n<=d.ps.n)&&true&&decide (d.ps.n<=1000)) (.br (!d.ok) (.leaf (.tup [.nils,vj 1]) ([])) (.need (pb ((QOj d))) (.need (pb ((QSM E d))) (.need (decide ((d.ps.n:Int)=(d.ps.n:Int))&&decide ((0:Int)<=(d.ps.n:Int)/\(d.ps.n:Int)<=17179869184)) (.need (pb ((QRO E d u w0))) (.leaf (.tup [.slz 514 0 f'.length cO,vj 0]) ((QS3 f')))))))):=by kernel_rfl
theorem QlQ(e:Int):QF 112 [(AV.tup [AV.nils,vj (1:Int)])] ([]) (Kk 112 (QCr f e) (Gp f))=( some [f.length=(0:Nat),(1:Int)=e,f.length=(0:Nat)]):=by kernel_rfl
abbrev wbC(f:List Jn)(f':List Jn):List Prop:=[f.length<=f'.length,QB (4:Nat) f.length (λi=>QA.enc (f'.getD i (Jn.mk (0:Int) (0:Int) (0:Int) (0:Int)))) λi=>QA.enc (f.getD i (Jn.mk (0:Int) (0:Int) (0:Int) (0:Int)))]
theorem QfV(e:Int):QF 112 [(AV.tup [AV.slz (514:Nat) (0:Nat) f'.length cO,vj (0:Int)])] ([((514:Nat),Blk.rowz true (67:Nat) [CK.int i64,CK.int i64,CK.int i64,CK.int i64] f'.length λi=>QA.enc (f'.getD i (Jn.mk (0:Int) (0:Int) (0:Int) (0:Int))))]) (Kk 112 (QCr f e) (Gp f))=( some ([0=0,f'.length=f.length,cO=cO,(0:Int)=e]++wbC f f')):=by kernel_rfl
theorem QcI(e:Int):QF 112 [(AV.tup [AV.slz (514:Nat) (0:Nat) f'.length cO,vj (0:Int)])] ([((514:Nat),Blk.rowz true (67:Nat) [CK.int i64,CK.int i64,CK.int i64,CK.int i64] f'.length λi=>QA.enc (f'.getD i (Jn.mk (0:Int) (0:Int) (0:Int) (0:Int))))]) (Kk 112 (QCr f e) (Gp f))=( some ([0=0,f'.length=f.length,cO=cO,(0:Int)=e]++wbC f f')):=by kernel_rfl
theorem QUE{α β:Type}(g:α->List β)(h:∀ x,(g x).length<=1):∀ l:List α,(l.flatMap g).length<=l.length
 | []=>qlr _
 | x::l=>by
  have h1:=h x;have h2:=QUE g h l;rw[List.flatMap_cons,List.length_append,List.length_cons];omega
def w0Z:LJ:=if h:(Jd (VR (QH d) 1)).length<=1000000000 then ⟨_,h⟩else ⟨[],by decide⟩
theorem QZE{d:Puz}(hn:d.ps.n<=1000):(w0Z d).1=Jd (VR (QH d) 1):=by
 have h1:(Jd (VR (QH d) 1)).length<=1000000000:=by
  rw[QCM];have:=QUE (Vh 1) (QOs 1) (QH d).1;have h2:=(qH d hn).l;unfold VR;omega
 unfold w0Z;rw[dif_pos h1]
def Y5:List Jn×Int:=cond d.ok ((match onY d (QH d) (faY d) d.ps.n [] (w0Z d)with | .go s | .stop s=>s.1),0) ([],1)
def YB:WF (Puz×Unit):=λ|(d,_)=>(decide (d.ps.n<=1000),QCr (Y5 d).1 (Y5 d).2,Gp (Y5 d).1)
def Qcx:FC:=wFC YB
theorem QIB:WOk (YB (d,())).2.1 (YB (d,())).2.2:=⟨rfl,by simp[YB,Gp,rwJ,Blk.own,Blk.all],rfl⟩
theorem Qky(hn:d.ps.n<=1000)(hx:d.ok=false):QS prog 43 (wFC (Vl YB (d,()))):=by
 have hT:Qf (X9 (λ_=>false) d (QH d) [] (faU d (QH d) [] Vi Vn (QD []) [] [] [])):=((Qm.add (Jx (by kernel_rfl) _)).add (Jx (by kernel_rfl) _)).add (Jx (by kernel_rfl) _)
 have hv:Y5 d=([],1):=by simp only[Y5,hx,cond_false]
 refine ZX (c:=Qn f43) (E:=mkE prog (X9 (λ_=>false) d (QH d) [] (faU d (QH d) [] Vi Vn (QD []) [] [] []))) (H:=hnd (mkE prog (X9 (λ_=>false) d (QH d) [] (faU d (QH d) [] Vi Vn (QD []) [] [] []))) 8) (QP hT) func43 (by kernel_rfl) (by kernel_rfl) (N:=112) (by decide) (d,()) (λG h1 _=>Qz (QP hT) 8 G _ h1) (QIB d) ?_
 refine Qh (QMo (λ_=>false) d (QH d) [] (QD []) []) ?_;refine QG (by simp;omega) (QE (λ_=>?_) (λh=>by rw[hx]at h;cases h))
 simp only[YB,hv];refine⟨rfl,rfl,_,QlQ [] 1,?_⟩
 repeat' first|with_reducible refine QM ?_ ?_|exact tv|with_reducible exact qRr|exact rfl|refine aI ?_ ?_
theorem QYd(hx:d.ok=true):QS prog 43 (wFC (Vl YB (d,()))):=by
 have hd:=(JW (JU hx)).1;have hdn:=hd.n;have hO:=qH d hdn;have hon:=QZc (w0:=(w0Z d).1) hd hO.w d.ps.n [] (w0Z d) (by simp) (λc hc=>by cases hc)
 have hjo:QS prog 89 (uFC (joU d 0 (QH d) 1 (w0Z d).1)):=by
  rw[QZE hdn];exact QfL d 0 (QH d) 1 hO.w hO.m (Nat.le_trans hO.l (by decide))
 have hz:∀ k,QB 1 k (λ_ _=>0) (QD []):=λk i _=>⟨rfl,trivial⟩;cases he:onY d (QH d) (faY d) d.ps.n [] (w0Z d)with
 | go s=>
  rw[he]at hon;have hT:Qf (X9 QK d (QH d) (w0Z d).1 (faU d (QH d) (w0Z d).1 Vi Vn (QD []) [] (w0Z d).1 s.1)):=((Qm.add (qC d (by omega))).add hjo).add hon
  have hv:Y5 d=(s.1,0):=by
   simp only[Y5,hx,he,cond_true]
  refine ZX (c:=Qn f43) (E:=mkE prog (X9 QK d (QH d) (w0Z d).1 (faU d (QH d) (w0Z d).1 Vi Vn (QD []) [] (w0Z d).1 s.1))) (H:=hnd (mkE prog (X9 QK d (QH d) (w0Z d).1 (faU d (QH d) (w0Z d).1 Vi Vn (QD []) [] (w0Z d).1 s.1))) 8) (QP hT) func43 (by kernel_rfl) (by kernel_rfl) (N:=112) (by decide) (d,()) (λG h1 _=>Qz (QP hT) 8 G _ h1) (QIB d) ?_
  have et:=QMo QK d (QH d) (w0Z d).1 (QD []) s.1;refine Qh et ?_;clear et;refine QG ?_ ?_;rotate_left;refine QE ?_ ?_<;>intro b0
  .rw[hx]at b0;cases b0
  iterate 4 (refine QG ?_ ?_;rotate_left)
  simp only[YB,hv];refine⟨rfl,rfl,_,QfV s.1 s.1 0,?_⟩
  rotate_left
  all_goals first|((with_reducible show _=true);(first|(refine KG.2 ?_;repeat' first|with_reducible refine QM ?_ ?_|exact tv|with_reducible exact qRr|with_reducible exact hz _|exact rfl|refine aI ?_ ?_)|(simp;omega)))|(repeat' first|with_reducible refine QM ?_ ?_|exact tv|with_reducible exact qRr|exact rfl|refine aI ?_ ?_)
 | stop s=>
  rw[he]at hon;have hT:Qf (X9 QK d (QH d) (w0Z d).1 (faV d (QH d) (w0Z d).1 Vi Vn (QD []) [] (w0Z d).1 s.1)):=((Qm.add (qC d (by omega))).add hjo).add hon
  have hv:Y5 d=(s.1,0):=by
   simp only[Y5,hx,he,cond_true]
  refine ZX (c:=Qn f43) (E:=mkE prog (X9 QK d (QH d) (w0Z d).1 (faV d (QH d) (w0Z d).1 Vi Vn (QD []) [] (w0Z d).1 s.1))) (H:=hnd (mkE prog (X9 QK d (QH d) (w0Z d).1 (faV d (QH d) (w0Z d).1 Vi Vn (QD []) [] (w0Z d).1 s.1))) 8) (QP hT) func43 (by kernel_rfl) (by kernel_rfl) (N:=112) (by decide) (d,()) (λG h1 _=>Qz (QP hT) 8 G _ h1) (QIB d) ?_
  have et:=Qcr QK d (QH d) (w0Z d).1 (QD []) s.1;refine Qh et ?_;clear et;refine QG ?_ ?_;rotate_left;refine QE ?_ ?_<;>intro b0
  .rw[hx]at b0;cases b0
  iterate 4 (refine QG ?_ ?_;rotate_left)
  simp only[YB,hv];refine⟨rfl,rfl,_,QcI s.1 s.1 0,?_⟩
  rotate_left
  all_goals first|((with_reducible show _=true);(first|(refine KG.2 ?_;repeat' first|with_reducible refine QM ?_ ?_|exact tv|with_reducible exact qRr|with_reducible exact hz _|exact rfl|refine aI ?_ ?_)|(simp;omega)))|(repeat' first|with_reducible refine QM ?_ ?_|exact tv|with_reducible exact qRr|exact rfl|refine aI ?_ ?_)
theorem Qbz(hx:(YB (d,())).1=true):QS prog 43 (wFC (Vl YB (d,()))):=by
 have hn:d.ps.n<=1000:=qdt hx;cases ho:d.ok with
 | false=>exact Qky d hn ho
 | true=>exact QYd d ho
theorem QZD:QS prog 43 Qcx:=QCx (by kernel_rfl) λ|(d,()),hx=>Qbz d hx
