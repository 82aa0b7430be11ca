/- - -/
import Derived.Test.YtekbmehgcofnkaaGreatMzi
import Derived.Test.YtekbmehgcofnkaaGreatMzh
open Go.Proofs.Tryz
open Go.IntKind (i64)
set_option maxRecDepth 100000
namespace Go.Proofs.YtekbmehgcofnkaaGreat
open Go.SX Go.SX.Told
noncomputable abbrev Js:Code:=(Qp f43).1
noncomputable abbrev Jt:Code:=(Qp f43).2
variable {e:MapEntry}(pb:List Prop->Bool)(d:Puz)(E:ECt)(l:List Lay)(w0:List Jn)(c:Nat)(f' f:List Jn)(M:ECt)(u:Nat->Nat->Int)
def Xh(s o:Int):Jn:=cond (decide ((l.getD o.toNat ⟨0,0⟩:Lay).piece<(l.getD c ⟨0,0⟩:Lay).piece))
 ⟨(l.getD o.toNat ⟨0,0⟩:Lay).piece,onS (l.getD o.toNat ⟨0,0⟩) ((i64.wrap (s+2)).tmod 4),(l.getD c ⟨0,0⟩:Lay).piece,onS (l.getD c ⟨0,0⟩) s⟩
 ⟨(l.getD c ⟨0,0⟩:Lay).piece,onS (l.getD c ⟨0,0⟩) s,(l.getD o.toNat ⟨0,0⟩:Lay).piece,onS (l.getD o.toNat ⟨0,0⟩) ((i64.wrap (s+2)).tmod 4)⟩
def VW(e:MapEntry):Option Jn:=cond ((QS e 0==1&&((intV e.val).tmod d.wide==0))||decide (intV e.val≥(l.length:Int))) none (some (Xh l c (QS e 0) (intV e.val)))
def Gn(e:MapEntry)(y:Jn):Bool:=match VW d l c e with
 | some j=>eqJ j y
 | none=>false
def QBv(b:Nat)(y:Jn):Bool:=match M.1.find? (·.born==b)with
 | some e=>Gn d l c e y
 | none=>false
def Km(S:List Nat)(f:List Jn):List Jn:=f.filter λy=>!S.any λb=>QBv d l c M b y
def jI(e:MapEntry)(f:List Jn):List Jn:=f.filter λy=>!Gn d l c e y
theorem QGb{d:Puz}{l:List Lay}{c:Nat}{f:List Jn}(h:VW d l c e=none):jI d l c e f=f:=by
 unfold jI;rw[List.filter_eq_self];intro y _;unfold Gn;rw[h];rfl
theorem QEY{d:Puz}{l:List Lay}{c:Nat}{f:List Jn}{j:Jn}(h:VW d l c e=some j):jI d l c e f=J7 j f:=by
 unfold jI J7 Gn;rw[h]
structure QDk (M:ECt):Prop where
 wf:wf1 .i64 .i64 M.1=true
 born:(M.1.map (·.born)).Nodup
 low:∀ e∈M.1,e.born<M.2
 key:∀ e∈M.1,0<=QS e 0/\QS e 0<=2
 val:∀ e∈M.1,0<=intV e.val
theorem QjV{M:ECt}(hM:QDk M)(d:Puz)(l:List Lay)(c:Nat)(S:List Nat)(f:List Jn)(he:e∈M.1):Km d l c M (S++[e.born]) f=jI d l c e (Km d l c M S f):=by
 unfold Km jI;rw[List.filter_filter];congr 1;funext y
 have h1:QBv d l c M e.born y=Gn d l c e y:=by
  unfold QBv;rw[jO hM.born he]
 rw[List.any_append];simp only[List.any_cons,List.any_nil,Bool.or_false,h1,Bool.not_or,Bool.and_comm]
theorem Qbv(S:List Nat)(f:List Jn):(Km d l c M S f).length<=f.length:=List.length_filter_le _ _
noncomputable def Hn(P:Program)(d:Puz)(l:List Lay)(c:Nat)(M:ECt)(f0:List Jn)(S:List Nat):Env:=mkE P (QGF QQ (Km d l c M S f0) λx=>J7 x (Km d l c M S f0))
theorem Qdh(f0:List Jn)(hf:f0.length<=1000000000)(S:List Nat):(Hn prog d l c M f0 S).Sound:=
 QO (Qh.add (QY7 λx=>QeS (Km d l c M S f0) x (Nat.le_trans (Qbv ..) hf)))
def QcZ(l:List Lay)(c:Nat)(M:ECt)(f0:List Jn)(_:List Nat)(e:Ex)(J:JSt):Prop:=e = .exit 2/\∃ T,XW M.1 T/\Y7 M.1 T/\J=mlE d w0 l Js Jt c (Km d l c M T f0)
set_option maxHeartbeats 1000000 in
theorem Qgl(l:List Lay)(c:Nat)(M:ECt)(f0:List Jn)(hM:QDk M)(hw:d.wide≠0)(hcl:c<l.length)(hll:l.length<=1000)(ht:∀ i,i<l.length->0<=(l.getD i ⟨0,0⟩:Lay).turn/\(l.getD i ⟨0,0⟩:Lay).turn<=3):JW (λS=>mlJ d w0 l Js Jt M S c (Km d l c M S f0)) (XW M.1) (λS=>M.1.length-S.length) (QcZ d w0 l c M f0) 752 QQo [729,296,200] (Hn prog d l c M f0) (λS=>hnd (Hn prog d l c M f0 S) 3) (QU (QH f133 0)):=by
 refine⟨λS g hS=>?_⟩;have hS:XW M.1 S:=hS;unfold Hn;have et:=QZS QQ d w0 l M S c (Km d l c M S f0) (λx=>J7 x (Km d l c M S f0)) g;refine Qf et ?_;clear et;refine Qu ⟨hM.low,qlr _⟩ (Kh (Qg λha=>?_) (Qj λg0=>Qg λho=>?_))
 .refine⟨_,⟨rfl,S,hS,ha,rfl⟩,rfl,rfl,_,QVv d w0 l c (Km d l c M S f0),?_⟩
  repeat' first|with_reducible refine QL ?_ ?_|exact tv|exact Nat.le_refl _|with_reducible exact qRr|exact qRr|exact rfl|refine aI ?_ ?_
 .obtain⟨hj,hn⟩:=ho;have hm:=QOP hj;obtain⟨hc,hh⟩:=QTl hM.born S hm;have hS':=QVE hS hm hn;have hlen:=QE0 hS';rw[List.length_append,List.length_singleton]at hlen;have hmu:M.1.length-(S++[(M.1.getD (nxI g0) noE).born]).length<M.1.length-S.length:=by rw[List.length_append,List.length_singleton];omega
  have hc:QJ M.1 (S++[(M.1.getD (nxI g0) noE).3])=M.1.getD (nxI g0) noE:=hc;have hh:Xl M.1 (S++[(M.1.getD (nxI g0) noE).3])=true:=hh;have hwf:=hM.wf;obtain⟨e,hec⟩:∃ e,QJ M.1 (S++[(M.1.getD (nxI g0) noE).3])=e:=⟨_,rfl⟩;have hee:M.1.getD (nxI g0) noE=e:=hc.symm.trans hec;have hl:Km d l c M (S++[(M.1.getD (nxI g0) noE).born]) f0=jI d l c e (Km d l c M S f0):=by rw[<-hee];exact QjV hM d l c S f0 hm
  have hk:0<=QS e 0/\QS e 0<=2:=by rw[<-hee];exact hM.key _ hm
  have hv:0<=intV e.val:=by rw[<-hee];exact hM.val _ hm
  have hmod:0<=(i64.wrap (QS e 0+2)).tmod 4/\(i64.wrap (QS e 0+2)).tmod 4<=3:=by
   rw[w64 (by omega) (by omega)]
   have h1:=Int.tmod_nonneg 4 (show(0:Int)<=QS e 0+2 by omega)
   have h2:=Int.tmod_lt_of_pos (QS e 0+2) (show(0:Int)<4 by decide)
   omega
  refine QG (by rw[hh,hwf];simp) ?_
  refine QE (λb1=>QG (by simp;omega) (QE (λb2=>?_) (λb2=>?_))) (λb1=>?_)
  .rw[hec]at b1 b2;have hE:VW d l c e=none:=by unfold VW;rw[b1,show((intV e.val).tmod d.wide==0)=true from b2];rfl
   rw[QGb hE]at hl;refine⟨_,hS',hmu,λ_ _ r=>r,?_⟩;show JZ 752 _ _ _ _ (mlJ d w0 l Js Jt M (S++[(M.1.getD (nxI g0) noE).born]) c (Km d l c M (S++[(M.1.getD (nxI g0) noE).born]) f0));rw[hl];refine⟨rfl,rfl,_,QYg d w0 l M S (S++[(M.1.getD (nxI g0) noE).born]) c (Km d l c M S f0) g0,?_⟩
   repeat' first|with_reducible refine QL ?_ ?_|exact tv|exact Nat.le_refl _|with_reducible exact qRr|exact qRr|exact rfl|refine aI ?_ ?_
  .have hk0:(QS e 0==1&&((intV e.val).tmod d.wide==0))=false:=by rw[hec]at b2;rw[show((intV e.val).tmod d.wide==0)=false from b2,Bool.and_false]
   refine QE (λb3=>?_) (λb3=>QG ?_ (QG ?_ (QG ?_ (QG ?_ (QG ?_ (QG ?_ (QE (λb4=>QG ?_ ?_) (λb4=>QG ?_ ?_))))))))
   .rw[hec]at b3;have hE:VW d l c e=none:=by unfold VW;rw[hk0,show decide (intV e.val≥(l.length:Int))=true from b3];rfl
    rw[QGb hE]at hl;refine⟨_,hS',hmu,λ_ _ r=>r,?_⟩;show JZ 752 _ _ _ _ (mlJ d w0 l Js Jt M (S++[(M.1.getD (nxI g0) noE).born]) c (Km d l c M (S++[(M.1.getD (nxI g0) noE).born]) f0));rw[hl];refine⟨rfl,rfl,_,QiZ d w0 l M S (S++[(M.1.getD (nxI g0) noE).born]) c (Km d l c M S f0) g0,?_⟩
    repeat' first|with_reducible refine QL ?_ ?_|exact tv|exact Nat.le_refl _|with_reducible exact qRr|exact qRr|exact rfl|refine aI ?_ ?_
   .simp;omega
   .simp;omega
   .rw[hec];simp only[Bool.true_and,qdE];exact⟨ht c hcl,hk.1,by omega⟩
   .rw[hec]at b3 ⊢;have:=qdf b3;simp;omega
   .rw[hec]at b3 ⊢;have:=qdf b3;simp;omega
   .rw[hec]at b3 ⊢;have:=qdf b3;simp only[Bool.true_and,qdE];exact⟨ht _ (by omega),hmod⟩
   .refine KI.2 ?_
    repeat' first|with_reducible refine QL ?_ ?_|exact tv|exact Nat.le_refl _|with_reducible exact qRr|exact qRr|exact rfl|refine aI ?_ ?_
   .rw[hec]at b3 b4;have hE:VW d l c e=some (Xh l c (QS e 0) (intV e.val)):=by unfold VW;rw[hk0,show decide (intV e.val≥(l.length:Int))=false from b3];rfl
    have hJ:Xh l c (QS e 0) (intV e.val)=⟨(l.getD (intV e.val).toNat ⟨0,0⟩:Lay).piece,onS (l.getD (intV e.val).toNat ⟨0,0⟩) ((i64.wrap (QS e 0+2)).tmod 4),(l.getD c ⟨0,0⟩:Lay).piece,onS (l.getD c ⟨0,0⟩) (QS e 0)⟩:=by unfold Xh;rw[show decide ((l.getD (intV e.val).toNat ⟨0,0⟩:Lay).piece<(l.getD c ⟨0,0⟩:Lay).piece)=true from b4];rfl
    rw[QEY hE,hJ]at hl;refine⟨_,hS',hmu,λ_ _ r=>r,rfl,rfl,_,QVa d w0 l M S (S++[(M.1.getD (nxI g0) noE).born]) c (Km d l c M S f0) (Km d l c M (S++[(M.1.getD (nxI g0) noE).born]) f0) (λx=>J7 x (Km d l c M S f0)) g0,?_⟩;rw[hl];subst hec
    repeat' first|with_reducible refine QL ?_ ?_|exact tv|exact Nat.le_refl _|with_reducible exact qRr|exact qRr|exact rfl|refine aI ?_ ?_
   .refine KI.2 ?_
    repeat' first|with_reducible refine QL ?_ ?_|exact tv|exact Nat.le_refl _|with_reducible exact qRr|exact qRr|exact rfl|refine aI ?_ ?_
   .rw[hec]at b3 b4;have hE:VW d l c e=some (Xh l c (QS e 0) (intV e.val)):=by unfold VW;rw[hk0,show decide (intV e.val≥(l.length:Int))=false from b3];rfl
    have hJ:Xh l c (QS e 0) (intV e.val)=⟨(l.getD c ⟨0,0⟩:Lay).piece,onS (l.getD c ⟨0,0⟩) (QS e 0),(l.getD (intV e.val).toNat ⟨0,0⟩:Lay).piece,onS (l.getD (intV e.val).toNat ⟨0,0⟩) ((i64.wrap (QS e 0+2)).tmod 4)⟩:=by unfold Xh;rw[show decide ((l.getD (intV e.val).toNat ⟨0,0⟩:Lay).piece<(l.getD c ⟨0,0⟩:Lay).piece)=false from b4];rfl
    rw[QEY hE,hJ]at hl;refine⟨_,hS',hmu,λ_ _ r=>r,rfl,rfl,_,QXM d w0 l M S (S++[(M.1.getD (nxI g0) noE).born]) c (Km d l c M S f0) (Km d l c M (S++[(M.1.getD (nxI g0) noE).born]) f0) (λx=>J7 x (Km d l c M S f0)) g0,?_⟩;rw[hl];subst hec
    repeat' first|with_reducible refine QL ?_ ?_|exact tv|exact Nat.le_refl _|with_reducible exact qRr|exact qRr|exact rfl|refine aI ?_ ?_
  .have hk0:(QS e 0==1&&((intV e.val).tmod d.wide==0))=false:=by rw[hec]at b1;rw[b1,Bool.false_and]
   refine QE (λb3=>?_) (λb3=>QG ?_ (QG ?_ (QG ?_ (QG ?_ (QG ?_ (QG ?_ (QE (λb4=>QG ?_ ?_) (λb4=>QG ?_ ?_))))))))
   .rw[hec]at b3;have hE:VW d l c e=none:=by unfold VW;rw[hk0,show decide (intV e.val≥(l.length:Int))=true from b3];rfl
    rw[QGb hE]at hl;refine⟨_,hS',hmu,λ_ _ r=>r,?_⟩;show JZ 752 _ _ _ _ (mlJ d w0 l Js Jt M (S++[(M.1.getD (nxI g0) noE).born]) c (Km d l c M (S++[(M.1.getD (nxI g0) noE).born]) f0));rw[hl];refine⟨rfl,rfl,_,QVy d w0 l M S (S++[(M.1.getD (nxI g0) noE).born]) c (Km d l c M S f0) g0,?_⟩
    repeat' first|with_reducible refine QL ?_ ?_|exact tv|exact Nat.le_refl _|with_reducible exact qRr|exact qRr|exact rfl|refine aI ?_ ?_
   .simp;omega
   .simp;omega
   .rw[hec];simp only[Bool.true_and,qdE];exact⟨ht c hcl,hk.1,by omega⟩
   .rw[hec]at b3 ⊢;have:=qdf b3;simp;omega
   .rw[hec]at b3 ⊢;have:=qdf b3;simp;omega
   .rw[hec]at b3 ⊢;have:=qdf b3;simp only[Bool.true_and,qdE];exact⟨ht _ (by omega),hmod⟩
   .refine KI.2 ?_
    repeat' first|with_reducible refine QL ?_ ?_|exact tv|exact Nat.le_refl _|with_reducible exact qRr|exact qRr|exact rfl|refine aI ?_ ?_
   .rw[hec]at b3 b4;have hE:VW d l c e=some (Xh l c (QS e 0) (intV e.val)):=by unfold VW;rw[hk0,show decide (intV e.val≥(l.length:Int))=false from b3];rfl
    have hJ:Xh l c (QS e 0) (intV e.val)=⟨(l.getD (intV e.val).toNat ⟨0,0⟩:Lay).piece,onS (l.getD (intV e.val).toNat ⟨0,0⟩) ((i64.wrap (QS e 0+2)).tmod 4),(l.getD c ⟨0,0⟩:Lay).piece,onS (l.getD c ⟨0,0⟩) (QS e 0)⟩:=by unfold Xh;rw[show decide ((l.getD (intV e.val).toNat ⟨0,0⟩:Lay).piece<(l.getD c ⟨0,0⟩:Lay).piece)=true from b4];rfl
    rw[QEY hE,hJ]at hl;refine⟨_,hS',hmu,λ_ _ r=>r,rfl,rfl,_,Qgj d w0 l M S (S++[(M.1.getD (nxI g0) noE).born]) c (Km d l c M S f0) (Km d l c M (S++[(M.1.getD (nxI g0) noE).born]) f0) (λx=>J7 x (Km d l c M S f0)) g0,?_⟩;rw[hl];subst hec
    repeat' first|with_reducible refine QL ?_ ?_|exact tv|exact Nat.le_refl _|with_reducible exact qRr|exact qRr|exact rfl|refine aI ?_ ?_
   .refine KI.2 ?_
    repeat' first|with_reducible refine QL ?_ ?_|exact tv|exact Nat.le_refl _|with_reducible exact qRr|exact qRr|exact rfl|refine aI ?_ ?_
   .rw[hec]at b3 b4;have hE:VW d l c e=some (Xh l c (QS e 0) (intV e.val)):=by unfold VW;rw[hk0,show decide (intV e.val≥(l.length:Int))=false from b3];rfl
    have hJ:Xh l c (QS e 0) (intV e.val)=⟨(l.getD c ⟨0,0⟩:Lay).piece,onS (l.getD c ⟨0,0⟩) (QS e 0),(l.getD (intV e.val).toNat ⟨0,0⟩:Lay).piece,onS (l.getD (intV e.val).toNat ⟨0,0⟩) ((i64.wrap (QS e 0+2)).tmod 4)⟩:=by unfold Xh;rw[show decide ((l.getD (intV e.val).toNat ⟨0,0⟩:Lay).piece<(l.getD c ⟨0,0⟩:Lay).piece)=false from b4];rfl
    rw[QEY hE,hJ]at hl;refine⟨_,hS',hmu,λ_ _ r=>r,rfl,rfl,_,QVm d w0 l M S (S++[(M.1.getD (nxI g0) noE).born]) c (Km d l c M S f0) (Km d l c M (S++[(M.1.getD (nxI g0) noE).born]) f0) (λx=>J7 x (Km d l c M S f0)) g0,?_⟩;rw[hl];subst hec
    repeat' first|with_reducible refine QL ?_ ?_|exact tv|exact Nat.le_refl _|with_reducible exact qRr|exact qRr|exact rfl|refine aI ?_ ?_
def VD:ECt:=([{ key := .int .i64 1,val := .int .i64 (i64.wrap ((c:Int)+1)),born:=0 },{ key := .int .i64 2,val := .int .i64 (i64.wrap ((c:Int)+d.wide)),born:=1 }],2)
def moE(l:List Lay)(ac body:Code)(f:List Jn):JSt:=⟨83,[],mtW d w0 l ac body 776 f,784⟩
def QUh:Ex->List Nat
 | .normal=>[0,1,2,9,10,11]
 | _=>[]
abbrev moH(P:Program)(d:Puz)(w0:List Jn)(l:List Lay)(ac body:Code)(M:ECt)(S0:List Nat)(c:Nat)(f:List Jn)(X:List (Prop×Ex×JSt)):Hnd:={ hnd (mkE P QT) 3 with loop:=λ_=>JT (c<l.length) (KC 752 [729,296,200] (mlJ d w0 l ac body M S0 c f) X) }
noncomputable abbrev QFH:Nat×Blk:=
  (729,.lp LoopState.ready none (mtT d w0 l) (Array.mk [28]) (Qp f43).1 (Qp f43).2)
noncomputable abbrev QH8:Nat×Blk:=
  (296,.cells 0 64 [.slz 776 0 f'.length cO])
noncomputable abbrev QT0:Nat×Blk:=
  (200,.cellsR 0 152 (List.append (waf d) ([.map 201,.slz 496 0 l.length cO])))
noncomputable abbrev QRN:Nat×Blk:=
  (0,.frz (wae) d.ps.n λi=>QA.enc (d.ps.get i))
noncomputable abbrev QJm:Nat×Blk:=
  (776,.rowz true 67 (waH) f'.length λi=>QA.enc (f'.getD i (Jn.mk (0:Int) (0:Int) (0:Int) (0:Int))))
noncomputable abbrev QN8(l:List Lay)(w0:List Jn):List (Nat×Blk):=
  [(QFH d l w0),(QH8 f'),(QT0 d l),(696,.cellsR 0 42 [.slz 496 0 l.length cO]),(688,.cellsR 0 90 [.ptr 200 0 0]),(496,.frz kB l.length λi=>
  QA.enc (l.getD i (Lay.mk (0:Int) (0:Int)))),(QRN d),(QJm f')]
noncomputable abbrev QRd(l:List Lay)(w0:List Jn):List (Nat×Blk):=
  [(QFH d l w0),(296,.cells 0 64 [.slz 776 0 f.length cO]),(QT0 d l),(QRN d),(496,.frz kB l.length λi=>QA.enc (l.getD i (Lay.mk (0:Int)
  (0:Int)))),(696,.cellsR 0 42 [.slz 496 0 l.length cO]),(688,.cellsR 0 90 [.ptr 200 0 0]),(776,.rowz true 67 (waH) f.length fun
  i=>QA.enc (f.getD i (Jn.mk (0:Int) (0:Int) (0:Int) (0:Int))))]
theorem QhH(l:List Lay)(M:ECt)(S0:List Nat)(c:Nat)(f f':List Jn)(g:Nat->Value):exec (mkE prog QT) (moH prog d w0 l (Qp f43).1 (Qp f43).2 M S0 c f [(True,.exit 2,mlE d w0 l (Qp f43).1 (Qp f43).2 c f')]) (QH f133 0) (JSt.inst (mlE d w0 l (Qp f43).1 (Qp f43).2 c f) g) (Q9 [729,296,200] QUh) = .br (decide ((c:Int)<(l.length:Int))) (.ak (((([c<l.length,0=0,0=0]++wbU l)++wbD c l++[784+8+8+8=808,0=0,2=M.2,[]=S0,2=M.2,[]++[MapEntry.mk (Value.int i64 1) (Value.int i64 (i64.wrap ((c:Int)+1))) 0]++[MapEntry.mk (Value.int i64 2) (Value.int i64 (i64.wrap ((c:Int)+d.wide))) 1]=M.1,2=M.2])++wai++[Array.mk [(28:Tmp)]=Array.mk [(28:Tmp)],(Qp f43).1=(Qp f43).1,(Qp f43).2=(Qp f43).2])++waa d++(wbQ++(wbY l))++waa d++(((waB l w0++[0=0,f.length=f.length,cO=cO])++wah f++[0=0,l.length=l.length,cO=cO,0=0,0=0])++wag l)++waa d++([cO=cO,0=0,l.length=l.length,cO=cO]++wad d)) (.asm (True) (.all (λ(g0:Nat->Value)=>.leaf (.tup (.nilp::.ptr 83 0 0::.yld 729::List.append (wa6 l) ([vi (i64.wrap ((c:Int)+1))]))) ((QN8 d f' l w0)))))) (.leaf (.tup [.ptr 0 0 0,.ptr 83 0 0]) ((QRd d f l w0))):=by kernel_rfl
abbrev QGc:List Prop:=
  ((wai++(wa4))++waa d++(((wbQ++(wbY l))++wbJ d)++waC d))
abbrev QIk:List Prop:=
  (waB l w0)
abbrev QQU:List Prop:=
  ([0=0,f'.length=f'.length,cO=cO]++way f')
theorem QY9(l:List Lay)(c c':Nat)(f':List Jn):QF 752 (.yld 729::List.append (wa6 l) ([vi (i64.wrap ((c:Int)+1))])) ((QN8 d f' l w0)) (mlE d w0 l (Qp f43).1 (Qp f43).2 c' f')=(some (([0=0,0=0]++wbU l++[(l.length:Int)=(l.length:Int),i64.wrap ((c:Int)+1)=(c':Int)])++(QGc d l)++[0=0,d.ps.n=d.ps.n]++(QIk l w0)++(QQU f')++(([0=0,l.length=l.length,cO=cO,0=0,0=0]++wag l)++waa d++([cO=cO,0=0,l.length=l.length,cO=cO]++wad d)))):=by kernel_rfl
theorem QgR(l:List Lay)(f:List Jn):QF 752 [] ((QRd d f l w0)) (moE d w0 l (Qp f43).1 (Qp f43).2 f)=(some ((QGc d l)++[0=0,d.ps.n=d.ps.n]++(QIk l w0)++([0=0,f.length=f.length,cO=cO]++wah f))):=by kernel_rfl
def j9(l:List Lay)(ac body:Code)(f f':List Jn):UC:=⟨736,⟨3,[(0,.yld 729),(1,.ptr 696 0 0),(2,.ptr 688 0 0)],mtW d w0 l ac body 744 f++mtR d l,752⟩,λ_=>.tup [],λm=>mtW d w0 l ac body m f'⟩
abbrev mtH(P:Program)(d:Puz)(w0:List Jn)(l:List Lay)(ac body:Code)(f:List Jn)(X:List (Prop×Ex×JSt)):Hnd:={ hnd (mkE P QT) 3 with loop:=λ_=>KC 752 [729,296,200] (mlE d w0 l ac body 0 f) X }
theorem Qgw(l:List Lay)(f f':List Jn):VS (mkE prog QT) (mtH prog d w0 l (Qp f43).1 (Qp f43).2 f [(True,.exit 0,moE d w0 l (Qp f43).1 (Qp f43).2 f')]) f133 (j9 d w0 l (Qp f43).1 (Qp f43).2 f f') = .ak ((([0=0,0=0]++wbU l++[(l.length:Int)=(l.length:Int),(0:Int)=0])++wai++[Array.mk [(28:Tmp)]=Array.mk [(28:Tmp)],(Qp f43).1=(Qp f43).1,(Qp f43).2=(Qp f43).2])++waa d++(wbQ++(wbY l))++waa d++(((waB l w0++[0=0,f.length=f.length,cO=cO])++wah f++[0=0,l.length=l.length,cO=cO,0=0,0=0])++wag l)++waa d++([cO=cO,0=0,l.length=l.length,cO=cO]++wad d)) (.asm (True) (.all (λ(g0:Nat->Value)=>.leaf (.tup []) ([(QFH d l w0),(QH8 f'),(QJm f')])))):=by kernel_rfl
theorem QV0(l:List Lay)(f f':List Jn):QF 752 [(.tup [])] ([(QFH d l w0),(QH8 f'),(QJm f')]) (Kf (j9 d w0 l (Qp f43).1 (Qp f43).2 f f'))=(some ((QGc d l)++[0=0,d.ps.n=d.ps.n] ++ (QIk l w0)++(QQU f'))):=by kernel_rfl
def QIJ(M:ECt)(f:List Jn):List Jn:=f.filter λy=>!M.1.any λe=>Gn d l c e y
theorem Qcn{M:ECt}(hM:QDk M)(d:Puz)(l:List Lay)(c:Nat){T:List Nat}(f:List Jn)(h1:XW M.1 T)(h2:Y7 M.1 T):Km d l c M T f=QIJ d l c M f:=by
 unfold Km QIJ;congr 1;funext y;congr 1;rw[Bool.eq_iff_iff,List.any_eq_true,List.any_eq_true];constructor
 .rintro⟨b,hb,hh⟩;obtain⟨e,he,rfl⟩:=List.mem_map.1 (h1.sub b hb);refine⟨e,he,?_⟩;unfold QBv at hh;rw[jO hM.born he]at hh;exact hh
 .rintro⟨e,he,hh⟩;refine⟨e.born,h2 e he,?_⟩;unfold QBv;rw[jO hM.born he];exact hh
theorem QiM{d:Puz}(hd:KO d){c:Nat}(hc:c<=1000):QDk (VD d c):=by
 have h1:=hd.w1;have h2:=hd.wn;have h3:=hd.n;refine⟨rfl,by simp[VD],?_,?_,?_⟩
 .intro e he;simp only[VD,List.mem_cons,List.not_mem_nil,or_false]at he;rcases he with rfl|rfl
  .exact(by decide:(0:Nat)<2)
  .exact(by decide:(1:Nat)<2)
 .intro e he;simp only[VD,List.mem_cons,List.not_mem_nil,or_false]at he;rcases he with rfl|rfl
  .exact(by decide:(0:Int)<=1/\(1:Int)<=2)
  .exact(by decide:(0:Int)<=2/\(2:Int)<=2)
 .intro e he;simp only[VD,List.mem_cons,List.not_mem_nil,or_false]at he;rcases he with rfl|rfl
  .show 0<=i64.wrap ((c:Int)+1);rw[w64 (by omega) (by omega)];omega
  .show 0<=i64.wrap ((c:Int)+d.wide);rw[w64 (by omega) (by omega)];omega
def qO(f:LJ)(c:Nat):LJ:=⟨QIJ d l c (VD d c) f.1,Nat.le_trans (List.length_filter_le _ _) f.2⟩
def XG(f:LJ):LJ:=(List.range l.length).foldl (qO d l) f
theorem QX2{d:Puz}(hd:KO d)(w0:List Jn)(l:List Lay)(hll:l.length<=1000)(hL:∀ y∈l,KD d y)(c:Nat)(f:LJ)(G:Ctx)(hrd:G.rd=none)(hG:G.n<=752):
  Qw (mkE prog QT) G (moH prog d w0 l Js Jt (VD d c) [] c f.1 [(True,.exit 2,mlE d w0 l Js Jt c (qO d l f c).1)]) (QH f133 0):=by
 refine KN (body:=QU (QH f133 0)) (QO Qh) hrd (by kernel_rfl) ?_
 refine Jh λhc=>?_;have hw1:=hd.w1;have hM:=QiM hd (c:=c) (by omega)
 have h0:Km d l c (VD d c) [] f.1=f.1:=by
  unfold Km;rw[List.filter_eq_self];intro y _;rfl
 have hJ:mlJ d w0 l Js Jt (VD d c) [] c f.1=mlJ d w0 l Js Jt (VD d c) [] c (Km d l c (VD d c) [] f.1):=by rw[h0]
 rw[hJ]
 have ht:∀ i,i<l.length->0<=(l.getD i ⟨0,0⟩:Lay).turn/\(l.getD i ⟨0,0⟩:Lay).turn<=3:=λi hi=>by
  rw[Vu hi];exact(hL _ (List.getElem_mem hi)).t
 have hEnv:=Qdh d l c (VD d c) f.1 f.2;refine Jo (E0:=mkE prog QT) (E:=Hn prog d l c (VD d c) f.1) (H:=λS=>hnd (Hn prog d l c (VD d c) f.1 S) 3) (n0:=752) (s0:=[]) (λ_=>rfl) hEnv hG (λS _=>Qv (hEnv S) 3 G _ hrd) (λS _=>(by decide:752<=832)) ?_ (Qgl d w0 l c (VD d c) f.1 hM (by omega) hc hll ht) ⟨List.nodup_nil,λb hb=>by cases hb⟩ ?_
 .rintro S e J ⟨_,T,_,_,rfl⟩;exact(by decide:752<=784)
 .rintro e J ⟨rfl,T,h1,h2,rfl⟩;refine⟨_,qmc,trivial,rfl,?_⟩;rw[Qcn hM d l c f.1 h1 h2];rfl
def QI7(l:List Lay)(k:Nat×LJ)(e:Ex)(J:JSt):Prop:=e = .exit 0/\J=moE d w0 l Js Jt (((List.range l.length).drop k.1).foldl (qO d l) k.2).1
set_option maxHeartbeats 1000000 in
theorem Qhq(l:List Lay)(hll:l.length<=1000):JW (λk:Nat×LJ=>mlE d w0 l Js Jt k.1 k.2.1) (λk=>k.1<=l.length) (λk=>l.length-k.1) (QI7 d w0 l) 752 QUh [729,296,200] (λ_=>mkE prog QT) (λk=>moH prog d w0 l Js Jt (VD d k.1) [] k.1 k.2.1 [(True,.exit 2,mlE d w0 l Js Jt k.1 (qO d l k.2 k.1).1)]) (QH f133 0):=by
 refine⟨λk g0 hk=>?_⟩;obtain⟨c,f⟩:=k;have hk:c<=l.length:=hk;have et:=QhH d w0 l (VD d c) [] c f.1 (qO d l f c).1 g0;refine Qf et ?_;clear et;refine QE (λb0=>?_) (λb0=>?_);have h:c<l.length:=by have:=qdt b0;omega
 have hw:=Ja h hll
 iterate 128 refine Qu (by first|exact tv|exact h|with_reducible exact qRr|exact rfl) ?_
 refine Qg λa0=>?_;refine Qj λg0=>?_
 .refine⟨(c+1,qO d l f c),h,by show l.length-(c+1)<l.length-c;omega,λe J hr=>?_,rfl,rfl,_,QY9 d w0 l c (c+1) (qO d l f c).1,?_⟩
  .unfold QI7 at hr ⊢;simp only at hr ⊢;rw[QHQ h];exact hr
  .repeat' first|with_reducible refine QL ?_ ?_|exact tv|with_reducible exact qRr|exact hw|exact rfl|refine aI ?_ ?_
 have h:l.length<=c:=by have:=qdf b0;omega
 refine⟨_,(by unfold QI7;simp only[QJL h,and_self]),rfl,rfl,_,QgR d w0 l f.1,?_⟩
 rotate_left
 all_goals (repeat' first|with_reducible refine QL ?_ ?_|exact tv|with_reducible exact qRr|exact rfl|refine aI ?_ ?_)
theorem Qag{d:Puz}(hd:KO d)(w0:List Jn)(l:List Lay)(hll:l.length<=1000)(hL:∀ y∈l,KD d y)(f:LJ)(G:Ctx)(hrd:G.rd=none)(hG:G.n=752):
  Qw (mkE prog QT) G (mtH prog d w0 l Js Jt f.1 [(True,.exit 0,moE d w0 l Js Jt (XG d l f).1)]) (Qk f133):=by
 refine KN (body:=QH f133 0) (QO Qh) hrd (by kernel_rfl) ?_
 refine Jo (E0:=mkE prog QT) (E:=λ_:Nat×LJ=>mkE prog QT) (H:=λk=>moH prog d w0 l Js Jt (VD d k.1) [] k.1 k.2.1 [(True,.exit 2,mlE d w0 l Js Jt k.1 (qO d l k.2 k.1).1)]) (n0:=752) (s0:=(0,f)) (λ_=>rfl) (λ_=>QO Qh) (by omega) (λk _=>QX2 hd w0 l hll hL k.1 k.2 G hrd (by omega)) (λk _=>(by decide:752<=784)) ?_ (Qhq d w0 l hll) (Nat.zero_le _) ?_
 .rintro k e J ⟨_,rfl⟩;exact(by decide:752<=784)
 .rintro e J ⟨rfl,rfl⟩;exact⟨_,qmc,trivial,rfl,rfl⟩
theorem QWR(l:List Lay)(ac body:Code)(f f':List Jn):(j9 d w0 l ac body f f').Ok:=by
 refine⟨(by decide:736<=752),rfl,rfl,?_,rfl,λ_ _=>rfl,λnid h=>?_⟩
 .intro q hq;simp only[UC.po,j9,mtW,rwJ,List.mem_cons,List.not_mem_nil,or_false]at hq;rcases hq with rfl|rfl|rfl<;>refine⟨rfl,rfl,rfl,?_⟩<;>first|exact λ_=>rfl|exact λh=>absurd (show 752<736 from h) (by decide)
 .have e0:=Kp 736 752 0 nid (by decide)
  simp only[UC.po,j9,mtW,rwJ,mtT,KS,Qi.val,List.cons_append,List.nil_append,List.map_cons,List.map_nil,Blk.mapId,AV.mapId,AV.mapIdL,Nat.add_zero]at e0 ⊢;rw[e0];rfl
theorem QaS{d:Puz}(hd:KO d)(w0:List Jn)(l:List Lay)(hll:l.length<=1000)(hL:∀ y∈l,KD d y)(f:LJ):QR prog 133 (uFC (j9 d w0 l Js Jt f.1 (XG d l f).1)):=by
 refine K7 (c:=Qk f133) (E:=mkE prog QT) (QO Qh) func133 (by kernel_rfl) (by kernel_rfl) (QWR ..) (λG h1 h2=>Qag hd w0 l hll hL f G h1 (by rw[h2];rfl)) ⟨?_⟩
 have et:=Qgw d w0 l f.1 (XG d l f).1;refine Qf et ?_;clear et
 iterate 119 refine Qu (by first|exact tv|with_reducible exact qRr|exact rfl) ?_
 refine Qg λa0=>?_;refine Qj λg0=>?_;refine⟨rfl,rfl,_,QV0 d w0 l f.1 (XG d l f).1,?_⟩
 rotate_left
 all_goals (repeat' first|with_reducible refine QL ?_ ?_|exact tv|with_reducible exact qRr|exact rfl|refine aI ?_ ?_)
def QAB(l:List Lay)(ac2 body2:Code)(f f':List Jn):Tab:=Qa QT 133 (KM pb (j9 d w0 l ac2 body2 f f'))
abbrev faM(P : Program)(T : Tab): Hnd := { hnd (mkE P T) 5 with loop := λ_ _ _=>.fail "a loop" }
noncomputable abbrev QRu:Nat×Blk:=
  (200,.cells 0 152 (List.append (waf d) ([.map 201,.slz 496 0 l.length cO])))
noncomputable abbrev QSl:List AV:=
  (List.append (waD d) ([.bool false d.turn,.slz 0 0 d.ps.n cO]))
noncomputable abbrev QP1:List AV:=
  [.agg (QSl d),.ptr 112 0 0,.nils,vj 0,.ptr 200 0 0,vj 0,.ptr 296 0 0,.ptr 328 0 0,.tup [],.tup [],.tup [.ptr 200 0 0,vj 0],.agg
  (QSl d),.tup [.ptr 200 0 0,vj 0],.ptr 200 0 0,vj 0,vj 0,.bool true false,.tup [],.ptr 200 0 0,.slz 288 0 w0.length cO,.ptr 200
  0 0,.mth (Fn.func 91) [.ptr 200 0 0],.ptr 200 0 0,.fn (Fn.func 102) [.ptr 352 0 0,.ptr 360 0 0],.tup [],.tup [],.tup [],.tup [],.tup [],.tup [],.tup [],.tup [],.tup [],
  .tup [],.tup [],.tup []]
noncomputable abbrev QPU:Nat×Blk:=
  (0,.frz (wae) d.ps.n λi=>QA.enc (d.ps.get i))
noncomputable abbrev QQ6:Nat×Blk:=
  (736,.rowz true 67 (waH) f'.length λi=>QA.enc (f'.getD i (Jn.mk (0:Int) (0:Int) (0:Int) (0:Int))))
noncomputable abbrev wbl(d:Puz)(l:List Lay)(u:Nat->Nat->Int):List (Nat×Blk):=[(496,.rowz true 49 kB l.length λi=>QA.enc (l.getD i
  (Lay.mk (0:Int) (0:Int)))),(504,.rowz true 4 [CK.bool] d.ps.n u),(328,.cellsR 0 141 [.mth (Fn.func 91) [.ptr 200 0 0]]),(352,.cellsR 0 90 [.ptr 200 0 0]),(360,.cellsR 0
  96 [.nils])]
noncomputable abbrev QKZ(d:Puz)(f':List Jn)(l:List Lay)(u:Nat->Nat->Int)(w0:List Jn):List (Nat×Blk):=
  ((QRu d l)::(201,.mp E.1 E.2)::(464,.cells 0 114 [.slz 504 0 d.ps.n cO])::(393,.lp LoopState.done (some (Code.exit 0)) (QP1 d w0) (Array.mk [24]) ((QN f43
  0).1) ((QN f43 0).2))::(296,.cells 0 64 [.slz 736 0 f'.length cO])::(QPU d)::List.append (wbl d l u) ([(QQ6 f')]))
noncomputable abbrev QSr(d:Puz)(f':List Jn)(l:List Lay)(u:Nat->Nat->Int)(w0:List Jn):List (Nat×Blk):=
  ((QRu d l)::(201,.mp E.1 E.2)::(464,.cells 0 114 [.slz 504 0 d.ps.n cO])::(393,.lp LoopState.ready none (QP1 d w0) (Array.mk [24]) ((QN f43 0).1) ((QN
  f43 0).2))::(296,.cells 0 64 [.slz 736 0 f'.length cO])::(QPU d)::List.append (wbl d l u) ([(QQ6
  f')]))
theorem QfL(l:List Lay)(f f':List Jn):(Vk (mkE prog (QAB pb d w0 l (Qp f43).1 (Qp f43).2 f f')) (faM prog (QAB pb d w0 l (Qp f43).1 (Qp f43).2 f f')) f103
  QHI (GU d E w0 (QN f43 0).1 (QN f43 0).2 u l f).hp 520 λv h _=>Y9 WO v h) = .br ((l.length:Int)==(d.ps.n:Int)) (.need (pb ([0=0,0=0,0 =
  0,0=0,LoopState.ready=LoopState.ready,(none:Option Code)=none,Array.mk [28]=Array.mk [28],(Qp f43).1=(Qp f43).1,(Qp f43).2=(Qp
  f43).2,d.pK.length=d.pK.length,d.pK.aK=d.pK.aK,d.pK.oK=d.pK.oK,d.pK.dK.lo=d.pK.dK.lo,d.pK.dK.hi=d.pK.dK.hi,d.wide =
  d.wide,d.high=d.high,d.turn=d.turn,0=0,d.ps.n=d.ps.n,Cap.of 0=Cap.of 0,0=0,0=0,(0:Int)=0,0=0,0=0,(0:Int)=0,0=0,0=0,0=0,0=0,0=0,
  l.length=l.length,Cap.of 0=Cap.of 0,0=0,0=0,(0:Int)=0,d.pK.length=d.pK.length,d.pK.aK=d.pK.aK,d.pK.oK=d.pK.oK,d.pK.dK.lo =
  d.pK.dK.lo,d.pK.dK.hi=d.pK.dK.hi,d.wide=d.wide,d.high=d.high,d.turn=d.turn,0=0,d.ps.n=d.ps.n,Cap.of 0=Cap.of 0,0=0,0=0,(0:Int)=0,0=0,
  0=0,(0:Int)=0,(0:Int)=0,false=false,0=0,0=0,0=0,w0.length=w0.length,Cap.of 0=Cap.of 0,0=0,0=0,Fn.func 91=Fn.func 91,0=0,0=0,0=0,0 =
  0,Fn.func 102=Fn.func 102,0=0,0=0,0=0,0=0,0=0,l.length=l.length,Cap.of 0=Cap.of 0,Fn.func 91=Fn.func 91,0=0,0=0,0=0,l.length=l.length,Cap.of
  0=Cap.of 0,Fn.func 133=Fn.func 133,0=0,0=0,0=0,0=0,0=0,f.length=f.length,Cap.of 0=Cap.of 0,f.length<=f.length,QB 4 f.length (λi=>QA.enc
  (f.getD i (Jn.mk (0:Int) (0:Int) (0:Int) (0:Int)))) λi=>QA.enc (f.getD i (Jn.mk (0:Int) (0:Int) (0:Int) (0:Int))),0=0,l.length=l.length,Cap.of 0 =
  Cap.of 0,0=0,0=0,l.length<=l.length,QB 2 l.length (λi=>QA.enc (l.getD i (Lay.mk (0:Int) (0:Int)))) λi=>QA.enc (l.getD i (Lay.mk (0:Int) (0:Int))),
  d.pK.length=d.pK.length,d.pK.aK=d.pK.aK,d.pK.oK=d.pK.oK,d.pK.dK.lo=d.pK.dK.lo,d.pK.dK.hi=d.pK.dK.hi,d.wide=d.wide,d.high =
  d.high,d.turn=d.turn,0=0,d.ps.n=d.ps.n,Cap.of 0=Cap.of 0,0=0,l.length=l.length,Cap.of 0=Cap.of 0,d.ps.n<=d.ps.n,QB 28 d.ps.n (λi=>QA.enc (d.ps.get
  i)) λi=>QA.enc (d.ps.get i)])) (.br ((f'.length:Int)==0) (.leaf (.bool true false) ((QKZ E d f' l u w0))) (.leaf (.bool true true) ((QSr E d f' l u w0))))) (.fail
  ("a loop")) := by kernel_rfl
abbrev zm:List Prop:=
  (waa d++[cO=cO,0=0])
abbrev QSR(d:Puz)(l:List Lay):List Prop:=
  ((wbL E l)++wag l++(wbo d))
abbrev QFr:List Prop:=
  [0=0,(0:Int)=0,0=0,0=0,(0:Int)=0]
abbrev z7:List Prop:=
  [0=0,0=0,0=0,0=0]
abbrev QOW:List Prop:=
  [(0:Int)=0,false=false,0=0,0=0,0=0,w0.length=w0.length,cO=cO,0=0,0=0,Fn.func 91=Fn.func (91:FuncId)]
abbrev QQK:List Prop:=
  ([0=0,f'.length=f'.length,cO=cO]++way f')
theorem QYk(l:List Lay)(f f':List Jn):QF 520 [(.bool true false)] ((QKZ E d f' l u w0)) (Kf (faV d E w0 (QN f43 0).1 (QN f43 0).2 u l f f'))=(some ([false=false]++(zm d)++(QSR E d l) ++ ([QB 1 d.ps.n u u]++waR++(wbb))++(zm d)++QFr++z7++[0=0,0=0,(0:Int)=0]++(zm d)++QFr++(QOW w0)++z7++[Fn.func 102=Fn.func (102:FuncId)]++z7++(QQK f'))):=by kernel_rfl
theorem QfC(l:List Lay)(f f':List Jn):QF 520 [(.bool true true)] ((QSr E d f' l u w0)) (Kf (faU d E w0 (QN f43 0).1 (QN f43 0).2 u l f f'))=(some ([true=true]++(zm d)++(QSR E d l) ++ ([QB 1 d.ps.n u u]++wai++(wbb))++(zm d)++QFr++z7++[0=0,0=0,(0:Int)=0]++(zm d)++QFr++(QOW w0)++z7++[Fn.func 102=Fn.func (102:FuncId)]++z7++(QQK f'))):=by kernel_rfl
def faY(s:LJ):Qd LJ:=cond (((XG d l s).1.length:Int)==0) (.stop (XG d l s)) (.go (XG d l s))
theorem QMT(T:Tab)(hT:Qc T)(G:Ctx)(hrd:G.rd=none):Qw (mkE prog T) G (faM prog T) (Qk f103):=
 KN (body:=QH f103 0) (QO hT) hrd (by kernel_rfl) (λ_ _ _ _ _ _ _ h _ _=>h.elim)
set_option maxHeartbeats 1000000 in
theorem Qce{d:Puz}(hd:KO d){E:ECt}{w0:List Jn}(l:List Lay)(s:LJ)(hk:l.length=d.ps.n)(hL:∀ y∈l,KD d y):QR prog 103 (uFC (Ys d E w0 VZ VQ l s (faY d l s))):=by
 have hll:l.length<=1000:=by rw[hk];exact hd.n
 have hT:Qc (QAB QQ d w0 l Js Jt s.1 (XG d l s).1):=Qh.add (QaS hd w0 l hll hL s);have et:=QfL QQ d E w0 (QD l) l s.1 (XG d l s).1;have hlen:((l.length:Int)==(d.ps.n:Int))=true:=by rw[hk];simp
 unfold faY;cases h0:(((XG d l s).1.length:Int)==0)with
 | true=>
  simp only[cond_true,Ys];refine K7 (E:=mkE prog (QAB QQ d w0 l Js Jt s.1 (XG d l s).1)) (QO hT) func103 (by kernel_rfl) (by kernel_rfl) (QK4 ..) (λG hG _=>QMT _ hT G hG) ⟨?_⟩
  refine Qf et ?_;clear et;refine QE (λb0=>?_) (λb0=>?_);refine QG ?_ ?_;rotate_left;refine QE (λb1=>?_) (λb1=>?_);refine⟨rfl,rfl,_,QYk d E w0 (QD l) l s.1 (XG d l s).1,?_⟩
  rotate_left
  .exact Bool.noConfusion (h0.symm.trans b1)
  .exact Bool.noConfusion (hlen.symm.trans b0)
  all_goals first|((with_reducible show _=true);(first|(refine KI.2 ?_;repeat' first|with_reducible refine QL ?_ ?_|exact tv|with_reducible exact qRr|exact rfl|refine aI ?_ ?_)|(simp;omega)))|(repeat' first|with_reducible refine QL ?_ ?_|exact tv|with_reducible exact qRr|exact rfl|refine aI ?_ ?_)
 | false=>
  simp only[cond_false,Ys];refine K7 (E:=mkE prog (QAB QQ d w0 l Js Jt s.1 (XG d l s).1)) (QO hT) func103 (by kernel_rfl) (by kernel_rfl) (QRc ..) (λG hG _=>QMT _ hT G hG) ⟨?_⟩
  refine Qf et ?_;clear et;refine QE (λb0=>?_) (λb0=>?_);refine QG ?_ ?_;rotate_left;refine QE ?_ ?_<;>intro b1
  .exact Bool.noConfusion (h0.symm.trans b1)
  refine⟨rfl,rfl,_,QfC d E w0 (QD l) l s.1 (XG d l s).1,?_⟩
  rotate_left
  .exact Bool.noConfusion (hlen.symm.trans b0)
  all_goals first|((with_reducible show _=true);(first|(refine KI.2 ?_;repeat' first|with_reducible refine QL ?_ ?_|exact tv|with_reducible exact qRr|exact rfl|refine aI ?_ ?_)|(simp;omega)))|(repeat' first|with_reducible refine QL ?_ ?_|exact tv|with_reducible exact qRr|exact rfl|refine aI ?_ ?_)
theorem QOv{d:Puz}{E:ECt}{w0:List Jn}{ac body:Code}{rec:List Lay->LJ->Qd LJ}{l:List Lay}(hd:KO d)(hE:WfE E)(hl:l.length<=1000)(hL:∀ y∈l,KD d y)(s:LJ)(IH:∀ p,p<d.ps.n->QFF d E w0 ac body rec l p){X:List (Prop×Ex×JSt)}(hX:∀ e J,Xp d E w0 ac body rec l (0,s) e J->∃ y∈X,y.1/\y.2.1=e/\y.2.2=J)(G:Ctx)(hrd:G.rd=none)(hG:G.n=520):
  Qw (mkE prog QT) G (faX prog (HD d E w0 ac body (QD l) l s.1 0) X) (Qk f103):=by
 refine KN (body:=QH f103 0) (QO Qh) hrd (by kernel_rfl) ?_
 have hEnv:∀ k:Nat×LJ,(mkE prog (Wl QQ d l.length k.1)).Sound:=λk=>QO (Qh.add (X6 d l.length k.1));refine Jo (E0:=mkE prog QT) (E:=λk:Nat×LJ=>mkE prog (Wl QQ d l.length k.1)) (H:=λk=>QER prog QQ d E w0 ac body (QD l) l k.2.1 k.1 (QBh d E w0 ac body rec l k.1 k.2)) (n0:=520) (s0:=(0,s)) (λ_=>rfl) hEnv (by omega) (λk _=>QcJ hd hE hl hL k.1 k.2 (IH k.1) G hrd (by omega)) (λk _=>(by decide:520<=552)) ?_ (Qdu d E w0 ac body rec l hd.n) (Nat.zero_le _) hX
 intro k e J hr;unfold Xp at hr;split at hr<;>(rw[hr.2];exact(by decide:520<=552))
set_option maxHeartbeats 1000000 in
theorem QiA{d:Puz}{E:ECt}{w0:List Jn}(hd:KO d)(hE:WfE E){k:Nat}{l:List Lay}(hk:l.length+(k+1)=d.ps.n)(hL:∀ y∈l,KD d y)(IH:∀ p,p<d.ps.n->QFF d E w0 VZ VQ (onY d E (faY d) k) l p)(s:LJ):QR prog 103 (uFC (Ys d E w0 VZ VQ l s (onY d E (faY d) (k+1) l s))):=by
 have hdn:=hd.n;have hr0:onY d E (faY d) (k+1) l s=Q5 (K3 d E (onY d E (faY d) k) l) (List.range d.ps.n) s:=rfl;rw[hr0];have hne:((l.length:Int)==(d.ps.n:Int))=false:=by rw[beq_eq_false_iff_ne];omega
 obtain⟨f,hq0⟩:=s;cases hc:Q5 (K3 d E (onY d E (faY d) k) l) (List.range d.ps.n) ⟨f,hq0⟩with
 | go s'=>
  obtain⟨f',hq1⟩:=s';simp only[Ys];have et:=QM7 d E w0 (QD l) (QD l) l f True False f';refine K7 (E:=mkE prog QT) (QO Qh) func103 (by kernel_rfl) (by kernel_rfl) (QRc ..) (QOv hd hE (by omega) hL ⟨f,hq0⟩ IH (X:=[(True,.exit 0,G3 d E w0 VZ VQ (QD l) l f'),(False,.ret,faF d E w0 VZ VQ (QD l) l f')]) ?_) ⟨?_⟩
  .intro e J hr;unfold Xp at hr;simp only[List.drop_zero,hc]at hr;exact⟨_,qmc,trivial,hr.1.symm,hr.2.symm⟩
  refine Qf et ?_;clear et;refine QE ?_ ?_<;>intro b0
  .exact Bool.noConfusion (hne.symm.trans b0)
  iterate 123 refine Qu (by first|exact tv|with_reducible exact qRr|exact rfl) ?_
  refine Kh ?_ ?_;refine Qg λa0=>?_;refine Qj λg0=>?_;refine⟨rfl,rfl,_,QaH d E w0 (QD l) (QD l) l f f',?_⟩
  rotate_left
  refine Qg λa1=>?_;refine Qj λg1=>?_
  .exact a1.elim
  all_goals (repeat' first|with_reducible refine QL ?_ ?_|exact tv|with_reducible exact qRr|exact rfl|refine aI ?_ ?_)
 | stop s'=>
  obtain⟨f',hq1⟩:=s';simp only[Ys];have et:=QM7 d E w0 (QD l) (QD l) l f False True f';refine K7 (E:=mkE prog QT) (QO Qh) func103 (by kernel_rfl) (by kernel_rfl) (QK4 ..) (QOv hd hE (by omega) hL ⟨f,hq0⟩ IH (X:=[(False,.exit 0,G3 d E w0 VZ VQ (QD l) l f'),(True,.ret,faF d E w0 VZ VQ (QD l) l f')]) ?_) ⟨?_⟩
  .intro e J hr;unfold Xp at hr;simp only[List.drop_zero,hc]at hr;exact⟨_,List.mem_cons_of_mem _ qmc,trivial,hr.1.symm,hr.2.symm⟩
  refine Qf et ?_;clear et;refine QE ?_ ?_<;>intro b0
  .exact Bool.noConfusion (hne.symm.trans b0)
  iterate 123 refine Qu (by first|exact tv|with_reducible exact qRr|exact rfl) ?_
  refine Kh ?_ ?_;refine Qg λa0=>?_;refine Qj λg0=>?_
  .exact a0.elim
  refine Qg λa1=>?_;refine Qj λg1=>?_;refine⟨rfl,rfl,_,QiD d E w0 (QD l) (QD l) l f f',?_⟩
  rotate_left
  all_goals (repeat' first|with_reducible refine QL ?_ ?_|exact tv|with_reducible exact qRr|exact rfl|refine aI ?_ ?_)
theorem QeK{d:Puz}{E:ECt}{w0:List Jn}(hd:KO d)(hE:WfE E)(k:Nat):∀(l:List Lay) (s:LJ),l.length+k=d.ps.n->(∀ y∈l,KD d y)->QR prog 103 (uFC (Ys d E w0 VZ VQ l s (onY d E (faY d) k l s))):=by
 induction k with
 | zero=>exact λl s hk hL=>Qce hd l s hk hL
 | succ k ih=>
  intro l s hk hL;refine QiA hd hE hk hL ?_ s;intro p hp t ht s;exact ih _ s (QEr l _ hk) (QDP hp ht hL)
def Xc(U:UC):Tab:=Qa (Qa (Qa QT 60 (KM pb (nbU d E))) 89 (KM pb (joU d 0 E 1 w0))) 103 (KM pb U)
def QAs(e:Int):AV := .tup [.slz 0 0 f.length (.of 0),.int false .i64 e]
def zd:List (Nat×Blk):=[rwJ true 0 f]
abbrev QPo:List Prop:=
  (waa d++([cO=cO]++wad d))
abbrev QQq(d:Puz):List Prop:=
  ([0=0,0=0,(1:Int)=1]++waa d++([cO=cO,0=0]++wad d++[E.1=E.1,E.2=E.2]))
abbrev QNX(d:Puz)(u:Nat->Nat->Int)(w0:List Jn):List Prop:=
  ((wbK)++waa d++(([cO=cO,0=0,E.1=E.1,E.2=E.2,0=0]++wbo d++[QB 1 d.ps.n (λx x_1=>(0:Int)) u])++wai++[Array.mk
  [24]=Array.mk [24],(QN f43 0).1=(QN f43 0).1,(QN f43 0).2=(QN f43 0).2])++waa d++(wbQ++[0=0,(0:Int)=0])++waa d++(([cO=cO]++wbE++(([0=0,w0.length=w0.length,cO=cO,0=0,0=0,Fn.func 91=Fn.func 91,0=0,0=0,0=0,0=0]++wbV++[0=0,w0.length=w0.length,cO=cO,w0.length<=w0.length,QB 4 w0.length (λi=>QA.enc (w0.getD i (Jn.mk (0:Int) (0:Int) (0:Int) (0:Int)))) λi=>QA.enc (w0.getD i (Jn.mk (0:Int) (0:Int) (0
  : Int) (0:Int))),Fn.func 103=Fn.func 103])++wbK++[0=0,0=0,Fn.func 91=Fn.func 91,0=0,0=0]))++wad d))
noncomputable abbrev QSs:List (Nat×Blk):=
  [(514,.rowz true 67 (waH) f'.length λi=>QA.enc (f'.getD i (Jn.mk (0:Int) (0:Int) (0:Int) (0:Int))))]
theorem QLw(f':List Jn):Kd (mkE prog (Xc pb d E w0 (faU d E w0 (QN f43 0).1 (QN f43 0).2 u [] w0 f'))) (hnd (mkE prog (Xc pb d E w0 (faU d E w0 (QN f43 0).1 (QN f43 0).2 u [] w0 f'))) 8) f43 (Qb.vals 0 ((d,()):Puz×Unit)) (Qb.blks 0 ((d,()):Puz×Unit)) 112 = .need (decide (d.ps.n<=d.ps.n)&&true&&decide (d.ps.n<=1000)) (.br (!d.ok) (.leaf (.tup [.nils,vj 1]) ([])) (.need (pb ((QPo d))) (.need (pb ((QQq E d))) (.need (decide ((d.ps.n:Int)=(d.ps.n:Int))&&decide ((0:Int)<=(d.ps.n:Int)/\(d.ps.n:Int)<=17179869184)) (.need (pb ((QNX E d u w0))) (.leaf (.tup [.slz 514 0 f'.length cO,vj 0]) ((QSs f')))))))):=by kernel_rfl
theorem QXZ(f':List Jn):Kd (mkE prog (Xc pb d E w0 (faV d E w0 (QN f43 0).1 (QN f43 0).2 u [] w0 f'))) (hnd (mkE prog (Xc pb d E w0 (faV d E w0 (QN f43 0).1 (QN f43 0).2 u [] w0 f'))) 8) f43 (Qb.vals 0 ((d,()):Puz×Unit)) (Qb.blks 0 ((d,()):Puz×Unit)) 112 = .need (decide (d.ps.n<=d.ps.n)&&true&&decide (d.ps.n<=1000)) (.br (!d.ok) (.leaf (.tup [.nils,vj 1]) ([])) (.need (pb ((QPo d))) (.need (pb ((QQq E d))) (.need (decide ((d.ps.n:Int)=(d.ps.n:Int))&&decide ((0:Int)<=(d.ps.n:Int)/\(d.ps.n:Int)<=17179869184)) (.need (pb ((QNX E d u w0))) (.leaf (.tup [.slz 514 0 f'.length cO,vj 0]) ((QSs f')))))))):=by kernel_rfl
theorem QWv(e:Int):QF 112 [(AV.tup [AV.nils,vj (1:Int)])] ([]) (KW 112 (QAs f e) (zd f))=( some [f.length=(0:Nat),(1:Int)=e,f.length=(0:Nat)]):=by kernel_rfl
noncomputable abbrev wbw(f:List Jn)(f':List Jn):List Prop:=[f.length<=f'.length,QB (4:Nat) f.length (λi=>QA.enc (f'.getD i (Jn.mk (0:Int) (0:Int) (0:Int) (0:Int)))) λi=>QA.enc (f.getD i (Jn.mk (0:Int) (0:Int) (0:Int) (0:Int)))]
theorem Qaw(e:Int):QF 112 [(AV.tup [AV.slz (514:Nat) (0:Nat) f'.length cO,vj (0:Int)])] ([((514:Nat),Blk.rowz true (67:Nat) [CK.int i64,CK.int i64,CK.int i64,CK.int i64] f'.length λi=>QA.enc (f'.getD i (Jn.mk (0:Int) (0:Int) (0:Int) (0:Int))))]) (KW 112 (QAs f e) (zd f))=( some ([0=0,f'.length=f.length,cO=cO,(0:Int)=e]++wbw f f')):=by kernel_rfl
theorem Qfh(e:Int):QF 112 [(AV.tup [AV.slz (514:Nat) (0:Nat) f'.length cO,vj (0:Int)])] ([((514:Nat),Blk.rowz true (67:Nat) [CK.int i64,CK.int i64,CK.int i64,CK.int i64] f'.length λi=>QA.enc (f'.getD i (Jn.mk (0:Int) (0:Int) (0:Int) (0:Int))))]) (KW 112 (QAs f e) (zd f))=( some ([0=0,f'.length=f.length,cO=cO,(0:Int)=e]++wbw f f')):=by kernel_rfl
theorem QHS{α β:Type}(g:α->List β)(h:∀ x,(g x).length<=1):∀ l:List α,(l.flatMap g).length<=l.length
 | []=>qlr _
 | x::l=>by
  have h1:=h x;have h2:=QHS g h l;rw[List.flatMap_cons,List.length_append,List.length_cons];omega
def w0Z:LJ:=if h:(Kc (Ks (QK d) 1)).length<=1000000000 then ⟨_,h⟩else ⟨[],by decide⟩
theorem Qfc{d:Puz}(hn:d.ps.n<=1000):(w0Z d).1=Kc (Ks (QK d) 1):=by
 have h1:(Kc (Ks (QK d) 1)).length<=1000000000:=by
  rw[zh];have:=QHS (VP 1) (QIB 1) (QK d).1;have h2:=(Y1 d hn).l;unfold Ks;omega
 unfold w0Z;rw[dif_pos h1]
def Yv:List Jn×Int:=cond d.ok ((match onY d (QK d) (faY d) d.ps.n [] (w0Z d)with | .go s | .stop s=>s.1),0) ([],1)
def Xs:WF (Puz×Unit):=λ|(d,_)=>(decide (d.ps.n<=1000),QAs (Yv d).1 (Yv d).2,zd (Yv d).1)
def Qd1:FC:=wFC Xs
theorem QHz:WOk (Xs (d,())).2.1 (Xs (d,())).2.2:=⟨rfl,by simp[Xs,zd,rwJ,Blk.own,Blk.all],rfl⟩
theorem Qbu(hn:d.ps.n<=1000)(hx:d.ok=false):QR prog 43 (wFC (VY Xs (d,()))):=by
 have hT:Qc (Xc (λ_=>false) d (QK d) [] (faU d (QK d) [] VZ VQ (QD []) [] [] [])):=((Qh.add (Jr (by kernel_rfl) _)).add (Jr (by kernel_rfl) _)).add (Jr (by kernel_rfl) _)
 have hv:Yv d=([],1):=by simp only[Yv,hx,cond_false]
 refine Yu (c:=Qk f43) (E:=mkE prog (Xc (λ_=>false) d (QK d) [] (faU d (QK d) [] VZ VQ (QD []) [] [] []))) (H:=hnd (mkE prog (Xc (λ_=>false) d (QK d) [] (faU d (QK d) [] VZ VQ (QD []) [] [] []))) 8) (QO hT) func43 (by kernel_rfl) (by kernel_rfl) (N:=112) (by decide) (d,()) (λG h1 _=>Qv (QO hT) 8 G _ h1) (QHz d) ?_
 refine Qf (QLw (λ_=>false) d (QK d) [] (QD []) []) ?_;refine QG (by simp;omega) (QE (λ_=>?_) (λh=>by rw[hx]at h;cases h))
 simp only[Xs,hv];refine⟨rfl,rfl,_,QWv [] 1,?_⟩
 repeat' first|with_reducible refine QL ?_ ?_|exact tv|with_reducible exact qRr|exact rfl|refine aI ?_ ?_
theorem QjC(hx:d.ok=true):QR prog 43 (wFC (VY Xs (d,()))):=by
 have hd:=(ZA (Y4 hx)).1;have hdn:=hd.n;have hO:=Y1 d hdn;have hon:=QeK (w0:=(w0Z d).1) hd hO.w d.ps.n [] (w0Z d) (by simp) (λc hc=>by cases hc)
 have hjo:QR prog 89 (uFC (joU d 0 (QK d) 1 (w0Z d).1)):=by
  rw[Qfc hdn];exact QHB d 0 (QK d) 1 hO.w hO.m (Nat.le_trans hO.l (by decide))
 have hz:∀ k,QB 1 k (λ_ _=>0) (QD []):=λk i _=>⟨rfl,trivial⟩;cases he:onY d (QK d) (faY d) d.ps.n [] (w0Z d)with
 | go s=>
  rw[he]at hon;have hT:Qc (Xc QQ d (QK d) (w0Z d).1 (faU d (QK d) (w0Z d).1 VZ VQ (QD []) [] (w0Z d).1 s.1)):=((Qh.add (Zn d (by omega))).add hjo).add hon
  have hv:Yv d=(s.1,0):=by
   simp only[Yv,hx,he,cond_true]
  refine Yu (c:=Qk f43) (E:=mkE prog (Xc QQ d (QK d) (w0Z d).1 (faU d (QK d) (w0Z d).1 VZ VQ (QD []) [] (w0Z d).1 s.1))) (H:=hnd (mkE prog (Xc QQ d (QK d) (w0Z d).1 (faU d (QK d) (w0Z d).1 VZ VQ (QD []) [] (w0Z d).1 s.1))) 8) (QO hT) func43 (by kernel_rfl) (by kernel_rfl) (N:=112) (by decide) (d,()) (λG h1 _=>Qv (QO hT) 8 G _ h1) (QHz d) ?_
  have et:=QLw QQ d (QK d) (w0Z d).1 (QD []) s.1;refine Qf et ?_;clear et;refine QG ?_ ?_;rotate_left;refine QE ?_ ?_<;>intro b0
  .rw[hx]at b0;cases b0
  iterate 4 (refine QG ?_ ?_;rotate_left)
  simp only[Xs,hv];refine⟨rfl,rfl,_,Qaw s.1 s.1 0,?_⟩
  rotate_left
  all_goals first|((with_reducible show _=true);(first|(refine KI.2 ?_;repeat' first|with_reducible refine QL ?_ ?_|exact tv|with_reducible exact qRr|with_reducible exact hz _|exact rfl|refine aI ?_ ?_)|(simp;omega)))|(repeat' first|with_reducible refine QL ?_ ?_|exact tv|with_reducible exact qRr|exact rfl|refine aI ?_ ?_)
 | stop s=>
  rw[he]at hon;have hT:Qc (Xc QQ d (QK d) (w0Z d).1 (faV d (QK d) (w0Z d).1 VZ VQ (QD []) [] (w0Z d).1 s.1)):=((Qh.add (Zn d (by omega))).add hjo).add hon
  have hv:Yv d=(s.1,0):=by
   simp only[Yv,hx,he,cond_true]
  refine Yu (c:=Qk f43) (E:=mkE prog (Xc QQ d (QK d) (w0Z d).1 (faV d (QK d) (w0Z d).1 VZ VQ (QD []) [] (w0Z d).1 s.1))) (H:=hnd (mkE prog (Xc QQ d (QK d) (w0Z d).1 (faV d (QK d) (w0Z d).1 VZ VQ (QD []) [] (w0Z d).1 s.1))) 8) (QO hT) func43 (by kernel_rfl) (by kernel_rfl) (N:=112) (by decide) (d,()) (λG h1 _=>Qv (QO hT) 8 G _ h1) (QHz d) ?_
  have et:=QXZ QQ d (QK d) (w0Z d).1 (QD []) s.1;refine Qf et ?_;clear et;refine QG ?_ ?_;rotate_left;refine QE ?_ ?_<;>intro b0
  .rw[hx]at b0;cases b0
  iterate 4 (refine QG ?_ ?_;rotate_left)
  simp only[Xs,hv];refine⟨rfl,rfl,_,Qfh s.1 s.1 0,?_⟩
  rotate_left
  all_goals first|((with_reducible show _=true);(first|(refine KI.2 ?_;repeat' first|with_reducible refine QL ?_ ?_|exact tv|with_reducible exact qRr|with_reducible exact hz _|exact rfl|refine aI ?_ ?_)|(simp;omega)))|(repeat' first|with_reducible refine QL ?_ ?_|exact tv|with_reducible exact qRr|exact rfl|refine aI ?_ ?_)
theorem QYl(hx:(Xs (d,())).1=true):QR prog 43 (wFC (VY Xs (d,()))):=by
 have hn:d.ps.n<=1000:=qdt hx;cases ho:d.ok with
 | false=>exact Qbu d hn ho
 | true=>exact QjC d ho
theorem QjT:QR prog 43 Qd1:=Gc (by kernel_rfl) λ|(d,()),hx=>QYl d hx
