/- - -/
import Derived.Test.YtekbmehgcofnkaaGreatMzl
import Derived.Test.YtekbmehgcofnkaaGreatMzk
open Go.Proofs.Tryz
open Go.IntKind (i64)
set_option maxRecDepth 100000
namespace Go.Proofs.YtekbmehgcofnkaaGreat
open Go.SX Go.SX.Told
noncomputable abbrev Jp:Code:=(Qn f43).1
noncomputable abbrev Jg:Code:=(Qn f43).2
variable {e:MapEntry}(pb:List Prop->Bool)(d:Puz)(E:ECt)(l:List Lay)(w0:List Jn)(c:Nat)(f' f:List Jn)(M:ECt)(u:Nat->Nat->Int)
def Kt(s o:Int):Jn:=cond (decide ((l.getD o.toNat ⟨0,0⟩:Lay).piece<(l.getD c ⟨0,0⟩:Lay).piece))
 ⟨(l.getD o.toNat ⟨0,0⟩:Lay).piece,onS (l.getD o.toNat ⟨0,0⟩) ((i64.wrap (s+2)).tmod 4),(l.getD c ⟨0,0⟩:Lay).piece,onS (l.getD c ⟨0,0⟩) s⟩
 ⟨(l.getD c ⟨0,0⟩:Lay).piece,onS (l.getD c ⟨0,0⟩) s,(l.getD o.toNat ⟨0,0⟩:Lay).piece,onS (l.getD o.toNat ⟨0,0⟩) ((i64.wrap (s+2)).tmod 4)⟩
def K7(e:MapEntry):Option Jn:=cond ((QR e 0==1&&((intV e.val).tmod d.wide==0))||decide (intV e.val≥(l.length:Int))) none (some (Kt l c (QR e 0) (intV e.val)))
def qH(e:MapEntry)(y:Jn):Bool:=match K7 d l c e with
 | some j=>eqJ j y
 | none=>false
def QAl(b:Nat)(y:Jn):Bool:=match M.1.find? (·.born==b)with
 | some e=>qH d l c e y
 | none=>false
def KY(S:List Nat)(f:List Jn):List Jn:=f.filter λy=>!S.any λb=>QAl d l c M b y
def jX(e:MapEntry)(f:List Jn):List Jn:=f.filter λy=>!qH d l c e y
theorem QIY{d:Puz}{l:List Lay}{c:Nat}{f:List Jn}(h:K7 d l c e=none):jX d l c e f=f:=by
 unfold jX;rw[List.filter_eq_self];intro y _;unfold qH;rw[h];rfl
theorem QFC{d:Puz}{l:List Lay}{c:Nat}{f:List Jn}{j:Jn}(h:K7 d l c e=some j):jX d l c e f=J4 j f:=by
 unfold jX J4 qH;rw[h]
structure QFY (M:ECt):Prop where
 wf:wf1 .i64 .i64 M.1=true
 born:(M.1.map (·.born)).Nodup
 low:∀ e∈M.1,e.born<M.2
 key:∀ e∈M.1,0<=QR e 0/\QR e 0<=2
 val:∀ e∈M.1,0<=intV e.val
theorem Qhu{M:ECt}(hM:QFY M)(d:Puz)(l:List Lay)(c:Nat)(S:List Nat)(f:List Jn)(he:e∈M.1):KY d l c M (S++[e.born]) f=jX d l c e (KY d l c M S f):=by
 unfold KY jX;rw[List.filter_filter];congr 1;funext y
 have h1:QAl d l c M e.born y=qH d l c e y:=by
  unfold QAl;rw[vG hM.born he]
 rw[List.any_append];simp only[List.any_cons,List.any_nil,Bool.or_false,h1,Bool.not_or,Bool.and_comm]
theorem Qed(S:List Nat)(f:List Jn):(KY d l c M S f).length<=f.length:=List.length_filter_le _ _
noncomputable def zA(P:Program)(d:Puz)(l:List Lay)(c:Nat)(M:ECt)(f0:List Jn)(S:List Nat):Env:=mkE P (QJp QQ (KY d l c M S f0) λx=>J4 x (KY d l c M S f0))
theorem QX4(f0:List Jn)(hf:f0.length<=1000000000)(S:List Nat):(zA prog d l c M f0 S).Sound:=
 QO (Qf.add (Qas λx=>Qcl (KY d l c M S f0) x (Nat.le_trans (Qed ..) hf)))
def QYs(l:List Lay)(c:Nat)(M:ECt)(f0:List Jn)(_:List Nat)(e:Ex)(J:JSt):Prop:=e = .exit 2/\∃ T,XR M.1 T/\ZW M.1 T/\J=mlE d w0 l Jp Jg c (KY d l c M T f0)
set_option maxHeartbeats 1000000 in
theorem QWj(l:List Lay)(c:Nat)(M:ECt)(f0:List Jn)(hM:QFY M)(hw:d.wide≠0)(hcl:c<l.length)(hll:l.length<=1000)(ht:∀ i,i<l.length->0<=(l.getD i ⟨0,0⟩:Lay).turn/\(l.getD i ⟨0,0⟩:Lay).turn<=3):JW (λS=>mlJ d w0 l Jp Jg M S c (KY d l c M S f0)) (XR M.1) (λS=>M.1.length-S.length) (QYs d w0 l c M f0) 752 QTH [729,296,200] (zA prog d l c M f0) (λS=>hnd (zA prog d l c M f0 S) 3) (QZ (QI f133 0)):=by
 refine⟨λS g hS=>?_⟩;have hS:XR M.1 S:=hS;unfold zA;have et:=QcP QQ d w0 l M S c (KY d l c M S f0) (λx=>J4 x (KY d l c M S f0)) g;refine Qg et ?_;clear et;refine Qq ⟨hM.low,qlr _⟩ (Kf (Qh λha=>?_) (Qj λg0=>Qh λho=>?_))
 .refine⟨_,⟨rfl,S,hS,ha,rfl⟩,rfl,rfl,_,Qa5 d w0 l c (KY d l c M S f0),?_⟩
  repeat' first|with_reducible refine QP ?_ ?_|exact tv|exact Nat.le_refl _|with_reducible exact qRr|exact qRr|exact rfl|refine aI ?_ ?_
 .obtain⟨hj,hn⟩:=ho;have hm:=QMq hj;obtain⟨hc,hh⟩:=QOS hM.born S hm;have hS':=QTO hS hm hn;have hlen:=QDY hS';rw[List.length_append,List.length_singleton]at hlen;have hmu:M.1.length-(S++[(M.1.getD (nxI g0) noE).born]).length<M.1.length-S.length:=by rw[List.length_append,List.length_singleton];omega
  have hc:QM M.1 (S++[(M.1.getD (nxI g0) noE).3])=M.1.getD (nxI g0) noE:=hc;have hh:YN M.1 (S++[(M.1.getD (nxI g0) noE).3])=true:=hh;have hwf:=hM.wf;obtain⟨e,hec⟩:∃ e,QM M.1 (S++[(M.1.getD (nxI g0) noE).3])=e:=⟨_,rfl⟩;have hee:M.1.getD (nxI g0) noE=e:=hc.symm.trans hec;have hl:KY d l c M (S++[(M.1.getD (nxI g0) noE).born]) f0=jX d l c e (KY d l c M S f0):=by rw[<-hee];exact Qhu hM d l c S f0 hm
  have hk:0<=QR e 0/\QR e 0<=2:=by rw[<-hee];exact hM.key _ hm
  have hv:0<=intV e.val:=by rw[<-hee];exact hM.val _ hm
  have hmod:0<=(i64.wrap (QR e 0+2)).tmod 4/\(i64.wrap (QR e 0+2)).tmod 4<=3:=by
   rw[w64 (by omega) (by omega)]
   have h1:=Int.tmod_nonneg 4 (show(0:Int)<=QR e 0+2 by omega)
   have h2:=Int.tmod_lt_of_pos (QR e 0+2) (show(0:Int)<4 by decide)
   omega
  refine QG (by rw[hh,hwf];simp) ?_
  refine QF (λb1=>QG (by simp;omega) (QF (λb2=>?_) (λb2=>?_))) (λb1=>?_)
  .rw[hec]at b1 b2;have hE:K7 d l c e=none:=by unfold K7;rw[b1,show((intV e.val).tmod d.wide==0)=true from b2];rfl
   rw[QIY hE]at hl;refine⟨_,hS',hmu,λ_ _ r=>r,?_⟩;show JT 752 _ _ _ _ (mlJ d w0 l Jp Jg M (S++[(M.1.getD (nxI g0) noE).born]) c (KY d l c M (S++[(M.1.getD (nxI g0) noE).born]) f0));rw[hl];refine⟨rfl,rfl,_,Qg0 d w0 l M S (S++[(M.1.getD (nxI g0) noE).born]) c (KY d l c M S f0) g0,?_⟩
   repeat' first|with_reducible refine QP ?_ ?_|exact tv|exact Nat.le_refl _|with_reducible exact qRr|exact qRr|exact rfl|refine aI ?_ ?_
  .have hk0:(QR e 0==1&&((intV e.val).tmod d.wide==0))=false:=by rw[hec]at b2;rw[show((intV e.val).tmod d.wide==0)=false from b2,Bool.and_false]
   refine QF (λb3=>?_) (λb3=>QG ?_ (QG ?_ (QG ?_ (QG ?_ (QG ?_ (QG ?_ (QF (λb4=>QG ?_ ?_) (λb4=>QG ?_ ?_))))))))
   .rw[hec]at b3;have hE:K7 d l c e=none:=by unfold K7;rw[hk0,show decide (intV e.val≥(l.length:Int))=true from b3];rfl
    rw[QIY hE]at hl;refine⟨_,hS',hmu,λ_ _ r=>r,?_⟩;show JT 752 _ _ _ _ (mlJ d w0 l Jp Jg M (S++[(M.1.getD (nxI g0) noE).born]) c (KY d l c M (S++[(M.1.getD (nxI g0) noE).born]) f0));rw[hl];refine⟨rfl,rfl,_,QUV d w0 l M S (S++[(M.1.getD (nxI g0) noE).born]) c (KY d l c M S f0) g0,?_⟩
    repeat' first|with_reducible refine QP ?_ ?_|exact tv|exact Nat.le_refl _|with_reducible exact qRr|exact qRr|exact rfl|refine aI ?_ ?_
   .simp;omega
   .simp;omega
   .rw[hec];simp only[Bool.true_and,qdE];exact⟨ht c hcl,hk.1,by omega⟩
   .rw[hec]at b3 ⊢;have:=qdf b3;simp;omega
   .rw[hec]at b3 ⊢;have:=qdf b3;simp;omega
   .rw[hec]at b3 ⊢;have:=qdf b3;simp only[Bool.true_and,qdE];exact⟨ht _ (by omega),hmod⟩
   .refine KA.2 ?_
    repeat' first|with_reducible refine QP ?_ ?_|exact tv|exact Nat.le_refl _|with_reducible exact qRr|exact qRr|exact rfl|refine aI ?_ ?_
   .rw[hec]at b3 b4;have hE:K7 d l c e=some (Kt l c (QR e 0) (intV e.val)):=by unfold K7;rw[hk0,show decide (intV e.val≥(l.length:Int))=false from b3];rfl
    have hJ:Kt l c (QR e 0) (intV e.val)=⟨(l.getD (intV e.val).toNat ⟨0,0⟩:Lay).piece,onS (l.getD (intV e.val).toNat ⟨0,0⟩) ((i64.wrap (QR e 0+2)).tmod 4),(l.getD c ⟨0,0⟩:Lay).piece,onS (l.getD c ⟨0,0⟩) (QR e 0)⟩:=by unfold Kt;rw[show decide ((l.getD (intV e.val).toNat ⟨0,0⟩:Lay).piece<(l.getD c ⟨0,0⟩:Lay).piece)=true from b4];rfl
    rw[QFC hE,hJ]at hl;refine⟨_,hS',hmu,λ_ _ r=>r,rfl,rfl,_,QfR d w0 l M S (S++[(M.1.getD (nxI g0) noE).born]) c (KY d l c M S f0) (KY d l c M (S++[(M.1.getD (nxI g0) noE).born]) f0) (λx=>J4 x (KY d l c M S f0)) g0,?_⟩;rw[hl];subst hec
    repeat' first|with_reducible refine QP ?_ ?_|exact tv|exact Nat.le_refl _|with_reducible exact qRr|exact qRr|exact rfl|refine aI ?_ ?_
   .refine KA.2 ?_
    repeat' first|with_reducible refine QP ?_ ?_|exact tv|exact Nat.le_refl _|with_reducible exact qRr|exact qRr|exact rfl|refine aI ?_ ?_
   .rw[hec]at b3 b4;have hE:K7 d l c e=some (Kt l c (QR e 0) (intV e.val)):=by unfold K7;rw[hk0,show decide (intV e.val≥(l.length:Int))=false from b3];rfl
    have hJ:Kt l c (QR e 0) (intV e.val)=⟨(l.getD c ⟨0,0⟩:Lay).piece,onS (l.getD c ⟨0,0⟩) (QR e 0),(l.getD (intV e.val).toNat ⟨0,0⟩:Lay).piece,onS (l.getD (intV e.val).toNat ⟨0,0⟩) ((i64.wrap (QR e 0+2)).tmod 4)⟩:=by unfold Kt;rw[show decide ((l.getD (intV e.val).toNat ⟨0,0⟩:Lay).piece<(l.getD c ⟨0,0⟩:Lay).piece)=false from b4];rfl
    rw[QFC hE,hJ]at hl;refine⟨_,hS',hmu,λ_ _ r=>r,rfl,rfl,_,QhL d w0 l M S (S++[(M.1.getD (nxI g0) noE).born]) c (KY d l c M S f0) (KY d l c M (S++[(M.1.getD (nxI g0) noE).born]) f0) (λx=>J4 x (KY d l c M S f0)) g0,?_⟩;rw[hl];subst hec
    repeat' first|with_reducible refine QP ?_ ?_|exact tv|exact Nat.le_refl _|with_reducible exact qRr|exact qRr|exact rfl|refine aI ?_ ?_
  .have hk0:(QR e 0==1&&((intV e.val).tmod d.wide==0))=false:=by rw[hec]at b1;rw[b1,Bool.false_and]
   refine QF (λb3=>?_) (λb3=>QG ?_ (QG ?_ (QG ?_ (QG ?_ (QG ?_ (QG ?_ (QF (λb4=>QG ?_ ?_) (λb4=>QG ?_ ?_))))))))
   .rw[hec]at b3;have hE:K7 d l c e=none:=by unfold K7;rw[hk0,show decide (intV e.val≥(l.length:Int))=true from b3];rfl
    rw[QIY hE]at hl;refine⟨_,hS',hmu,λ_ _ r=>r,?_⟩;show JT 752 _ _ _ _ (mlJ d w0 l Jp Jg M (S++[(M.1.getD (nxI g0) noE).born]) c (KY d l c M (S++[(M.1.getD (nxI g0) noE).born]) f0));rw[hl];refine⟨rfl,rfl,_,QbK d w0 l M S (S++[(M.1.getD (nxI g0) noE).born]) c (KY d l c M S f0) g0,?_⟩
    repeat' first|with_reducible refine QP ?_ ?_|exact tv|exact Nat.le_refl _|with_reducible exact qRr|exact qRr|exact rfl|refine aI ?_ ?_
   .simp;omega
   .simp;omega
   .rw[hec];simp only[Bool.true_and,qdE];exact⟨ht c hcl,hk.1,by omega⟩
   .rw[hec]at b3 ⊢;have:=qdf b3;simp;omega
   .rw[hec]at b3 ⊢;have:=qdf b3;simp;omega
   .rw[hec]at b3 ⊢;have:=qdf b3;simp only[Bool.true_and,qdE];exact⟨ht _ (by omega),hmod⟩
   .refine KA.2 ?_
    repeat' first|with_reducible refine QP ?_ ?_|exact tv|exact Nat.le_refl _|with_reducible exact qRr|exact qRr|exact rfl|refine aI ?_ ?_
   .rw[hec]at b3 b4;have hE:K7 d l c e=some (Kt l c (QR e 0) (intV e.val)):=by unfold K7;rw[hk0,show decide (intV e.val≥(l.length:Int))=false from b3];rfl
    have hJ:Kt l c (QR e 0) (intV e.val)=⟨(l.getD (intV e.val).toNat ⟨0,0⟩:Lay).piece,onS (l.getD (intV e.val).toNat ⟨0,0⟩) ((i64.wrap (QR e 0+2)).tmod 4),(l.getD c ⟨0,0⟩:Lay).piece,onS (l.getD c ⟨0,0⟩) (QR e 0)⟩:=by unfold Kt;rw[show decide ((l.getD (intV e.val).toNat ⟨0,0⟩:Lay).piece<(l.getD c ⟨0,0⟩:Lay).piece)=true from b4];rfl
    rw[QFC hE,hJ]at hl;refine⟨_,hS',hmu,λ_ _ r=>r,rfl,rfl,_,QdY d w0 l M S (S++[(M.1.getD (nxI g0) noE).born]) c (KY d l c M S f0) (KY d l c M (S++[(M.1.getD (nxI g0) noE).born]) f0) (λx=>J4 x (KY d l c M S f0)) g0,?_⟩;rw[hl];subst hec
    repeat' first|with_reducible refine QP ?_ ?_|exact tv|exact Nat.le_refl _|with_reducible exact qRr|exact qRr|exact rfl|refine aI ?_ ?_
   .refine KA.2 ?_
    repeat' first|with_reducible refine QP ?_ ?_|exact tv|exact Nat.le_refl _|with_reducible exact qRr|exact qRr|exact rfl|refine aI ?_ ?_
   .rw[hec]at b3 b4;have hE:K7 d l c e=some (Kt l c (QR e 0) (intV e.val)):=by unfold K7;rw[hk0,show decide (intV e.val≥(l.length:Int))=false from b3];rfl
    have hJ:Kt l c (QR e 0) (intV e.val)=⟨(l.getD c ⟨0,0⟩:Lay).piece,onS (l.getD c ⟨0,0⟩) (QR e 0),(l.getD (intV e.val).toNat ⟨0,0⟩:Lay).piece,onS (l.getD (intV e.val).toNat ⟨0,0⟩) ((i64.wrap (QR e 0+2)).tmod 4)⟩:=by unfold Kt;rw[show decide ((l.getD (intV e.val).toNat ⟨0,0⟩:Lay).piece<(l.getD c ⟨0,0⟩:Lay).piece)=false from b4];rfl
    rw[QFC hE,hJ]at hl;refine⟨_,hS',hmu,λ_ _ r=>r,rfl,rfl,_,QUj d w0 l M S (S++[(M.1.getD (nxI g0) noE).born]) c (KY d l c M S f0) (KY d l c M (S++[(M.1.getD (nxI g0) noE).born]) f0) (λx=>J4 x (KY d l c M S f0)) g0,?_⟩;rw[hl];subst hec
    repeat' first|with_reducible refine QP ?_ ?_|exact tv|exact Nat.le_refl _|with_reducible exact qRr|exact qRr|exact rfl|refine aI ?_ ?_
def JM:ECt:=([{ key := .int .i64 1,val := .int .i64 (i64.wrap ((c:Int)+1)),born:=0 },{ key := .int .i64 2,val := .int .i64 (i64.wrap ((c:Int)+d.wide)),born:=1 }],2)
def moE(l:List Lay)(ac body:Code)(f:List Jn):JSt:=⟨83,[],mtW d w0 l ac body 776 f,784⟩
def QLD:Ex->List Nat
 | .normal=>[0,1,2,9,10,11]
 | _=>[]
abbrev moH(P:Program)(d:Puz)(w0:List Jn)(l:List Lay)(ac body:Code)(M:ECt)(S0:List Nat)(c:Nat)(f:List Jn)(X:List (Prop×Ex×JSt)):Hnd:={ hnd (mkE P QT) 3 with loop:=λ_=>JP (c<l.length) (KH 752 [729,296,200] (mlJ d w0 l ac body M S0 c f) X) }
noncomputable abbrev QCT:Nat×Blk:=
  (729,.lp LoopState.ready none (mtT d w0 l) (Array.mk [28]) (Qn f43).1 (Qn f43).2)
noncomputable abbrev QG9:Nat×Blk:=
  (296,.cells 0 64 [.slz 776 0 f'.length cO])
noncomputable abbrev QPC:Nat×Blk:=
  (200,.cellsR 0 152 (List.append (waf d) ([.map 201,.slz 496 0 l.length cO])))
noncomputable abbrev QTC:Nat×Blk:=
  (0,.frz (List.append (waa) ((List.append (waA) ((List.append (waZ) ([.int .i64])))))) d.ps.n λi=>QA.enc (d.ps.get i))
noncomputable abbrev QIu:Nat×Blk:=
  (776,.rowz true 67 (waZ) f'.length λi=>QA.enc (f'.getD i (Jn.mk (0:Int) (0:Int) (0:Int) (0:Int))))
noncomputable abbrev QLU(l:List Lay)(w0:List Jn):List (Nat×Blk):=
  [(QCT d l w0),(QG9 f'),(QPC d l),(696,.cellsR 0 42 [.slz 496 0 l.length cO]),(688,.cellsR 0 90 [.ptr 200 0 0]),(496,.frz kB l.length λi=>
  QA.enc (l.getD i (Lay.mk (0:Int) (0:Int)))),(QTC d),(QIu f')]
noncomputable abbrev QMQ(l:List Lay)(w0:List Jn):List (Nat×Blk):=
  [(QCT d l w0),(296,.cells 0 64 [.slz 776 0 f.length cO]),(QPC d l),(QTC d),(496,.frz kB l.length λi=>QA.enc (l.getD i (Lay.mk (0:Int)
  (0:Int)))),(696,.cellsR 0 42 [.slz 496 0 l.length cO]),(688,.cellsR 0 90 [.ptr 200 0 0]),(776,.rowz true 67 (waZ) f.length fun
  i=>QA.enc (f.getD i (Jn.mk (0:Int) (0:Int) (0:Int) (0:Int))))]
theorem Qbh(l:List Lay)(M:ECt)(S0:List Nat)(c:Nat)(f f':List Jn)(g:Nat->Value):exec (mkE prog QT) (moH prog d w0 l (Qn f43).1 (Qn f43).2 M S0 c f [(True,.exit 2,mlE d w0 l (Qn f43).1 (Qn f43).2 c f')]) (QI f133 0) (JSt.inst (mlE d w0 l (Qn f43).1 (Qn f43).2 c f) g) (Q6 [729,296,200] QLD) = .br (decide ((c:Int)<(l.length:Int))) (.ak (((([c<l.length,0=0,0=0]++wbW l)++wbG c l++[784+8+8+8=808,0=0,2=M.2,[]=S0,2=M.2,[]++[MapEntry.mk (Value.int i64 1) (Value.int i64 (i64.wrap ((c:Int)+1))) 0]++[MapEntry.mk (Value.int i64 2) (Value.int i64 (i64.wrap ((c:Int)+d.wide))) 1]=M.1,2=M.2])++wai++[Array.mk [(28:Tmp)]=Array.mk [(28:Tmp)],(Qn f43).1=(Qn f43).1,(Qn f43).2=(Qn f43).2])++wab d++(wbT++[l.length=l.length,cO=cO,0=0,0=0,(0:Int)=0])++wab d++(((waC l w0++[0=0,f.length=f.length,cO=cO])++wah f++[0=0,l.length=l.length,cO=cO,0=0,0=0])++wag l)++wab d++([cO=cO,0=0,l.length=l.length,cO=cO]++wae d)) (.asm (True) (.all (λ(g0:Nat->Value)=>.leaf (.tup (.nilp::.ptr 83 0 0::.yld 729::List.append (wa8 l) ([vi (i64.wrap ((c:Int)+1))]))) ((QLU d f' l w0)))))) (.leaf (.tup [.ptr 0 0 0,.ptr 83 0 0]) ((QMQ d f l w0))):=by kernel_rfl
abbrev QIQ:List Prop:=
  ((wai++(wa5))++wab d++(((wbT++[l.length=l.length,cO=cO,0=0,0=0,(0:Int)=0])++waY d)++waD d))
abbrev QG3:List Prop:=
  (waC l w0)
abbrev QS6:List Prop:=
  ([0=0,f'.length=f'.length,cO=cO]++was f')
theorem QXx(l:List Lay)(c c':Nat)(f':List Jn):QE 752 (.yld 729::List.append (wa8 l) ([vi (i64.wrap ((c:Int)+1))])) ((QLU d f' l w0)) (mlE d w0 l (Qn f43).1 (Qn f43).2 c' f')=(some (([0=0,0=0,0=0,0=0,0=0]++wbS l++[i64.wrap ((c:Int)+1)=(c':Int)])++(QIQ d l)++[0=0,d.ps.n=d.ps.n]++(QG3 l w0)++(QS6 f')++(([0=0,l.length=l.length,cO=cO,0=0,0=0]++wag l)++wab d++([cO=cO,0=0,l.length=l.length,cO=cO]++wae d)))):=by kernel_rfl
theorem Qgn(l:List Lay)(f:List Jn):QE 752 [] ((QMQ d f l w0)) (moE d w0 l (Qn f43).1 (Qn f43).2 f)=(some ((QIQ d l)++[0=0,d.ps.n=d.ps.n]++(QG3 l w0)++([0=0,f.length=f.length,cO=cO]++wah f))):=by kernel_rfl
def vC(l:List Lay)(ac body:Code)(f f':List Jn):UC:=⟨736,⟨3,[(0,.yld 729),(1,.ptr 696 0 0),(2,.ptr 688 0 0)],mtW d w0 l ac body 744 f++mtR d l,752⟩,λ_=>.tup [],λm=>mtW d w0 l ac body m f'⟩
abbrev mtH(P:Program)(d:Puz)(w0:List Jn)(l:List Lay)(ac body:Code)(f:List Jn)(X:List (Prop×Ex×JSt)):Hnd:={ hnd (mkE P QT) 3 with loop:=λ_=>KH 752 [729,296,200] (mlE d w0 l ac body 0 f) X }
theorem Qh4(l:List Lay)(f f':List Jn):VQ (mkE prog QT) (mtH prog d w0 l (Qn f43).1 (Qn f43).2 f [(True,.exit 0,moE d w0 l (Qn f43).1 (Qn f43).2 f')]) f133 (vC d w0 l (Qn f43).1 (Qn f43).2 f f') = .ak ((([0=0,0=0,0=0,0=0,0=0]++wbS l++[(0:Int)=0])++wai++[Array.mk [(28:Tmp)]=Array.mk [(28:Tmp)],(Qn f43).1=(Qn f43).1,(Qn f43).2=(Qn f43).2])++wab d++(wbT++[l.length=l.length,cO=cO,0=0,0=0,(0:Int)=0])++wab d++(((waC l w0++[0=0,f.length=f.length,cO=cO])++wah f++[0=0,l.length=l.length,cO=cO,0=0,0=0])++wag l)++wab d++([cO=cO,0=0,l.length=l.length,cO=cO]++wae d)) (.asm (True) (.all (λ(g0:Nat->Value)=>.leaf (.tup []) ([(QCT d l w0),(QG9 f'),(QIu f')])))):=by kernel_rfl
theorem QWv(l:List Lay)(f f':List Jn):QE 752 [(.tup [])] ([(QCT d l w0),(QG9 f'),(QIu f')]) (KR (vC d w0 l (Qn f43).1 (Qn f43).2 f f'))=(some ((QIQ d l)++[0=0,d.ps.n=d.ps.n] ++ (QG3 l w0)++(QS6 f'))):=by kernel_rfl
def Hi(M:ECt)(f:List Jn):List Jn:=f.filter λy=>!M.1.any λe=>qH d l c e y
theorem Qd5{M:ECt}(hM:QFY M)(d:Puz)(l:List Lay)(c:Nat){T:List Nat}(f:List Jn)(h1:XR M.1 T)(h2:ZW M.1 T):KY d l c M T f=Hi d l c M f:=by
 unfold KY Hi;congr 1;funext y;congr 1;rw[Bool.eq_iff_iff,List.any_eq_true,List.any_eq_true];constructor
 .rintro⟨b,hb,hh⟩;obtain⟨e,he,rfl⟩:=List.mem_map.1 (h1.sub b hb);refine⟨e,he,?_⟩;unfold QAl at hh;rw[vG hM.born he]at hh;exact hh
 .rintro⟨e,he,hh⟩;refine⟨e.born,h2 e he,?_⟩;unfold QAl;rw[vG hM.born he];exact hh
theorem QfO{d:Puz}(hd:KB d){c:Nat}(hc:c<=1000):QFY (JM d c):=by
 have h1:=hd.w1;have h2:=hd.wn;have h3:=hd.n;refine⟨rfl,by simp[JM],?_,?_,?_⟩
 .intro e he;simp only[JM,List.mem_cons,List.not_mem_nil,or_false]at he;rcases he with rfl|rfl
  .exact(by decide:(0:Nat)<2)
  .exact(by decide:(1:Nat)<2)
 .intro e he;simp only[JM,List.mem_cons,List.not_mem_nil,or_false]at he;rcases he with rfl|rfl
  .exact(by decide:(0:Int)<=1/\(1:Int)<=2)
  .exact(by decide:(0:Int)<=2/\(2:Int)<=2)
 .intro e he;simp only[JM,List.mem_cons,List.not_mem_nil,or_false]at he;rcases he with rfl|rfl
  .show 0<=i64.wrap ((c:Int)+1);rw[w64 (by omega) (by omega)];omega
  .show 0<=i64.wrap ((c:Int)+d.wide);rw[w64 (by omega) (by omega)];omega
def WA(f:LJ)(c:Nat):LJ:=⟨Hi d l c (JM d c) f.1,Nat.le_trans (List.length_filter_le _ _) f.2⟩
def J6(f:LJ):LJ:=(List.range l.length).foldl (WA d l) f
theorem QZW{d:Puz}(hd:KB d)(w0:List Jn)(l:List Lay)(hll:l.length<=1000)(hL:∀ y∈l,Q8 d y)(c:Nat)(f:LJ)(G:Ctx)(hrd:G.rd=none)(hG:G.n<=752):
  Qx (mkE prog QT) G (moH prog d w0 l Jp Jg (JM d c) [] c f.1 [(True,.exit 2,mlE d w0 l Jp Jg c (WA d l f c).1)]) (QI f133 0):=by
 refine KO (body:=QZ (QI f133 0)) (QO Qf) hrd (by kernel_rfl) ?_
 refine Jj λhc=>?_;have hw1:=hd.w1;have hM:=QfO hd (c:=c) (by omega)
 have h0:KY d l c (JM d c) [] f.1=f.1:=by
  unfold KY;rw[List.filter_eq_self];intro y _;rfl
 have hJ:mlJ d w0 l Jp Jg (JM d c) [] c f.1=mlJ d w0 l Jp Jg (JM d c) [] c (KY d l c (JM d c) [] f.1):=by rw[h0]
 rw[hJ]
 have ht:∀ i,i<l.length->0<=(l.getD i ⟨0,0⟩:Lay).turn/\(l.getD i ⟨0,0⟩:Lay).turn<=3:=λi hi=>by
  rw[JL hi];exact(hL _ (List.getElem_mem hi)).t
 have hEnv:=QX4 d l c (JM d c) f.1 f.2;refine Jq (E0:=mkE prog QT) (E:=zA prog d l c (JM d c) f.1) (H:=λS=>hnd (zA prog d l c (JM d c) f.1 S) 3) (n0:=752) (s0:=[]) (λ_=>rfl) hEnv hG (λS _=>Qw (hEnv S) 3 G _ hrd) (λS _=>(by decide:752<=832)) ?_ (QWj d w0 l c (JM d c) f.1 hM (by omega) hc hll ht) ⟨List.nodup_nil,λb hb=>by cases hb⟩ ?_
 .rintro S e J ⟨_,T,_,_,rfl⟩;exact(by decide:752<=784)
 .rintro e J ⟨rfl,T,h1,h2,rfl⟩;refine⟨_,qmc,trivial,rfl,?_⟩;rw[Qd5 hM d l c f.1 h1 h2];rfl
def QHx(l:List Lay)(k:Nat×LJ)(e:Ex)(J:JSt):Prop:=e = .exit 0/\J=moE d w0 l Jp Jg (((List.range l.length).drop k.1).foldl (WA d l) k.2).1
set_option maxHeartbeats 1000000 in
theorem Qb7(l:List Lay)(hll:l.length<=1000):JW (λk:Nat×LJ=>mlE d w0 l Jp Jg k.1 k.2.1) (λk=>k.1<=l.length) (λk=>l.length-k.1) (QHx d w0 l) 752 QLD [729,296,200] (λ_=>mkE prog QT) (λk=>moH prog d w0 l Jp Jg (JM d k.1) [] k.1 k.2.1 [(True,.exit 2,mlE d w0 l Jp Jg k.1 (WA d l k.2 k.1).1)]) (QI f133 0):=by
 refine⟨λk g0 hk=>?_⟩;obtain⟨c,f⟩:=k;have hk:c<=l.length:=hk;have et:=Qbh d w0 l (JM d c) [] c f.1 (WA d l f c).1 g0;refine Qg et ?_;clear et;refine QF (λb0=>?_) (λb0=>?_);have h:c<l.length:=by have:=qdt b0;omega
 have hw:=VT h hll
 iterate 128 refine Qq (by first|exact tv|exact h|with_reducible exact qRr|exact rfl) ?_
 refine Qh λa0=>?_;refine Qj λg0=>?_
 .refine⟨(c+1,WA d l f c),h,by show l.length-(c+1)<l.length-c;omega,λe J hr=>?_,rfl,rfl,_,QXx d w0 l c (c+1) (WA d l f c).1,?_⟩
  .unfold QHx at hr ⊢;simp only at hr ⊢;rw[QI3 h];exact hr
  .repeat' first|with_reducible refine QP ?_ ?_|exact tv|with_reducible exact qRr|exact hw|exact rfl|refine aI ?_ ?_
 have h:l.length<=c:=by have:=qdf b0;omega
 refine⟨_,(by unfold QHx;simp only[QH3 h,and_self]),rfl,rfl,_,Qgn d w0 l f.1,?_⟩
 rotate_left
 all_goals (repeat' first|with_reducible refine QP ?_ ?_|exact tv|with_reducible exact qRr|exact rfl|refine aI ?_ ?_)
theorem Qbc{d:Puz}(hd:KB d)(w0:List Jn)(l:List Lay)(hll:l.length<=1000)(hL:∀ y∈l,Q8 d y)(f:LJ)(G:Ctx)(hrd:G.rd=none)(hG:G.n=752):
  Qx (mkE prog QT) G (mtH prog d w0 l Jp Jg f.1 [(True,.exit 0,moE d w0 l Jp Jg (J6 d l f).1)]) (Ql f133):=by
 refine KO (body:=QI f133 0) (QO Qf) hrd (by kernel_rfl) ?_
 refine Jq (E0:=mkE prog QT) (E:=λ_:Nat×LJ=>mkE prog QT) (H:=λk=>moH prog d w0 l Jp Jg (JM d k.1) [] k.1 k.2.1 [(True,.exit 2,mlE d w0 l Jp Jg k.1 (WA d l k.2 k.1).1)]) (n0:=752) (s0:=(0,f)) (λ_=>rfl) (λ_=>QO Qf) (by omega) (λk _=>QZW hd w0 l hll hL k.1 k.2 G hrd (by omega)) (λk _=>(by decide:752<=784)) ?_ (Qb7 d w0 l hll) (Nat.zero_le _) ?_
 .rintro k e J ⟨_,rfl⟩;exact(by decide:752<=784)
 .rintro e J ⟨rfl,rfl⟩;exact⟨_,qmc,trivial,rfl,rfl⟩
theorem Qet(l:List Lay)(ac body:Code)(f f':List Jn):(vC d w0 l ac body f f').Ok:=by
 refine⟨(by decide:736<=752),rfl,rfl,?_,rfl,λ_ _=>rfl,λnid h=>?_⟩
 .intro q hq;simp only[UC.po,vC,mtW,rwJ,List.mem_cons,List.not_mem_nil,or_false]at hq;rcases hq with rfl|rfl|rfl<;>refine⟨rfl,rfl,rfl,?_⟩<;>first|exact λ_=>rfl|exact λh=>absurd (show 752<736 from h) (by decide)
 .have e0:=KZ 736 752 0 nid (by decide)
  simp only[UC.po,vC,mtW,rwJ,mtT,KX,Qm.val,List.cons_append,List.nil_append,List.map_cons,List.map_nil,Blk.mapId,AV.mapId,AV.mapIdL,Nat.add_zero]at e0 ⊢;rw[e0];rfl
theorem QaE{d:Puz}(hd:KB d)(w0:List Jn)(l:List Lay)(hll:l.length<=1000)(hL:∀ y∈l,Q8 d y)(f:LJ):QS prog 133 (uFC (vC d w0 l Jp Jg f.1 (J6 d l f).1)):=by
 refine Ky (c:=Ql f133) (E:=mkE prog QT) (QO Qf) func133 (by kernel_rfl) (by kernel_rfl) (Qet ..) (λG h1 h2=>Qbc hd w0 l hll hL f G h1 (by rw[h2];rfl)) ⟨?_⟩
 have et:=Qh4 d w0 l f.1 (J6 d l f).1;refine Qg et ?_;clear et
 iterate 119 refine Qq (by first|exact tv|with_reducible exact qRr|exact rfl) ?_
 refine Qh λa0=>?_;refine Qj λg0=>?_;refine⟨rfl,rfl,_,QWv d w0 l f.1 (J6 d l f).1,?_⟩
 rotate_left
 all_goals (repeat' first|with_reducible refine QP ?_ ?_|exact tv|with_reducible exact qRr|exact rfl|refine aI ?_ ?_)
def QAY(l:List Lay)(ac2 body2:Code)(f f':List Jn):Tab:=Qa QT 133 (KG pb (vC d w0 l ac2 body2 f f'))
abbrev faM(P : Program)(T : Tab): Hnd := { hnd (mkE P T) 5 with loop := λ_ _ _=>.fail "a loop" }
noncomputable abbrev QLL:Nat×Blk:=
  (200,.cells 0 152 (List.append (waf d) ([.map 201,.slz 496 0 l.length cO])))
noncomputable abbrev QRV:List AV:=
  (List.append (waF d) ([.bool false d.turn,.slz 0 0 d.ps.n cO]))
noncomputable abbrev QNR:List AV:=
  [.agg (QRV d),.ptr 112 0 0,.nils,vj 0,.ptr 200 0 0,vj 0,.ptr 296 0 0,.ptr 328 0 0,.tup [],.tup [],.tup [.ptr 200 0 0,vj 0],.agg
  (QRV d),.tup [.ptr 200 0 0,vj 0],.ptr 200 0 0,vj 0,vj 0,.bool true false,.tup [],.ptr 200 0 0,.slz 288 0 w0.length cO,.ptr 200
  0 0,.mth (Fn.func 91) [.ptr 200 0 0],.ptr 200 0 0,.fn (Fn.func 102) [.ptr 352 0 0,.ptr 360 0 0],.tup [],.tup [],.tup [],.tup [],.tup [],.tup [],.tup [],.tup [],.tup [],
  .tup [],.tup [],.tup []]
noncomputable abbrev QQK:Nat×Blk:=
  (0,.frz (List.append (waa) ((List.append (waA) ((List.append (waZ) ([.int .i64])))))) d.ps.n λi=>QA.enc (d.ps.get i))
noncomputable abbrev QTU:Nat×Blk:=
  (736,.rowz true 67 (waZ) f'.length λi=>QA.enc (f'.getD i (Jn.mk (0:Int) (0:Int) (0:Int) (0:Int))))
noncomputable abbrev wbk(d:Puz)(l:List Lay)(u:Nat->Nat->Int):List (Nat×Blk):=[(496,.rowz true 49 kB l.length λi=>QA.enc (l.getD i
  (Lay.mk (0:Int) (0:Int)))),(504,.rowz true 4 [CK.bool] d.ps.n u),(328,.cellsR 0 141 [.mth (Fn.func 91) [.ptr 200 0 0]]),(352,.cellsR 0 90 [.ptr 200 0 0]),(360,.cellsR 0
  96 [.nils])]
noncomputable abbrev QP2(d:Puz)(f':List Jn)(l:List Lay)(u:Nat->Nat->Int)(w0:List Jn):List (Nat×Blk):=
  ((QLL d l)::(201,.mp E.1 E.2)::(464,.cells 0 114 [.slz 504 0 d.ps.n cO])::(393,.lp LoopState.done (some (Code.exit 0)) (QNR d w0) (Array.mk [24]) ((QN f43
  0).1) ((QN f43 0).2))::(296,.cells 0 64 [.slz 736 0 f'.length cO])::(QQK d)::List.append (wbk d l u) ([(QTU f')]))
noncomputable abbrev QTQ(d:Puz)(f':List Jn)(l:List Lay)(u:Nat->Nat->Int)(w0:List Jn):List (Nat×Blk):=
  ((QLL d l)::(201,.mp E.1 E.2)::(464,.cells 0 114 [.slz 504 0 d.ps.n cO])::(393,.lp LoopState.ready none (QNR d w0) (Array.mk [24]) ((QN f43 0).1) ((QN
  f43 0).2))::(296,.cells 0 64 [.slz 736 0 f'.length cO])::(QQK d)::List.append (wbk d l u) ([(QTU
  f')]))
theorem Qer(l:List Lay)(f f':List Jn):(Vt (mkE prog (QAY pb d w0 l (Qn f43).1 (Qn f43).2 f f')) (faM prog (QAY pb d w0 l (Qn f43).1 (Qn f43).2 f f')) f103
  QI0 (Gd d E w0 (QN f43 0).1 (QN f43 0).2 u l f).hp 520 λv h _=>ZC WR v h) = .br ((l.length:Int)==(d.ps.n:Int)) (.need (pb ([0=0,0=0,0 =
  0,0=0,LoopState.ready=LoopState.ready,(none:Option Code)=none,Array.mk [28]=Array.mk [28],(Qn f43).1=(Qn f43).1,(Qn f43).2=(Qn
  f43).2,d.pK.length=d.pK.length,d.pK.aK=d.pK.aK,d.pK.oK=d.pK.oK,d.pK.dK.lo=d.pK.dK.lo,d.pK.dK.hi=d.pK.dK.hi,d.wide =
  d.wide,d.high=d.high,d.turn=d.turn,0=0,d.ps.n=d.ps.n,Cap.of 0=Cap.of 0,0=0,0=0,(0:Int)=0,0=0,0=0,(0:Int)=0,0=0,0=0,0=0,0=0,0=0,
  l.length=l.length,Cap.of 0=Cap.of 0,0=0,0=0,(0:Int)=0,d.pK.length=d.pK.length,d.pK.aK=d.pK.aK,d.pK.oK=d.pK.oK,d.pK.dK.lo =
  d.pK.dK.lo,d.pK.dK.hi=d.pK.dK.hi,d.wide=d.wide,d.high=d.high,d.turn=d.turn,0=0,d.ps.n=d.ps.n,Cap.of 0=Cap.of 0,0=0,0=0,(0:Int)=0,0=0,
  0=0,(0:Int)=0,(0:Int)=0,false=false,0=0,0=0,0=0,w0.length=w0.length,Cap.of 0=Cap.of 0,0=0,0=0,Fn.func 91=Fn.func 91,0=0,0=0,0=0,0 =
  0,Fn.func 102=Fn.func 102,0=0,0=0,0=0,0=0,0=0,l.length=l.length,Cap.of 0=Cap.of 0,Fn.func 91=Fn.func 91,0=0,0=0,0=0,l.length=l.length,Cap.of
  0=Cap.of 0,Fn.func 133=Fn.func 133,0=0,0=0,0=0,0=0,0=0,f.length=f.length,Cap.of 0=Cap.of 0,f.length<=f.length,QB 4 f.length (λi=>QA.enc
  (f.getD i (Jn.mk (0:Int) (0:Int) (0:Int) (0:Int)))) λi=>QA.enc (f.getD i (Jn.mk (0:Int) (0:Int) (0:Int) (0:Int))),0=0,l.length=l.length,Cap.of 0 =
  Cap.of 0,0=0,0=0,l.length<=l.length,QB 2 l.length (λi=>QA.enc (l.getD i (Lay.mk (0:Int) (0:Int)))) λi=>QA.enc (l.getD i (Lay.mk (0:Int) (0:Int))),
  d.pK.length=d.pK.length,d.pK.aK=d.pK.aK,d.pK.oK=d.pK.oK,d.pK.dK.lo=d.pK.dK.lo,d.pK.dK.hi=d.pK.dK.hi,d.wide=d.wide,d.high =
  d.high,d.turn=d.turn,0=0,d.ps.n=d.ps.n,Cap.of 0=Cap.of 0,0=0,l.length=l.length,Cap.of 0=Cap.of 0,d.ps.n<=d.ps.n,QB 28 d.ps.n (λi=>QA.enc (d.ps.get
  i)) λi=>QA.enc (d.ps.get i)])) (.br ((f'.length:Int)==0) (.leaf (.bool true false) ((QP2 E d f' l u w0))) (.leaf (.bool true true) ((QTQ E d f' l u w0))))) (.fail
  ("a loop")) := by kernel_rfl
abbrev Hd:List Prop:=
  (wab d++[cO=cO,0=0])
abbrev QLC(d:Puz)(l:List Lay):List Prop:=
  ((wbp E l)++wag l++(wbH d))
abbrev QFX:List Prop:=
  [0=0,(0:Int)=0,0=0,0=0,(0:Int)=0]
abbrev G6:List Prop:=
  [0=0,0=0,0=0,0=0]
abbrev QKF:List Prop:=
  [(0:Int)=0,false=false,0=0,0=0,0=0,w0.length=w0.length,cO=cO,0=0,0=0,Fn.func 91=Fn.func (91:FuncId)]
abbrev QLn:List Prop:=
  ([0=0,f'.length=f'.length,cO=cO]++was f')
theorem QYZ(l:List Lay)(f f':List Jn):QE 520 [(.bool true false)] ((QP2 E d f' l u w0)) (KR (faV d E w0 (QN f43 0).1 (QN f43 0).2 u l f f'))=(some ([false=false]++(Hd d)++(QLC E d l) ++ ([QB 1 d.ps.n u u]++waQ++(wbb))++(Hd d)++QFX++G6++[0=0,0=0,(0:Int)=0]++(Hd d)++QFX++(QKF w0)++G6++[Fn.func 102=Fn.func (102:FuncId)]++G6++(QLn f'))):=by kernel_rfl
theorem Qbw(l:List Lay)(f f':List Jn):QE 520 [(.bool true true)] ((QTQ E d f' l u w0)) (KR (faU d E w0 (QN f43 0).1 (QN f43 0).2 u l f f'))=(some ([true=true]++(Hd d)++(QLC E d l) ++ ([QB 1 d.ps.n u u]++wai++(wbb))++(Hd d)++QFX++G6++[0=0,0=0,(0:Int)=0]++(Hd d)++QFX++(QKF w0)++G6++[Fn.func 102=Fn.func (102:FuncId)]++G6++(QLn f'))):=by kernel_rfl
def faY(s:LJ):Qb LJ:=cond (((J6 d l s).1.length:Int)==0) (.stop (J6 d l s)) (.go (J6 d l s))
theorem QKH(T:Tab)(hT:Qd T)(G:Ctx)(hrd:G.rd=none):Qx (mkE prog T) G (faM prog T) (Ql f103):=
 KO (body:=QI f103 0) (QO hT) hrd (by kernel_rfl) (λ_ _ _ _ _ _ _ h _ _=>h.elim)
set_option maxHeartbeats 1000000 in
theorem QgE{d:Puz}(hd:KB d){E:ECt}{w0:List Jn}(l:List Lay)(s:LJ)(hk:l.length=d.ps.n)(hL:∀ y∈l,Q8 d y):QS prog 103 (uFC (Yf d E w0 VS VX l s (faY d l s))):=by
 have hll:l.length<=1000:=by rw[hk];exact hd.n
 have hT:Qd (QAY QQ d w0 l Jp Jg s.1 (J6 d l s).1):=Qf.add (QaE hd w0 l hll hL s);have et:=Qer QQ d E w0 (QD l) l s.1 (J6 d l s).1;have hlen:((l.length:Int)==(d.ps.n:Int))=true:=by rw[hk];simp
 unfold faY;cases h0:(((J6 d l s).1.length:Int)==0)with
 | true=>
  simp only[cond_true,Yf];refine Ky (E:=mkE prog (QAY QQ d w0 l Jp Jg s.1 (J6 d l s).1)) (QO hT) func103 (by kernel_rfl) (by kernel_rfl) (QNo ..) (λG hG _=>QKH _ hT G hG) ⟨?_⟩
  refine Qg et ?_;clear et;refine QF (λb0=>?_) (λb0=>?_);refine QG ?_ ?_;rotate_left;refine QF (λb1=>?_) (λb1=>?_);refine⟨rfl,rfl,_,QYZ d E w0 (QD l) l s.1 (J6 d l s).1,?_⟩
  rotate_left
  .exact Bool.noConfusion (h0.symm.trans b1)
  .exact Bool.noConfusion (hlen.symm.trans b0)
  all_goals first|((with_reducible show _=true);(first|(refine KA.2 ?_;repeat' first|with_reducible refine QP ?_ ?_|exact tv|with_reducible exact qRr|exact rfl|refine aI ?_ ?_)|(simp;omega)))|(repeat' first|with_reducible refine QP ?_ ?_|exact tv|with_reducible exact qRr|exact rfl|refine aI ?_ ?_)
 | false=>
  simp only[cond_false,Yf];refine Ky (E:=mkE prog (QAY QQ d w0 l Jp Jg s.1 (J6 d l s).1)) (QO hT) func103 (by kernel_rfl) (by kernel_rfl) (QKw ..) (λG hG _=>QKH _ hT G hG) ⟨?_⟩
  refine Qg et ?_;clear et;refine QF (λb0=>?_) (λb0=>?_);refine QG ?_ ?_;rotate_left;refine QF ?_ ?_<;>intro b1
  .exact Bool.noConfusion (h0.symm.trans b1)
  refine⟨rfl,rfl,_,Qbw d E w0 (QD l) l s.1 (J6 d l s).1,?_⟩
  rotate_left
  .exact Bool.noConfusion (hlen.symm.trans b0)
  all_goals first|((with_reducible show _=true);(first|(refine KA.2 ?_;repeat' first|with_reducible refine QP ?_ ?_|exact tv|with_reducible exact qRr|exact rfl|refine aI ?_ ?_)|(simp;omega)))|(repeat' first|with_reducible refine QP ?_ ?_|exact tv|with_reducible exact qRr|exact rfl|refine aI ?_ ?_)
theorem QMv{d:Puz}{E:ECt}{w0:List Jn}{ac body:Code}{rec:List Lay->LJ->Qb LJ}{l:List Lay}(hd:KB d)(hE:WfE E)(hl:l.length<=1000)(hL:∀ y∈l,Q8 d y)(s:LJ)(IH:∀ p,p<d.ps.n->QD9 d E w0 ac body rec l p){X:List (Prop×Ex×JSt)}(hX:∀ e J,Yc d E w0 ac body rec l (0,s) e J->∃ y∈X,y.1/\y.2.1=e/\y.2.2=J)(G:Ctx)(hrd:G.rd=none)(hG:G.n=520):
  Qx (mkE prog QT) G (faX prog (zm d E w0 ac body (QD l) l s.1 0) X) (Ql f103):=by
 refine KO (body:=QI f103 0) (QO Qf) hrd (by kernel_rfl) ?_
 have hEnv:∀ k:Nat×LJ,(mkE prog (Wj QQ d l.length k.1)).Sound:=λk=>QO (Qf.add (YR d l.length k.1));refine Jq (E0:=mkE prog QT) (E:=λk:Nat×LJ=>mkE prog (Wj QQ d l.length k.1)) (H:=λk=>QEh prog QQ d E w0 ac body (QD l) l k.2.1 k.1 (QAa d E w0 ac body rec l k.1 k.2)) (n0:=520) (s0:=(0,s)) (λ_=>rfl) hEnv (by omega) (λk _=>QcD hd hE hl hL k.1 k.2 (IH k.1) G hrd (by omega)) (λk _=>(by decide:520<=552)) ?_ (Qhn d E w0 ac body rec l hd.n) (Nat.zero_le _) hX
 intro k e J hr;unfold Yc at hr;split at hr<;>(rw[hr.2];exact(by decide:520<=552))
set_option maxHeartbeats 1000000 in
theorem Qd2{d:Puz}{E:ECt}{w0:List Jn}(hd:KB d)(hE:WfE E){k:Nat}{l:List Lay}(hk:l.length+(k+1)=d.ps.n)(hL:∀ y∈l,Q8 d y)(IH:∀ p,p<d.ps.n->QD9 d E w0 VS VX (onY d E (faY d) k) l p)(s:LJ):QS prog 103 (uFC (Yf d E w0 VS VX l s (onY d E (faY d) (k+1) l s))):=by
 have hdn:=hd.n;have hr0:onY d E (faY d) (k+1) l s=Qv (Kr d E (onY d E (faY d) k) l) (List.range d.ps.n) s:=rfl;rw[hr0];have hne:((l.length:Int)==(d.ps.n:Int))=false:=by rw[beq_eq_false_iff_ne];omega
 obtain⟨f,hq0⟩:=s;cases hc:Qv (Kr d E (onY d E (faY d) k) l) (List.range d.ps.n) ⟨f,hq0⟩with
 | go s'=>
  obtain⟨f',hq1⟩:=s';simp only[Yf];have et:=QN4 d E w0 (QD l) (QD l) l f True False f';refine Ky (E:=mkE prog QT) (QO Qf) func103 (by kernel_rfl) (by kernel_rfl) (QKw ..) (QMv hd hE (by omega) hL ⟨f,hq0⟩ IH (X:=[(True,.exit 0,GF d E w0 VS VX (QD l) l f'),(False,.ret,faF d E w0 VS VX (QD l) l f')]) ?_) ⟨?_⟩
  .intro e J hr;unfold Yc at hr;simp only[List.drop_zero,hc]at hr;exact⟨_,qmc,trivial,hr.1.symm,hr.2.symm⟩
  refine Qg et ?_;clear et;refine QF ?_ ?_<;>intro b0
  .exact Bool.noConfusion (hne.symm.trans b0)
  iterate 123 refine Qq (by first|exact tv|with_reducible exact qRr|exact rfl) ?_
  refine Kf ?_ ?_;refine Qh λa0=>?_;refine Qj λg0=>?_;refine⟨rfl,rfl,_,QV6 d E w0 (QD l) (QD l) l f f',?_⟩
  rotate_left
  refine Qh λa1=>?_;refine Qj λg1=>?_
  .exact a1.elim
  all_goals (repeat' first|with_reducible refine QP ?_ ?_|exact tv|with_reducible exact qRr|exact rfl|refine aI ?_ ?_)
 | stop s'=>
  obtain⟨f',hq1⟩:=s';simp only[Yf];have et:=QN4 d E w0 (QD l) (QD l) l f False True f';refine Ky (E:=mkE prog QT) (QO Qf) func103 (by kernel_rfl) (by kernel_rfl) (QNo ..) (QMv hd hE (by omega) hL ⟨f,hq0⟩ IH (X:=[(False,.exit 0,GF d E w0 VS VX (QD l) l f'),(True,.ret,faF d E w0 VS VX (QD l) l f')]) ?_) ⟨?_⟩
  .intro e J hr;unfold Yc at hr;simp only[List.drop_zero,hc]at hr;exact⟨_,List.mem_cons_of_mem _ qmc,trivial,hr.1.symm,hr.2.symm⟩
  refine Qg et ?_;clear et;refine QF ?_ ?_<;>intro b0
  .exact Bool.noConfusion (hne.symm.trans b0)
  iterate 123 refine Qq (by first|exact tv|with_reducible exact qRr|exact rfl) ?_
  refine Kf ?_ ?_;refine Qh λa0=>?_;refine Qj λg0=>?_
  .exact a0.elim
  refine Qh λa1=>?_;refine Qj λg1=>?_;refine⟨rfl,rfl,_,QXl d E w0 (QD l) (QD l) l f f',?_⟩
  rotate_left
  all_goals (repeat' first|with_reducible refine QP ?_ ?_|exact tv|with_reducible exact qRr|exact rfl|refine aI ?_ ?_)
theorem QeO{d:Puz}{E:ECt}{w0:List Jn}(hd:KB d)(hE:WfE E)(k:Nat):∀(l:List Lay) (s:LJ),l.length+k=d.ps.n->(∀ y∈l,Q8 d y)->QS prog 103 (uFC (Yf d E w0 VS VX l s (onY d E (faY d) k l s))):=by
 induction k with
 | zero=>exact λl s hk hL=>QgE hd l s hk hL
 | succ k ih=>
  intro l s hk hL;refine Qd2 hd hE hk hL ?_ s;intro p hp t ht s;exact ih _ s (QCj l _ hk) (QCK hp ht hL)
def Xc(U:UC):Tab:=Qa (Qa (Qa QT 60 (KG pb (nbU d E))) 89 (KG pb (joU d 0 E 1 w0))) 103 (KG pb U)
def QAf(e:Int):AV := .tup [.slz 0 0 f.length (.of 0),.int false .i64 e]
def GA:List (Nat×Blk):=[rwJ true 0 f]
abbrev QRf:List Prop:=
  (wab d++([cO=cO]++wae d))
abbrev QSj(d:Puz):List Prop:=
  ([0=0,0=0,(1:Int)=1]++wab d++([cO=cO,0=0]++wae d++[E.1=E.1,E.2=E.2]))
abbrev QSh(d:Puz)(u:Nat->Nat->Int)(w0:List Jn):List Prop:=
  ((wbo++[0=0])++wab d++(([cO=cO,0=0,E.1=E.1,E.2=E.2,0=0]++wbH d++[QB 1 d.ps.n (λx x_1=>(0:Int)) u])++wai++[Array.mk
  [24]=Array.mk [24],(QN f43 0).1=(QN f43 0).1,(QN f43 0).2=(QN f43 0).2])++wab d++(wbT++[0=0,(0:Int)=0])++wab d++((([cO=cO]++wbO++([0=0,w0.length=w0.length,cO=cO,0=0,0=0,Fn.func 91=Fn.func 91,0=0,0=0,0=0,0=0]++wbX++[0=0,w0.length=w0.length,cO=cO,w0.length<=w0.length,QB 4 w0.length (λi=>QA.enc (w0.getD i (Jn.mk (0:Int) (0:Int) (0:Int) (0:Int)))) λi=>QA.enc (w0.getD i (Jn.mk (0:Int) (0:Int) (0
  : Int) (0:Int))),Fn.func 103=Fn.func 103]))++wbo++[0=0,0=0,0=0,Fn.func 91=Fn.func 91,0=0,0=0])++wae d))
noncomputable abbrev QKY:List (Nat×Blk):=
  [(514,.rowz true 67 (waZ) f'.length λi=>QA.enc (f'.getD i (Jn.mk (0:Int) (0:Int) (0:Int) (0:Int))))]
theorem QRq(f':List Jn):Kn (mkE prog (Xc pb d E w0 (faU d E w0 (QN f43 0).1 (QN f43 0).2 u [] w0 f'))) (hnd (mkE prog (Xc pb d E w0 (faU d E w0 (QN f43 0).1 (QN f43 0).2 u [] w0 f'))) 8) f43 (Qe.vals 0 ((d,()):Puz×Unit)) (Qe.blks 0 ((d,()):Puz×Unit)) 112 = .need (decide (d.ps.n<=d.ps.n)&&true&&decide (d.ps.n<=1000)) (.br (!d.ok) (.leaf (.tup [.nils,vj 1]) ([])) (.need (pb ((QRf d))) (.need (pb ((QSj E d))) (.need (decide ((d.ps.n:Int)=(d.ps.n:Int))&&decide ((0:Int)<=(d.ps.n:Int)/\(d.ps.n:Int)<=17179869184)) (.need (pb ((QSh E d u w0))) (.leaf (.tup [.slz 514 0 f'.length cO,vj 0]) ((QKY f')))))))):=by kernel_rfl
theorem QZj(f':List Jn):Kn (mkE prog (Xc pb d E w0 (faV d E w0 (QN f43 0).1 (QN f43 0).2 u [] w0 f'))) (hnd (mkE prog (Xc pb d E w0 (faV d E w0 (QN f43 0).1 (QN f43 0).2 u [] w0 f'))) 8) f43 (Qe.vals 0 ((d,()):Puz×Unit)) (Qe.blks 0 ((d,()):Puz×Unit)) 112 = .need (decide (d.ps.n<=d.ps.n)&&true&&decide (d.ps.n<=1000)) (.br (!d.ok) (.leaf (.tup [.nils,vj 1]) ([])) (.need (pb ((QRf d))) (.need (pb ((QSj E d))) (.need (decide ((d.ps.n:Int)=(d.ps.n:Int))&&decide ((0:Int)<=(d.ps.n:Int)/\(d.ps.n:Int)<=17179869184)) (.need (pb ((QSh E d u w0))) (.leaf (.tup [.slz 514 0 f'.length cO,vj 0]) ((QKY f')))))))):=by kernel_rfl
theorem QZT(e:Int):QE 112 [(AV.tup [AV.nils,vj (1:Int)])] ([]) (KN 112 (QAf f e) (GA f))=( some [f.length=(0:Nat),(1:Int)=e,f.length=(0:Nat)]):=by kernel_rfl
noncomputable abbrev wbB(f:List Jn)(f':List Jn):List Prop:=[f.length<=f'.length,QB (4:Nat) f.length (λi=>QA.enc (f'.getD i (Jn.mk (0:Int) (0:Int) (0:Int) (0:Int)))) λi=>QA.enc (f.getD i (Jn.mk (0:Int) (0:Int) (0:Int) (0:Int)))]
theorem QVG(e:Int):QE 112 [(AV.tup [AV.slz (514:Nat) (0:Nat) f'.length cO,vj (0:Int)])] ([((514:Nat),Blk.rowz true (67:Nat) [CK.int i64,CK.int i64,CK.int i64,CK.int i64] f'.length λi=>QA.enc (f'.getD i (Jn.mk (0:Int) (0:Int) (0:Int) (0:Int))))]) (KN 112 (QAf f e) (GA f))=( some ([0=0,f'.length=f.length,cO=cO,(0:Int)=e]++wbB f f')):=by kernel_rfl
theorem Qdr(e:Int):QE 112 [(AV.tup [AV.slz (514:Nat) (0:Nat) f'.length cO,vj (0:Int)])] ([((514:Nat),Blk.rowz true (67:Nat) [CK.int i64,CK.int i64,CK.int i64,CK.int i64] f'.length λi=>QA.enc (f'.getD i (Jn.mk (0:Int) (0:Int) (0:Int) (0:Int))))]) (KN 112 (QAf f e) (GA f))=( some ([0=0,f'.length=f.length,cO=cO,(0:Int)=e]++wbB f f')):=by kernel_rfl
