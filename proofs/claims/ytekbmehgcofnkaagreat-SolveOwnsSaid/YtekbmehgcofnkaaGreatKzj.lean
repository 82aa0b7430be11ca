/- - -/
import Derived.Test.YtekbmehgcofnkaaGreatKzi
import Derived.Test.YtekbmehgcofnkaaGreatKzh
set_option linter.all false
noncomputable section
open Go.Proofs.Tryz
open Go.IntKind (i64)
set_option maxRecDepth 100000
namespace Go.Proofs.YtekbmehgcofnkaaGreat
open Go.SX Go.SX.Told
abbrev Jg:Code:=(Qj f43).1
abbrev Jc:Code:=(Qj f43).2
variable {e:MapEntry}(pb:List Prop->Bool)(d:Puz)(E:ECt)(l:List Lay)(w0:List Jn)(c:Nat)(f' f:List Jn)(M:ECt)(u:Nat->Nat->Int)
def XX(s o:Int):Jn:=cond (decide ((l.getD o.toNat ⟨0,0⟩:Lay).piece<(l.getD c ⟨0,0⟩:Lay).piece))
 ⟨(l.getD o.toNat ⟨0,0⟩:Lay).piece,onS (l.getD o.toNat ⟨0,0⟩) ((i64.wrap (s+2)).tmod 4),(l.getD c ⟨0,0⟩:Lay).piece,onS (l.getD c ⟨0,0⟩) s⟩
 ⟨(l.getD c ⟨0,0⟩:Lay).piece,onS (l.getD c ⟨0,0⟩) s,(l.getD o.toNat ⟨0,0⟩:Lay).piece,onS (l.getD o.toNat ⟨0,0⟩) ((i64.wrap (s+2)).tmod 4)⟩
def VD(e:MapEntry):Option Jn:=cond ((QQ e 0==1&&((intV e.val).tmod d.wide==0))||decide (intV e.val≥(l.length:Int))) none (some (XX l c (QQ e 0) (intV e.val)))
def vz(e:MapEntry)(y:Jn):Bool:=match VD d l c e with
 | some j=>eqJ j y
 | none=>false
def QAh(b:Nat)(y:Jn):Bool:=match M.1.find? (·.born==b)with
 | some e=>vz d l c e y
 | none=>false
def KS(S:List Nat)(f:List Jn):List Jn:=f.filter λy=>!S.any λb=>QAh d l c M b y
def je(e:MapEntry)(f:List Jn):List Jn:=f.filter λy=>!vz d l c e y
theorem QGT{d:Puz}{l:List Lay}{c:Nat}{f:List Jn}(h:VD d l c e=none):je d l c e f=f:=by
 unfold je;rw[List.filter_eq_self];intro y _;unfold vz;rw[h];rfl
theorem QDm{d:Puz}{l:List Lay}{c:Nat}{f:List Jn}{j:Jn}(h:VD d l c e=some j):je d l c e f=Ju j f:=by
 unfold je Ju vz;rw[h]
structure QB8 (M:ECt):Prop where
 wf:wf1 .i64 .i64 M.1=true
 born:(M.1.map (·.born)).Nodup
 low:∀ e∈M.1,e.born<M.2
 key:∀ e∈M.1,0<=QQ e 0/\QQ e 0<=2
 val:∀ e∈M.1,0<=intV e.val
theorem QbI{M:ECt}(hM:QB8 M)(d:Puz)(l:List Lay)(c:Nat)(S:List Nat)(f:List Jn)(he:e∈M.1):KS d l c M (S++[e.born]) f=je d l c e (KS d l c M S f):=by
 unfold KS je;rw[List.filter_filter];congr 1;funext y
 have h1:QAh d l c M e.born y=vz d l c e y:=by
  unfold QAh;rw[jx hM.born he]
 rw[List.any_append];simp only[List.any_cons,List.any_nil,Bool.or_false,h1,Bool.not_or,Bool.and_comm]
theorem QZR(S:List Nat)(f:List Jn):(KS d l c M S f).length<=f.length:=List.length_filter_le _ _
def zW(P:Program)(d:Puz)(l:List Lay)(c:Nat)(M:ECt)(f0:List Jn)(S:List Nat):Env:=mkE P (QG9 QP (KS d l c M S f0) λx=>Ju x (KS d l c M S f0))
theorem QS3(f0:List Jn)(hf:f0.length<=1000000000)(S:List Nat):(zW prog d l c M f0 S).Sound:=
 QN (Qb.add (Qfh λx=>QWh (KS d l c M S f0) x (Nat.le_trans (QZR ..) hf)))
def QYB(l:List Lay)(c:Nat)(M:ECt)(f0:List Jn)(_:List Nat)(e:Ex)(J:JSt):Prop:=e = .exit 2/\∃ T,XJ M.1 T/\ZL M.1 T/\J=mlE d w0 l Jg Jc c (KS d l c M T f0)
set_option maxHeartbeats 1000000 in
theorem QXa(l:List Lay)(c:Nat)(M:ECt)(f0:List Jn)(hM:QB8 M)(hw:d.wide≠0)(hcl:c<l.length)(hll:l.length<=1000)(ht:∀ i,i<l.length->0<=(l.getD i ⟨0,0⟩:Lay).turn/\(l.getD i ⟨0,0⟩:Lay).turn<=3):Jf (λS=>mlJ d w0 l Jg Jc M S c (KS d l c M S f0)) (XJ M.1) (λS=>M.1.length-S.length) (QYB d w0 l c M f0) 752 QSJ [729,296,200] (zW prog d l c M f0) (λS=>hnd (zW prog d l c M f0 S) 3) (QY (QH f133 0)):=by
 refine⟨λS g hS=>?_⟩;have hS:XJ M.1 S:=hS;unfold zW;have et:=QUq QP d w0 l M S c (KS d l c M S f0) (λx=>Ju x (KS d l c M S f0)) g;refine Qe et ?_;clear et;refine Qp ⟨hM.low,qlr _⟩ (Kb (Qf λha=>?_) (Qh λg0=>Qf λho=>?_))
 .refine⟨_,⟨rfl,S,hS,ha,rfl⟩,rfl,rfl,_,Qa5 d w0 l c (KS d l c M S f0),?_⟩
  repeat' first|with_reducible refine QO ?_ ?_|exact tv|exact Nat.le_refl _|with_reducible exact qRr|exact qRr|exact rfl|refine aI ?_ ?_
 .obtain⟨hj,hn⟩:=ho;have hm:=QKc hj;obtain⟨hc,hh⟩:=QNE hM.born S hm;have hS':=QPQ hS hm hn;have hlen:=QCt hS';rw[List.length_append,List.length_singleton]at hlen;have hmu:M.1.length-(S++[(M.1.getD (nxI g0) noE).born]).length<M.1.length-S.length:=by rw[List.length_append,List.length_singleton];omega
  have hc:QJ M.1 (S++[(M.1.getD (nxI g0) noE).3])=M.1.getD (nxI g0) noE:=hc;have hh:Xf M.1 (S++[(M.1.getD (nxI g0) noE).3])=true:=hh;have hwf:=hM.wf;obtain⟨e,hec⟩:∃ e,QJ M.1 (S++[(M.1.getD (nxI g0) noE).3])=e:=⟨_,rfl⟩;have hee:M.1.getD (nxI g0) noE=e:=hc.symm.trans hec;have hl:KS d l c M (S++[(M.1.getD (nxI g0) noE).born]) f0=je d l c e (KS d l c M S f0):=by rw[<-hee];exact QbI hM d l c S f0 hm
  have hk:0<=QQ e 0/\QQ e 0<=2:=by rw[<-hee];exact hM.key _ hm
  have hv:0<=intV e.val:=by rw[<-hee];exact hM.val _ hm
  have hmod:0<=(i64.wrap (QQ e 0+2)).tmod 4/\(i64.wrap (QQ e 0+2)).tmod 4<=3:=by
   rw[w64 (by omega) (by omega)]
   have h1:=Int.tmod_nonneg 4 (show(0:Int)<=QQ e 0+2 by omega)
   have h2:=Int.tmod_lt_of_pos (QQ e 0+2) (show(0:Int)<4 by decide)
   omega
  refine QG (by rw[hh,hwf];simp) ?_
  refine QF (λb1=>QG (by simp;omega) (QF (λb2=>?_) (λb2=>?_))) (λb1=>?_)
  .rw[hec]at b1 b2;have hE:VD d l c e=none:=by unfold VD;rw[b1,show((intV e.val).tmod d.wide==0)=true from b2];rfl
   rw[QGT hE]at hl;refine⟨_,hS',hmu,λ_ _ r=>r,?_⟩;show JM 752 _ _ _ _ (mlJ d w0 l Jg Jc M (S++[(M.1.getD (nxI g0) noE).born]) c (KS d l c M (S++[(M.1.getD (nxI g0) noE).born]) f0));rw[hl];refine⟨rfl,rfl,_,QZ4 d w0 l M S (S++[(M.1.getD (nxI g0) noE).born]) c (KS d l c M S f0) g0,?_⟩
   repeat' first|with_reducible refine QO ?_ ?_|exact tv|exact Nat.le_refl _|with_reducible exact qRr|exact qRr|exact rfl|refine aI ?_ ?_
  .have hk0:(QQ e 0==1&&((intV e.val).tmod d.wide==0))=false:=by rw[hec]at b2;rw[show((intV e.val).tmod d.wide==0)=false from b2,Bool.and_false]
   refine QF (λb3=>?_) (λb3=>QG ?_ (QG ?_ (QG ?_ (QG ?_ (QG ?_ (QG ?_ (QF (λb4=>QG ?_ ?_) (λb4=>QG ?_ ?_))))))))
   .rw[hec]at b3;have hE:VD d l c e=none:=by unfold VD;rw[hk0,show decide (intV e.val≥(l.length:Int))=true from b3];rfl
    rw[QGT hE]at hl;refine⟨_,hS',hmu,λ_ _ r=>r,?_⟩;show JM 752 _ _ _ _ (mlJ d w0 l Jg Jc M (S++[(M.1.getD (nxI g0) noE).born]) c (KS d l c M (S++[(M.1.getD (nxI g0) noE).born]) f0));rw[hl];refine⟨rfl,rfl,_,Qbv d w0 l M S (S++[(M.1.getD (nxI g0) noE).born]) c (KS d l c M S f0) g0,?_⟩
    repeat' first|with_reducible refine QO ?_ ?_|exact tv|exact Nat.le_refl _|with_reducible exact qRr|exact qRr|exact rfl|refine aI ?_ ?_
   .simp;omega
   .simp;omega
   .rw[hec];simp only[Bool.true_and,qdE];exact⟨ht c hcl,hk.1,by omega⟩
   .rw[hec]at b3 ⊢;have:=qdf b3;simp;omega
   .rw[hec]at b3 ⊢;have:=qdf b3;simp;omega
   .rw[hec]at b3 ⊢;have:=qdf b3;simp only[Bool.true_and,qdE];exact⟨ht _ (by omega),hmod⟩
   .refine Q7.2 ?_
    repeat' first|with_reducible refine QO ?_ ?_|exact tv|exact Nat.le_refl _|with_reducible exact qRr|exact qRr|exact rfl|refine aI ?_ ?_
   .rw[hec]at b3 b4;have hE:VD d l c e=some (XX l c (QQ e 0) (intV e.val)):=by unfold VD;rw[hk0,show decide (intV e.val≥(l.length:Int))=false from b3];rfl
    have hJ:XX l c (QQ e 0) (intV e.val)=⟨(l.getD (intV e.val).toNat ⟨0,0⟩:Lay).piece,onS (l.getD (intV e.val).toNat ⟨0,0⟩) ((i64.wrap (QQ e 0+2)).tmod 4),(l.getD c ⟨0,0⟩:Lay).piece,onS (l.getD c ⟨0,0⟩) (QQ e 0)⟩:=by unfold XX;rw[show decide ((l.getD (intV e.val).toNat ⟨0,0⟩:Lay).piece<(l.getD c ⟨0,0⟩:Lay).piece)=true from b4];rfl
    rw[QDm hE,hJ]at hl;refine⟨_,hS',hmu,λ_ _ r=>r,rfl,rfl,_,QbF d w0 l M S (S++[(M.1.getD (nxI g0) noE).born]) c (KS d l c M S f0) (KS d l c M (S++[(M.1.getD (nxI g0) noE).born]) f0) (λx=>Ju x (KS d l c M S f0)) g0,?_⟩;rw[hl];subst hec
    repeat' first|with_reducible refine QO ?_ ?_|exact tv|exact Nat.le_refl _|with_reducible exact qRr|exact qRr|exact rfl|refine aI ?_ ?_
   .refine Q7.2 ?_
    repeat' first|with_reducible refine QO ?_ ?_|exact tv|exact Nat.le_refl _|with_reducible exact qRr|exact qRr|exact rfl|refine aI ?_ ?_
   .rw[hec]at b3 b4;have hE:VD d l c e=some (XX l c (QQ e 0) (intV e.val)):=by unfold VD;rw[hk0,show decide (intV e.val≥(l.length:Int))=false from b3];rfl
    have hJ:XX l c (QQ e 0) (intV e.val)=⟨(l.getD c ⟨0,0⟩:Lay).piece,onS (l.getD c ⟨0,0⟩) (QQ e 0),(l.getD (intV e.val).toNat ⟨0,0⟩:Lay).piece,onS (l.getD (intV e.val).toNat ⟨0,0⟩) ((i64.wrap (QQ e 0+2)).tmod 4)⟩:=by unfold XX;rw[show decide ((l.getD (intV e.val).toNat ⟨0,0⟩:Lay).piece<(l.getD c ⟨0,0⟩:Lay).piece)=false from b4];rfl
    rw[QDm hE,hJ]at hl;refine⟨_,hS',hmu,λ_ _ r=>r,rfl,rfl,_,QYL d w0 l M S (S++[(M.1.getD (nxI g0) noE).born]) c (KS d l c M S f0) (KS d l c M (S++[(M.1.getD (nxI g0) noE).born]) f0) (λx=>Ju x (KS d l c M S f0)) g0,?_⟩;rw[hl];subst hec
    repeat' first|with_reducible refine QO ?_ ?_|exact tv|exact Nat.le_refl _|with_reducible exact qRr|exact qRr|exact rfl|refine aI ?_ ?_
  .have hk0:(QQ e 0==1&&((intV e.val).tmod d.wide==0))=false:=by rw[hec]at b1;rw[b1,Bool.false_and]
   refine QF (λb3=>?_) (λb3=>QG ?_ (QG ?_ (QG ?_ (QG ?_ (QG ?_ (QG ?_ (QF (λb4=>QG ?_ ?_) (λb4=>QG ?_ ?_))))))))
   .rw[hec]at b3;have hE:VD d l c e=none:=by unfold VD;rw[hk0,show decide (intV e.val≥(l.length:Int))=true from b3];rfl
    rw[QGT hE]at hl;refine⟨_,hS',hmu,λ_ _ r=>r,?_⟩;show JM 752 _ _ _ _ (mlJ d w0 l Jg Jc M (S++[(M.1.getD (nxI g0) noE).born]) c (KS d l c M (S++[(M.1.getD (nxI g0) noE).born]) f0));rw[hl];refine⟨rfl,rfl,_,QdV d w0 l M S (S++[(M.1.getD (nxI g0) noE).born]) c (KS d l c M S f0) g0,?_⟩
    repeat' first|with_reducible refine QO ?_ ?_|exact tv|exact Nat.le_refl _|with_reducible exact qRr|exact qRr|exact rfl|refine aI ?_ ?_
   .simp;omega
   .simp;omega
   .rw[hec];simp only[Bool.true_and,qdE];exact⟨ht c hcl,hk.1,by omega⟩
   .rw[hec]at b3 ⊢;have:=qdf b3;simp;omega
   .rw[hec]at b3 ⊢;have:=qdf b3;simp;omega
   .rw[hec]at b3 ⊢;have:=qdf b3;simp only[Bool.true_and,qdE];exact⟨ht _ (by omega),hmod⟩
   .refine Q7.2 ?_
    repeat' first|with_reducible refine QO ?_ ?_|exact tv|exact Nat.le_refl _|with_reducible exact qRr|exact qRr|exact rfl|refine aI ?_ ?_
   .rw[hec]at b3 b4;have hE:VD d l c e=some (XX l c (QQ e 0) (intV e.val)):=by unfold VD;rw[hk0,show decide (intV e.val≥(l.length:Int))=false from b3];rfl
    have hJ:XX l c (QQ e 0) (intV e.val)=⟨(l.getD (intV e.val).toNat ⟨0,0⟩:Lay).piece,onS (l.getD (intV e.val).toNat ⟨0,0⟩) ((i64.wrap (QQ e 0+2)).tmod 4),(l.getD c ⟨0,0⟩:Lay).piece,onS (l.getD c ⟨0,0⟩) (QQ e 0)⟩:=by unfold XX;rw[show decide ((l.getD (intV e.val).toNat ⟨0,0⟩:Lay).piece<(l.getD c ⟨0,0⟩:Lay).piece)=true from b4];rfl
    rw[QDm hE,hJ]at hl;refine⟨_,hS',hmu,λ_ _ r=>r,rfl,rfl,_,QfX d w0 l M S (S++[(M.1.getD (nxI g0) noE).born]) c (KS d l c M S f0) (KS d l c M (S++[(M.1.getD (nxI g0) noE).born]) f0) (λx=>Ju x (KS d l c M S f0)) g0,?_⟩;rw[hl];subst hec
    repeat' first|with_reducible refine QO ?_ ?_|exact tv|exact Nat.le_refl _|with_reducible exact qRr|exact qRr|exact rfl|refine aI ?_ ?_
   .refine Q7.2 ?_
    repeat' first|with_reducible refine QO ?_ ?_|exact tv|exact Nat.le_refl _|with_reducible exact qRr|exact qRr|exact rfl|refine aI ?_ ?_
   .rw[hec]at b3 b4;have hE:VD d l c e=some (XX l c (QQ e 0) (intV e.val)):=by unfold VD;rw[hk0,show decide (intV e.val≥(l.length:Int))=false from b3];rfl
    have hJ:XX l c (QQ e 0) (intV e.val)=⟨(l.getD c ⟨0,0⟩:Lay).piece,onS (l.getD c ⟨0,0⟩) (QQ e 0),(l.getD (intV e.val).toNat ⟨0,0⟩:Lay).piece,onS (l.getD (intV e.val).toNat ⟨0,0⟩) ((i64.wrap (QQ e 0+2)).tmod 4)⟩:=by unfold XX;rw[show decide ((l.getD (intV e.val).toNat ⟨0,0⟩:Lay).piece<(l.getD c ⟨0,0⟩:Lay).piece)=false from b4];rfl
    rw[QDm hE,hJ]at hl;refine⟨_,hS',hmu,λ_ _ r=>r,rfl,rfl,_,QWZ d w0 l M S (S++[(M.1.getD (nxI g0) noE).born]) c (KS d l c M S f0) (KS d l c M (S++[(M.1.getD (nxI g0) noE).born]) f0) (λx=>Ju x (KS d l c M S f0)) g0,?_⟩;rw[hl];subst hec
    repeat' first|with_reducible refine QO ?_ ?_|exact tv|exact Nat.le_refl _|with_reducible exact qRr|exact qRr|exact rfl|refine aI ?_ ?_
def VA:ECt:=([{ key := .int .i64 1,val := .int .i64 (i64.wrap ((c:Int)+1)),born:=0 },{ key := .int .i64 2,val := .int .i64 (i64.wrap ((c:Int)+d.wide)),born:=1 }],2)
def moE(l:List Lay)(ac body:Code)(f:List Jn):JSt:=⟨83,[],mtW d w0 l ac body 776 f,784⟩
def QLD:Ex->List Nat
 | .normal=>[0,1,2,9,10,11]
 | _=>[]
abbrev moH(P:Program)(d:Puz)(w0:List Jn)(l:List Lay)(ac body:Code)(M:ECt)(S0:List Nat)(c:Nat)(f:List Jn)(X:List (Prop×Ex×JSt)):Hnd:={ hnd (mkE P QS) 3 with loop:=λ_=>Kr (c<l.length) (Q4 752 [729,296,200] (mlJ d w0 l ac body M S0 c f) X) }
abbrev QCT:Nat×Blk:=
  (729,.lp LoopState.ready none (mtT d w0 l) (Array.mk [28]) (Qj f43).1 (Qj f43).2)
abbrev QFr:Nat×Blk:=
  (296,.cells 0 64 [.slz 776 0 f'.length cO])
abbrev QMJ:Nat×Blk:=
  (200,.cellsR 0 152 (List.append (waf d) ([.map 201,.slz 496 0 l.length cO])))
abbrev QJt:Nat×Blk:=
  (0,.frz (wae) d.ps.n λi=>QA.enc (d.ps.get i))
abbrev QHw:Nat×Blk:=
  (776,.rowz true 67 (waG) f'.length λi=>QA.enc (f'.getD i (Jn.mk (0:Int) (0:Int) (0:Int) (0:Int))))
abbrev QNJ(l:List Lay)(w0:List Jn):List (Nat×Blk):=
  [(QCT d l w0),(QFr f'),(QMJ d l),(696,.cellsR 0 42 [.slz 496 0 l.length cO]),(688,.cellsR 0 90 [.ptr 200 0 0]),(496,.frz kB l.length λi=>
  QA.enc (l.getD i (Lay.mk (0:Int) (0:Int)))),(QJt d),(QHw f')]
abbrev QL7(l:List Lay)(w0:List Jn):List (Nat×Blk):=
  [(QCT d l w0),(296,.cells 0 64 [.slz 776 0 f.length cO]),(QMJ d l),(QJt d),(496,.frz kB l.length λi=>QA.enc (l.getD i (Lay.mk (0:Int)
  (0:Int)))),(696,.cellsR 0 42 [.slz 496 0 l.length cO]),(688,.cellsR 0 90 [.ptr 200 0 0]),(776,.rowz true 67 (waG) f.length fun
  i=>QA.enc (f.getD i (Jn.mk (0:Int) (0:Int) (0:Int) (0:Int))))]
theorem QZC(l:List Lay)(M:ECt)(S0:List Nat)(c:Nat)(f f':List Jn)(g:Nat->Value):exec (mkE prog QS) (moH prog d w0 l (Qj f43).1 (Qj f43).2 M S0 c f [(True,.exit 2,mlE d w0 l (Qj f43).1 (Qj f43).2 c f')]) (QH f133 0) (JSt.inst (mlE d w0 l (Qj f43).1 (Qj f43).2 c f) g) (Q8 [729,296,200] QLD) = .br (decide ((c:Int)<(l.length:Int))) (.ak (((([c<l.length]++wcg l)++wbI c l++[784+8+8+8=808,0=0,2=M.2,[]=S0,2=M.2,[]++[MapEntry.mk (Value.int i64 1) (Value.int i64 (i64.wrap ((c:Int)+1))) 0]++[MapEntry.mk (Value.int i64 2) (Value.int i64 (i64.wrap ((c:Int)+d.wide))) 1]=M.1,2=M.2])++wak++[Array.mk [(28:Tmp)]=Array.mk [(28:Tmp)],(Qj f43).1=(Qj f43).1,(Qj f43).2=(Qj f43).2])++waa d++(wb8++(wce l++[(0:Int)=0]))++waa d++(((waB l w0++[0=0,f.length=f.length,cO=cO])++waj f++([0=0]++wce l))++wag l)++waa d++((wca l)++wad d)) (.asm (True) (.all (λ(g0:Nat->Value)=>.leaf (.tup (.nilp::.ptr 83 0 0::.yld 729::List.append (wba l) ([vi (i64.wrap ((c:Int)+1))]))) ((QNJ d f' l w0)))))) (.leaf (.tup [.ptr 0 0 0,.ptr 83 0 0]) ((QL7 d f l w0))):=by kernel_rfl
abbrev QF6:List Prop:=
  ((wak++(wa8))++waa d++(((wb8++(wce l++[(0:Int)=0]))++wby d)++waC d))
abbrev QGU:List Prop:=
  (waB l w0)
abbrev QQu:List Prop:=
  ([0=0,f'.length=f'.length,cO=cO]++waJ f')
theorem QTm(l:List Lay)(c c':Nat)(f':List Jn):QE 752 (.yld 729::List.append (wba l) ([vi (i64.wrap ((c:Int)+1))])) ((QNJ d f' l w0)) (mlE d w0 l (Qj f43).1 (Qj f43).2 c' f')=(some ((wcg l++[(l.length:Int)=(l.length:Int),i64.wrap ((c:Int)+1)=(c':Int)])++(QF6 d l)++[0=0,d.ps.n=d.ps.n]++(QGU l w0)++(QQu f')++((([0=0]++wce l)++wag l)++waa d++((wca l)++wad d)))):=by kernel_rfl
theorem QWn(l:List Lay)(f:List Jn):QE 752 [] ((QL7 d f l w0)) (moE d w0 l (Qj f43).1 (Qj f43).2 f)=(some ((QF6 d l)++[0=0,d.ps.n=d.ps.n]++(QGU l w0)++([0=0,f.length=f.length,cO=cO]++waj f))):=by kernel_rfl
def qo(l:List Lay)(ac body:Code)(f f':List Jn):UC:=⟨736,⟨3,[(0,.yld 729),(1,.ptr 696 0 0),(2,.ptr 688 0 0)],mtW d w0 l ac body 744 f++mtR d l,752⟩,λ_=>.tup [],λm=>mtW d w0 l ac body m f'⟩
abbrev mtH(P:Program)(d:Puz)(w0:List Jn)(l:List Lay)(ac body:Code)(f:List Jn)(X:List (Prop×Ex×JSt)):Hnd:={ hnd (mkE P QS) 3 with loop:=λ_=>Q4 752 [729,296,200] (mlE d w0 l ac body 0 f) X }
theorem Qeb(l:List Lay)(f f':List Jn):VM (mkE prog QS) (mtH prog d w0 l (Qj f43).1 (Qj f43).2 f [(True,.exit 0,moE d w0 l (Qj f43).1 (Qj f43).2 f')]) f133 (qo d w0 l (Qj f43).1 (Qj f43).2 f f') = .ak (((wcg l++[(l.length:Int)=(l.length:Int),(0:Int)=0])++wak++[Array.mk [(28:Tmp)]=Array.mk [(28:Tmp)],(Qj f43).1=(Qj f43).1,(Qj f43).2=(Qj f43).2])++waa d++(wb8++(wce l++[(0:Int)=0]))++waa d++(((waB l w0++[0=0,f.length=f.length,cO=cO])++waj f++([0=0]++wce l))++wag l)++waa d++((wca l)++wad d)) (.asm (True) (.all (λ(g0:Nat->Value)=>.leaf (.tup []) ([(QCT d l w0),(QFr f'),(QHw f')])))):=by kernel_rfl
theorem QaQ(l:List Lay)(f f':List Jn):QE 752 [(.tup [])] ([(QCT d l w0),(QFr f'),(QHw f')]) (KQ (qo d w0 l (Qj f43).1 (Qj f43).2 f f'))=(some ((QF6 d l)++[0=0,d.ps.n=d.ps.n] ++ (QGU l w0)++(QQu f'))):=by kernel_rfl
def QIL(M:ECt)(f:List Jn):List Jn:=f.filter λy=>!M.1.any λe=>vz d l c e y
theorem QcJ{M:ECt}(hM:QB8 M)(d:Puz)(l:List Lay)(c:Nat){T:List Nat}(f:List Jn)(h1:XJ M.1 T)(h2:ZL M.1 T):KS d l c M T f=QIL d l c M f:=by
 unfold KS QIL;congr 1;funext y;congr 1;rw[Bool.eq_iff_iff,List.any_eq_true,List.any_eq_true];constructor
 .rintro⟨b,hb,hh⟩;obtain⟨e,he,rfl⟩:=List.mem_map.1 (h1.sub b hb);refine⟨e,he,?_⟩;unfold QAh at hh;rw[jx hM.born he]at hh;exact hh
 .rintro⟨e,he,hh⟩;refine⟨e.born,h2 e he,?_⟩;unfold QAh;rw[jx hM.born he];exact hh
theorem QZ6{d:Puz}(hd:KK d){c:Nat}(hc:c<=1000):QB8 (VA d c):=by
 have h1:=hd.w1;have h2:=hd.wn;have h3:=hd.n;refine⟨rfl,by simp[VA],?_,?_,?_⟩
 .intro e he;simp only[VA,List.mem_cons,List.not_mem_nil,or_false]at he;rcases he with rfl|rfl
  .exact(by decide:(0:Nat)<2)
  .exact(by decide:(1:Nat)<2)
 .intro e he;simp only[VA,List.mem_cons,List.not_mem_nil,or_false]at he;rcases he with rfl|rfl
  .exact(by decide:(0:Int)<=1/\(1:Int)<=2)
  .exact(by decide:(0:Int)<=2/\(2:Int)<=2)
 .intro e he;simp only[VA,List.mem_cons,List.not_mem_nil,or_false]at he;rcases he with rfl|rfl
  .show 0<=i64.wrap ((c:Int)+1);rw[w64 (by omega) (by omega)];omega
  .show 0<=i64.wrap ((c:Int)+d.wide);rw[w64 (by omega) (by omega)];omega
def WK(f:LJ)(c:Nat):LJ:=⟨QIL d l c (VA d c) f.1,Nat.le_trans (List.length_filter_le _ _) f.2⟩
def V0(f:LJ):LJ:=(List.range l.length).foldl (WK d l) f
theorem QfH{d:Puz}(hd:KK d)(w0:List Jn)(l:List Lay)(hll:l.length<=1000)(hL:∀ y∈l,Q9 d y)(c:Nat)(f:LJ)(G:Ctx)(hrd:G.rd=none)(hG:G.n<=752):
  Qx (mkE prog QS) G (moH prog d w0 l Jg Jc (VA d c) [] c f.1 [(True,.exit 2,mlE d w0 l Jg Jc c (WK d l f c).1)]) (QH f133 0):=by
 refine KR (body:=QY (QH f133 0)) (QN Qb) hrd (by kernel_rfl) ?_
 refine JK λhc=>?_;have hw1:=hd.w1;have hM:=QZ6 hd (c:=c) (by omega)
 have h0:KS d l c (VA d c) [] f.1=f.1:=by
  unfold KS;rw[List.filter_eq_self];intro y _;rfl
 have hJ:mlJ d w0 l Jg Jc (VA d c) [] c f.1=mlJ d w0 l Jg Jc (VA d c) [] c (KS d l c (VA d c) [] f.1):=by rw[h0]
 rw[hJ]
 have ht:∀ i,i<l.length->0<=(l.getD i ⟨0,0⟩:Lay).turn/\(l.getD i ⟨0,0⟩:Lay).turn<=3:=λi hi=>by
  rw[Xs hi];exact(hL _ (List.getElem_mem hi)).t
 have hEnv:=QS3 d l c (VA d c) f.1 f.2;refine Jp (E0:=mkE prog QS) (E:=zW prog d l c (VA d c) f.1) (H:=λS=>hnd (zW prog d l c (VA d c) f.1 S) 3) (n0:=752) (s0:=[]) (λ_=>rfl) hEnv hG (λS _=>Qu (hEnv S) 3 G _ hrd) (λS _=>(by decide:752<=832)) ?_ (QXa d w0 l c (VA d c) f.1 hM (by omega) hc hll ht) ⟨List.nodup_nil,λb hb=>by cases hb⟩ ?_
 .rintro S e J ⟨_,T,_,_,rfl⟩;exact(by decide:752<=784)
 .rintro e J ⟨rfl,T,h1,h2,rfl⟩;refine⟨_,qmc,trivial,rfl,?_⟩;rw[QcJ hM d l c f.1 h1 h2];rfl
def QGH(l:List Lay)(k:Nat×LJ)(e:Ex)(J:JSt):Prop:=e = .exit 0/\J=moE d w0 l Jg Jc (((List.range l.length).drop k.1).foldl (WK d l) k.2).1
set_option maxHeartbeats 1000000 in
theorem QYs(l:List Lay)(hll:l.length<=1000):Jf (λk:Nat×LJ=>mlE d w0 l Jg Jc k.1 k.2.1) (λk=>k.1<=l.length) (λk=>l.length-k.1) (QGH d w0 l) 752 QLD [729,296,200] (λ_=>mkE prog QS) (λk=>moH prog d w0 l Jg Jc (VA d k.1) [] k.1 k.2.1 [(True,.exit 2,mlE d w0 l Jg Jc k.1 (WK d l k.2 k.1).1)]) (QH f133 0):=by
 refine⟨λk g0 hk=>?_⟩;obtain⟨c,f⟩:=k;have hk:c<=l.length:=hk;have et:=QZC d w0 l (VA d c) [] c f.1 (WK d l f c).1 g0;refine Qe et ?_;clear et;refine QF (λb0=>?_) (λb0=>?_);have h:c<l.length:=by have:=qdt b0;omega
 have hw:=Vj h hll
 iterate 128 refine Qp (by first|exact tv|exact h|with_reducible exact qRr|exact rfl) ?_
 refine Qf λa0=>?_;refine Qh λg0=>?_
 .refine⟨(c+1,WK d l f c),h,by show l.length-(c+1)<l.length-c;omega,λe J hr=>?_,rfl,rfl,_,QTm d w0 l c (c+1) (WK d l f c).1,?_⟩
  .unfold QGH at hr ⊢;simp only at hr ⊢;rw[QFy h];exact hr
  .repeat' first|with_reducible refine QO ?_ ?_|exact tv|with_reducible exact qRr|exact hw|exact rfl|refine aI ?_ ?_
 have h:l.length<=c:=by have:=qdf b0;omega
 refine⟨_,(by unfold QGH;simp only[QFm h,and_self]),rfl,rfl,_,QWn d w0 l f.1,?_⟩
 rotate_left
 all_goals (repeat' first|with_reducible refine QO ?_ ?_|exact tv|with_reducible exact qRr|exact rfl|refine aI ?_ ?_)
theorem QVl{d:Puz}(hd:KK d)(w0:List Jn)(l:List Lay)(hll:l.length<=1000)(hL:∀ y∈l,Q9 d y)(f:LJ)(G:Ctx)(hrd:G.rd=none)(hG:G.n=752):
  Qx (mkE prog QS) G (mtH prog d w0 l Jg Jc f.1 [(True,.exit 0,moE d w0 l Jg Jc (V0 d l f).1)]) (Qk f133):=by
 refine KR (body:=QH f133 0) (QN Qb) hrd (by kernel_rfl) ?_
 refine Jp (E0:=mkE prog QS) (E:=λ_:Nat×LJ=>mkE prog QS) (H:=λk=>moH prog d w0 l Jg Jc (VA d k.1) [] k.1 k.2.1 [(True,.exit 2,mlE d w0 l Jg Jc k.1 (WK d l k.2 k.1).1)]) (n0:=752) (s0:=(0,f)) (λ_=>rfl) (λ_=>QN Qb) (by omega) (λk _=>QfH hd w0 l hll hL k.1 k.2 G hrd (by omega)) (λk _=>(by decide:752<=784)) ?_ (QYs d w0 l hll) (Nat.zero_le _) ?_
 .rintro k e J ⟨_,rfl⟩;exact(by decide:752<=784)
 .rintro e J ⟨rfl,rfl⟩;exact⟨_,qmc,trivial,rfl,rfl⟩
theorem QZx(l:List Lay)(ac body:Code)(f f':List Jn):(qo d w0 l ac body f f').Ok:=by
 refine⟨(by decide:736<=752),rfl,rfl,?_,rfl,λ_ _=>rfl,λnid h=>?_⟩
 .intro q hq;simp only[UC.po,qo,mtW,rwJ,List.mem_cons,List.not_mem_nil,or_false]at hq;rcases hq with rfl|rfl|rfl<;>refine⟨rfl,rfl,rfl,?_⟩<;>first|exact λ_=>rfl|exact λh=>absurd (show 752<736 from h) (by decide)
 .have e0:=KW 736 752 0 nid (by decide)
  simp only[UC.po,qo,mtW,rwJ,mtT,KT,Qi.val,List.cons_append,List.nil_append,List.map_cons,List.map_nil,Blk.mapId,AV.mapId,AV.mapIdL,Nat.add_zero]at e0 ⊢;rw[e0];rfl
theorem QUk{d:Puz}(hd:KK d)(w0:List Jn)(l:List Lay)(hll:l.length<=1000)(hL:∀ y∈l,Q9 d y)(f:LJ):QR prog 133 (uFC (qo d w0 l Jg Jc f.1 (V0 d l f).1)):=by
 refine Kw (c:=Qk f133) (E:=mkE prog QS) (QN Qb) func133 (by kernel_rfl) (by kernel_rfl) (QZx ..) (λG h1 h2=>QVl hd w0 l hll hL f G h1 (by rw[h2];rfl)) ⟨?_⟩
 have et:=Qeb d w0 l f.1 (V0 d l f).1;refine Qe et ?_;clear et
 iterate 119 refine Qp (by first|exact tv|with_reducible exact qRr|exact rfl) ?_
 refine Qf λa0=>?_;refine Qh λg0=>?_;refine⟨rfl,rfl,_,QaQ d w0 l f.1 (V0 d l f).1,?_⟩
 rotate_left
 all_goals (repeat' first|with_reducible refine QO ?_ ?_|exact tv|with_reducible exact qRr|exact rfl|refine aI ?_ ?_)
def QBD(l:List Lay)(ac2 body2:Code)(f f':List Jn):Tab:=Qa QS 133 (KE pb (qo d w0 l ac2 body2 f f'))
abbrev faM(P : Program)(T : Tab): Hnd := { hnd (mkE P T) 5 with loop := λ_ _ _=>.fail "a loop" }
abbrev QR8:Nat×Blk:=
  (200,.cells 0 152 (List.append (waf d) ([.map 201,.slz 496 0 l.length cO])))
abbrev QI6:List AV:=
  (List.append (waD d) ([.bool false d.turn,.slz 0 0 d.ps.n cO]))
abbrev QNU:List AV:=
  [.agg (QI6 d),.ptr 112 0 0,.nils,vj 0,.ptr 200 0 0,vj 0,.ptr 296 0 0,.ptr 328 0 0,.tup [],.tup [],.tup [.ptr 200 0 0,vj 0],.agg
  (QI6 d),.tup [.ptr 200 0 0,vj 0],.ptr 200 0 0,vj 0,vj 0,.bool true false,.tup [],.ptr 200 0 0,.slz 288 0 w0.length cO,.ptr 200
  0 0,.mth (Fn.func 91) [.ptr 200 0 0],.ptr 200 0 0,.fn (Fn.func 102) [.ptr 352 0 0,.ptr 360 0 0],.tup [],.tup [],.tup [],.tup [],.tup [],.tup [],.tup [],.tup [],.tup [],
  .tup [],.tup [],.tup []]
abbrev QSG:Nat×Blk:=
  (0,.frz (wae) d.ps.n λi=>QA.enc (d.ps.get i))
abbrev QLZ:Nat×Blk:=
  (736,.rowz true 67 (waG) f'.length λi=>QA.enc (f'.getD i (Jn.mk (0:Int) (0:Int) (0:Int) (0:Int))))
abbrev wbt(d:Puz)(l:List Lay)(u:Nat->Nat->Int):List (Nat×Blk):=[(496,.rowz true 49 kB l.length λi=>QA.enc (l.getD i
  (Lay.mk (0:Int) (0:Int)))),(504,.rowz true 4 [CK.bool] d.ps.n u),(328,.cellsR 0 141 [.mth (Fn.func 91) [.ptr 200 0 0]]),(352,.cellsR 0 90 [.ptr 200 0 0]),(360,.cellsR 0
  96 [.nils])]
abbrev QR6(d:Puz)(f':List Jn)(l:List Lay)(u:Nat->Nat->Int)(w0:List Jn):List (Nat×Blk):=
  ((QR8 d l)::(201,.mp E.1 E.2)::(464,.cells 0 114 [.slz 504 0 d.ps.n cO])::(393,.lp LoopState.done (some (Code.exit 0)) (QNU d w0) (Array.mk [24]) ((QL f43
  0).1) ((QL f43 0).2))::(296,.cells 0 64 [.slz 736 0 f'.length cO])::(QSG d)::List.append (wbt d l u) ([(QLZ f')]))
abbrev QMB(d:Puz)(f':List Jn)(l:List Lay)(u:Nat->Nat->Int)(w0:List Jn):List (Nat×Blk):=
  ((QR8 d l)::(201,.mp E.1 E.2)::(464,.cells 0 114 [.slz 504 0 d.ps.n cO])::(393,.lp LoopState.ready none (QNU d w0) (Array.mk [24]) ((QL f43 0).1) ((QL
  f43 0).2))::(296,.cells 0 64 [.slz 736 0 f'.length cO])::(QSG d)::List.append (wbt d l u) ([(QLZ
  f')]))
theorem QdI(l:List Lay)(f f':List Jn):(Vh (mkE prog (QBD pb d w0 l (Qj f43).1 (Qj f43).2 f f')) (faM prog (QBD pb d w0 l (Qj f43).1 (Qj f43).2 f f')) f103
  QFe (Gr d E w0 (QL f43 0).1 (QL f43 0).2 u l f).hp 520 λv h _=>Y0 Zd v h) = .br ((l.length:Int)==(d.ps.n:Int)) (.need (pb ([0=0,0=0,0 =
  0,0=0,LoopState.ready=LoopState.ready,(none:Option Code)=none,Array.mk [28]=Array.mk [28],(Qj f43).1=(Qj f43).1,(Qj f43).2=(Qj
  f43).2,d.pK.length=d.pK.length,d.pK.aK=d.pK.aK,d.pK.oK=d.pK.oK,d.pK.dK.lo=d.pK.dK.lo,d.pK.dK.hi=d.pK.dK.hi,d.wide =
  d.wide,d.high=d.high,d.turn=d.turn,0=0,d.ps.n=d.ps.n,Cap.of 0=Cap.of 0,0=0,0=0,(0:Int)=0,0=0,0=0,(0:Int)=0,0=0,0=0,0=0,0=0,0=0,
  l.length=l.length,Cap.of 0=Cap.of 0,0=0,0=0,(0:Int)=0,d.pK.length=d.pK.length,d.pK.aK=d.pK.aK,d.pK.oK=d.pK.oK,d.pK.dK.lo =
  d.pK.dK.lo,d.pK.dK.hi=d.pK.dK.hi,d.wide=d.wide,d.high=d.high,d.turn=d.turn,0=0,d.ps.n=d.ps.n,Cap.of 0=Cap.of 0,0=0,0=0,(0:Int)=0,0=0,
  0=0,(0:Int)=0,(0:Int)=0,false=false,0=0,0=0,0=0,w0.length=w0.length,Cap.of 0=Cap.of 0,0=0,0=0,Fn.func 91=Fn.func 91,0=0,0=0,0=0,0 =
  0,Fn.func 102=Fn.func 102,0=0,0=0,0=0,0=0,0=0,l.length=l.length,Cap.of 0=Cap.of 0,Fn.func 91=Fn.func 91,0=0,0=0,0=0,l.length=l.length,Cap.of
  0=Cap.of 0,Fn.func 133=Fn.func 133,0=0,0=0,0=0,0=0,0=0,f.length=f.length,Cap.of 0=Cap.of 0,f.length<=f.length,QB 4 f.length (λi=>QA.enc
  (f.getD i (Jn.mk (0:Int) (0:Int) (0:Int) (0:Int)))) λi=>QA.enc (f.getD i (Jn.mk (0:Int) (0:Int) (0:Int) (0:Int))),0=0,l.length=l.length,Cap.of 0 =
  Cap.of 0,0=0,0=0,l.length<=l.length,QB 2 l.length (λi=>QA.enc (l.getD i (Lay.mk (0:Int) (0:Int)))) λi=>QA.enc (l.getD i (Lay.mk (0:Int) (0:Int))),
  d.pK.length=d.pK.length,d.pK.aK=d.pK.aK,d.pK.oK=d.pK.oK,d.pK.dK.lo=d.pK.dK.lo,d.pK.dK.hi=d.pK.dK.hi,d.wide=d.wide,d.high =
  d.high,d.turn=d.turn,0=0,d.ps.n=d.ps.n,Cap.of 0=Cap.of 0,0=0,l.length=l.length,Cap.of 0=Cap.of 0,d.ps.n<=d.ps.n,QB 28 d.ps.n (λi=>QA.enc (d.ps.get
  i)) λi=>QA.enc (d.ps.get i)])) (.br ((f'.length:Int)==0) (.leaf (.bool true false) ((QR6 E d f' l u w0))) (.leaf (.bool true true) ((QMB E d f' l u w0))))) (.fail
  ("a loop")) := by kernel_rfl
abbrev zw:List Prop:=
  (waa d++[cO=cO,0=0])
abbrev QPq(d:Puz)(l:List Lay):List Prop:=
  ((wb2 E l)++wag l++(wbO d))
abbrev QBx:List Prop:=
  [0=0,(0:Int)=0,0=0,0=0,(0:Int)=0]
abbrev HC:List Prop:=
  [0=0,0=0,0=0,0=0]
abbrev QP2:List Prop:=
  [(0:Int)=0,false=false,0=0,0=0,0=0,w0.length=w0.length,cO=cO,0=0,0=0,Fn.func 91=Fn.func (91:FuncId)]
abbrev QLU:List Prop:=
  ([0=0,f'.length=f'.length,cO=cO]++waJ f')
theorem QUi(l:List Lay)(f f':List Jn):QE 520 [(.bool true false)] ((QR6 E d f' l u w0)) (KQ (faV d E w0 (QL f43 0).1 (QL f43 0).2 u l f f'))=(some ([false=false]++(zw d)++(QPq E d l) ++ ([QB 1 d.ps.n u u]++waU++(wbd))++(zw d)++QBx++HC++[0=0,0=0,(0:Int)=0]++(zw d)++QBx++(QP2 w0)++HC++[Fn.func 102=Fn.func (102:FuncId)]++HC++(QLU f'))):=by kernel_rfl
theorem QWo(l:List Lay)(f f':List Jn):QE 520 [(.bool true true)] ((QMB E d f' l u w0)) (KQ (faU d E w0 (QL f43 0).1 (QL f43 0).2 u l f f'))=(some ([true=true]++(zw d)++(QPq E d l) ++ ([QB 1 d.ps.n u u]++wak++(wbd))++(zw d)++QBx++HC++[0=0,0=0,(0:Int)=0]++(zw d)++QBx++(QP2 w0)++HC++[Fn.func 102=Fn.func (102:FuncId)]++HC++(QLU f'))):=by kernel_rfl
def faY(s:LJ):QZ LJ:=cond (((V0 d l s).1.length:Int)==0) (.stop (V0 d l s)) (.go (V0 d l s))
theorem QNm(T:Tab)(hT:Qc T)(G:Ctx)(hrd:G.rd=none):Qx (mkE prog T) G (faM prog T) (Qk f103):=
 KR (body:=QH f103 0) (QN hT) hrd (by kernel_rfl) (λ_ _ _ _ _ _ _ h _ _=>h.elim)
set_option maxHeartbeats 1000000 in
theorem QWa{d:Puz}(hd:KK d){E:ECt}{w0:List Jn}(l:List Lay)(s:LJ)(hk:l.length=d.ps.n)(hL:∀ y∈l,Q9 d y):QR prog 103 (uFC (Yi d E w0 VK VI l s (faY d l s))):=by
 have hll:l.length<=1000:=by rw[hk];exact hd.n
 have hT:Qc (QBD QP d w0 l Jg Jc s.1 (V0 d l s).1):=Qb.add (QUk hd w0 l hll hL s);have et:=QdI QP d E w0 (QD l) l s.1 (V0 d l s).1;have hlen:((l.length:Int)==(d.ps.n:Int))=true:=by rw[hk];simp
 unfold faY;cases h0:(((V0 d l s).1.length:Int)==0)with
 | true=>
  simp only[cond_true,Yi];refine Kw (E:=mkE prog (QBD QP d w0 l Jg Jc s.1 (V0 d l s).1)) (QN hT) func103 (by kernel_rfl) (by kernel_rfl) (QNP ..) (λG hG _=>QNm _ hT G hG) ⟨?_⟩
  refine Qe et ?_;clear et;refine QF (λb0=>?_) (λb0=>?_);refine QG ?_ ?_;rotate_left;refine QF (λb1=>?_) (λb1=>?_);refine⟨rfl,rfl,_,QUi d E w0 (QD l) l s.1 (V0 d l s).1,?_⟩
  rotate_left
  .exact Bool.noConfusion (h0.symm.trans b1)
  .exact Bool.noConfusion (hlen.symm.trans b0)
  all_goals first|((with_reducible show _=true);(first|(refine Q7.2 ?_;repeat' first|with_reducible refine QO ?_ ?_|exact tv|with_reducible exact qRr|exact rfl|refine aI ?_ ?_)|(simp;omega)))|(repeat' first|with_reducible refine QO ?_ ?_|exact tv|with_reducible exact qRr|exact rfl|refine aI ?_ ?_)
 | false=>
  simp only[cond_false,Yi];refine Kw (E:=mkE prog (QBD QP d w0 l Jg Jc s.1 (V0 d l s).1)) (QN hT) func103 (by kernel_rfl) (by kernel_rfl) (QMr ..) (λG hG _=>QNm _ hT G hG) ⟨?_⟩
  refine Qe et ?_;clear et;refine QF (λb0=>?_) (λb0=>?_);refine QG ?_ ?_;rotate_left;refine QF ?_ ?_<;>intro b1
  .exact Bool.noConfusion (h0.symm.trans b1)
  refine⟨rfl,rfl,_,QWo d E w0 (QD l) l s.1 (V0 d l s).1,?_⟩
  rotate_left
  .exact Bool.noConfusion (hlen.symm.trans b0)
  all_goals first|((with_reducible show _=true);(first|(refine Q7.2 ?_;repeat' first|with_reducible refine QO ?_ ?_|exact tv|with_reducible exact qRr|exact rfl|refine aI ?_ ?_)|(simp;omega)))|(repeat' first|with_reducible refine QO ?_ ?_|exact tv|with_reducible exact qRr|exact rfl|refine aI ?_ ?_)
theorem QJW{d:Puz}{E:ECt}{w0:List Jn}{ac body:Code}{rec:List Lay->LJ->QZ LJ}{l:List Lay}(hd:KK d)(hE:WfE E)(hl:l.length<=1000)(hL:∀ y∈l,Q9 d y)(s:LJ)(IH:∀ p,p<d.ps.n->QEP d E w0 ac body rec l p){X:List (Prop×Ex×JSt)}(hX:∀ e J,YS d E w0 ac body rec l (0,s) e J->∃ y∈X,y.1/\y.2.1=e/\y.2.2=J)(G:Ctx)(hrd:G.rd=none)(hG:G.n=520):
  Qx (mkE prog QS) G (faX prog (GR d E w0 ac body (QD l) l s.1 0) X) (Qk f103):=by
 refine KR (body:=QH f103 0) (QN Qb) hrd (by kernel_rfl) ?_
 have hEnv:∀ k:Nat×LJ,(mkE prog (qG QP d l.length k.1)).Sound:=λk=>QN (Qb.add (YP d l.length k.1));refine Jp (E0:=mkE prog QS) (E:=λk:Nat×LJ=>mkE prog (qG QP d l.length k.1)) (H:=λk=>QB0 prog QP d E w0 ac body (QD l) l k.2.1 k.1 (QAm d E w0 ac body rec l k.1 k.2)) (n0:=520) (s0:=(0,s)) (λ_=>rfl) hEnv (by omega) (λk _=>QSc hd hE hl hL k.1 k.2 (IH k.1) G hrd (by omega)) (λk _=>(by decide:520<=552)) ?_ (Qa3 d E w0 ac body rec l hd.n) (Nat.zero_le _) hX
 intro k e J hr;unfold YS at hr;split at hr<;>(rw[hr.2];exact(by decide:520<=552))
set_option maxHeartbeats 1000000 in
theorem QSf{d:Puz}{E:ECt}{w0:List Jn}(hd:KK d)(hE:WfE E){k:Nat}{l:List Lay}(hk:l.length+(k+1)=d.ps.n)(hL:∀ y∈l,Q9 d y)(IH:∀ p,p<d.ps.n->QEP d E w0 VK VI (onY d E (faY d) k) l p)(s:LJ):QR prog 103 (uFC (Yi d E w0 VK VI l s (onY d E (faY d) (k+1) l s))):=by
 have hdn:=hd.n;have hr0:onY d E (faY d) (k+1) l s=Qw (Km d E (onY d E (faY d) k) l) (List.range d.ps.n) s:=rfl;rw[hr0];have hne:((l.length:Int)==(d.ps.n:Int))=false:=by rw[beq_eq_false_iff_ne];omega
 obtain⟨f,hq0⟩:=s;cases hc:Qw (Km d E (onY d E (faY d) k) l) (List.range d.ps.n) ⟨f,hq0⟩with
 | go s'=>
  obtain⟨f',hq1⟩:=s';simp only[Yi];have et:=QKg d E w0 (QD l) (QD l) l f True False f';refine Kw (E:=mkE prog QS) (QN Qb) func103 (by kernel_rfl) (by kernel_rfl) (QMr ..) (QJW hd hE (by omega) hL ⟨f,hq0⟩ IH (X:=[(True,.exit 0,zu d E w0 VK VI (QD l) l f'),(False,.ret,faF d E w0 VK VI (QD l) l f')]) ?_) ⟨?_⟩
  .intro e J hr;unfold YS at hr;simp only[List.drop_zero,hc]at hr;exact⟨_,qmc,trivial,hr.1.symm,hr.2.symm⟩
  refine Qe et ?_;clear et;refine QF ?_ ?_<;>intro b0
  .exact Bool.noConfusion (hne.symm.trans b0)
  iterate 123 refine Qp (by first|exact tv|with_reducible exact qRr|exact rfl) ?_
  refine Kb ?_ ?_;refine Qf λa0=>?_;refine Qh λg0=>?_;refine⟨rfl,rfl,_,QT4 d E w0 (QD l) (QD l) l f f',?_⟩
  rotate_left
  refine Qf λa1=>?_;refine Qh λg1=>?_
  .exact a1.elim
  all_goals (repeat' first|with_reducible refine QO ?_ ?_|exact tv|with_reducible exact qRr|exact rfl|refine aI ?_ ?_)
 | stop s'=>
  obtain⟨f',hq1⟩:=s';simp only[Yi];have et:=QKg d E w0 (QD l) (QD l) l f False True f';refine Kw (E:=mkE prog QS) (QN Qb) func103 (by kernel_rfl) (by kernel_rfl) (QNP ..) (QJW hd hE (by omega) hL ⟨f,hq0⟩ IH (X:=[(False,.exit 0,zu d E w0 VK VI (QD l) l f'),(True,.ret,faF d E w0 VK VI (QD l) l f')]) ?_) ⟨?_⟩
  .intro e J hr;unfold YS at hr;simp only[List.drop_zero,hc]at hr;exact⟨_,List.mem_cons_of_mem _ qmc,trivial,hr.1.symm,hr.2.symm⟩
  refine Qe et ?_;clear et;refine QF ?_ ?_<;>intro b0
  .exact Bool.noConfusion (hne.symm.trans b0)
  iterate 123 refine Qp (by first|exact tv|with_reducible exact qRr|exact rfl) ?_
  refine Kb ?_ ?_;refine Qf λa0=>?_;refine Qh λg0=>?_
  .exact a0.elim
  refine Qf λa1=>?_;refine Qh λg1=>?_;refine⟨rfl,rfl,_,QXl d E w0 (QD l) (QD l) l f f',?_⟩
  rotate_left
  all_goals (repeat' first|with_reducible refine QO ?_ ?_|exact tv|with_reducible exact qRr|exact rfl|refine aI ?_ ?_)
theorem Qfe{d:Puz}{E:ECt}{w0:List Jn}(hd:KK d)(hE:WfE E)(k:Nat):∀(l:List Lay) (s:LJ),l.length+k=d.ps.n->(∀ y∈l,Q9 d y)->QR prog 103 (uFC (Yi d E w0 VK VI l s (onY d E (faY d) k l s))):=by
 induction k with
 | zero=>exact λl s hk hL=>QWa hd l s hk hL
 | succ k ih=>
  intro l s hk hL;refine QSf hd hE hk hL ?_ s;intro p hp t ht s;exact ih _ s (QBt l _ hk) (QDq hp ht hL)
def XL(U:UC):Tab:=Qa (Qa (Qa QS 60 (KE pb (nbU d E))) 89 (KE pb (joU d 0 E 1 w0))) 103 (KE pb U)
def QAe(e:Int):AV := .tup [.slz 0 0 f.length (.of 0),.int false .i64 e]
def zT:List (Nat×Blk):=[rwJ true 0 f]
abbrev QPZ:List Prop:=
  (waa d++([cO=cO]++wad d))
abbrev QPD(d:Puz):List Prop:=
  ([0=0,0=0,(1:Int)=1]++waa d++([cO=cO,0=0]++wad d++[E.1=E.1,E.2=E.2]))
abbrev QKI(d:Puz)(u:Nat->Nat->Int)(w0:List Jn):List Prop:=
  ((wb1)++waa d++(([cO=cO,0=0,E.1=E.1,E.2=E.2,0=0]++wbO d++[QB 1 d.ps.n (λx x_1=>(0:Int)) u])++wak++[Array.mk
  [24]=Array.mk [24],(QL f43 0).1=(QL f43 0).1,(QL f43 0).2=(QL f43 0).2])++waa d++(wb8++[0=0,(0:Int)=0])++waa d++(((wcc)++wa7++(([0=0,0=0,0=0,w0.length=w0.length,cO=cO,0=0,0=0,Fn.func 91=Fn.func 91,0=0,0=0,0=0,0=0]++wcd++[0=0,w0.length=w0.length,cO=cO,w0.length<=w0.length,QB 4 w0.length (λi=>QA.enc (w0.getD i (Jn.mk (0:Int) (0:Int) (0:Int) (0:Int)))) λi=>QA.enc (w0.getD i (Jn.mk (0:Int) (0:Int) (0
  : Int) (0:Int))),Fn.func 103=Fn.func 103])++wb1++[0=0,0=0,Fn.func 91=Fn.func 91,0=0,0=0]))++wad d))
abbrev QJI:List (Nat×Blk):=
  [(514,.rowz true 67 (waG) f'.length λi=>QA.enc (f'.getD i (Jn.mk (0:Int) (0:Int) (0:Int) (0:Int))))]
theorem QPN(f':List Jn):Kl (mkE prog (XL pb d E w0 (faU d E w0 (QL f43 0).1 (QL f43 0).2 u [] w0 f'))) (hnd (mkE prog (XL pb d E w0 (faU d E w0 (QL f43 0).1 (QL f43 0).2 u [] w0 f'))) 8) f43 (Qd.vals 0 ((d,()):Puz×Unit)) (Qd.blks 0 ((d,()):Puz×Unit)) 112 = .need (decide (d.ps.n<=d.ps.n)&&true&&decide (d.ps.n<=1000)) (.br (!d.ok) (.leaf (.tup [.nils,vj 1]) ([])) (.need (pb ((QPZ d))) (.need (pb ((QPD E d))) (.need (decide ((d.ps.n:Int)=(d.ps.n:Int))&&decide ((0:Int)<=(d.ps.n:Int)/\(d.ps.n:Int)<=17179869184)) (.need (pb ((QKI E d u w0))) (.leaf (.tup [.slz 514 0 f'.length cO,vj 0]) ((QJI f')))))))):=by kernel_rfl
theorem QWS(f':List Jn):Kl (mkE prog (XL pb d E w0 (faV d E w0 (QL f43 0).1 (QL f43 0).2 u [] w0 f'))) (hnd (mkE prog (XL pb d E w0 (faV d E w0 (QL f43 0).1 (QL f43 0).2 u [] w0 f'))) 8) f43 (Qd.vals 0 ((d,()):Puz×Unit)) (Qd.blks 0 ((d,()):Puz×Unit)) 112 = .need (decide (d.ps.n<=d.ps.n)&&true&&decide (d.ps.n<=1000)) (.br (!d.ok) (.leaf (.tup [.nils,vj 1]) ([])) (.need (pb ((QPZ d))) (.need (pb ((QPD E d))) (.need (decide ((d.ps.n:Int)=(d.ps.n:Int))&&decide ((0:Int)<=(d.ps.n:Int)/\(d.ps.n:Int)<=17179869184)) (.need (pb ((QKI E d u w0))) (.leaf (.tup [.slz 514 0 f'.length cO,vj 0]) ((QJI f')))))))):=by kernel_rfl
theorem Qfj(e:Int):QE 112 [(AV.tup [AV.nils,vj (1:Int)])] ([]) (KP 112 (QAe f e) (zT f))=( some [f.length=(0:Nat),(1:Int)=e,f.length=(0:Nat)]):=by kernel_rfl
abbrev wbB(f:List Jn)(f':List Jn):List Prop:=[f.length<=f'.length,QB (4:Nat) f.length (λi=>QA.enc (f'.getD i (Jn.mk (0:Int) (0:Int) (0:Int) (0:Int)))) λi=>QA.enc (f.getD i (Jn.mk (0:Int) (0:Int) (0:Int) (0:Int)))]
theorem QZf(e:Int):QE 112 [(AV.tup [AV.slz (514:Nat) (0:Nat) f'.length cO,vj (0:Int)])] ([((514:Nat),Blk.rowz true (67:Nat) [CK.int i64,CK.int i64,CK.int i64,CK.int i64] f'.length λi=>QA.enc (f'.getD i (Jn.mk (0:Int) (0:Int) (0:Int) (0:Int))))]) (KP 112 (QAe f e) (zT f))=( some ([0=0,f'.length=f.length,cO=cO,(0:Int)=e]++wbB f f')):=by kernel_rfl
theorem QYr(e:Int):QE 112 [(AV.tup [AV.slz (514:Nat) (0:Nat) f'.length cO,vj (0:Int)])] ([((514:Nat),Blk.rowz true (67:Nat) [CK.int i64,CK.int i64,CK.int i64,CK.int i64] f'.length λi=>QA.enc (f'.getD i (Jn.mk (0:Int) (0:Int) (0:Int) (0:Int))))]) (KP 112 (QAe f e) (zT f))=( some ([0=0,f'.length=f.length,cO=cO,(0:Int)=e]++wbB f f')):=by kernel_rfl
theorem QNx{α β:Type}(g:α->List β)(h:∀ x,(g x).length<=1):∀ l:List α,(l.flatMap g).length<=l.length
 | []=>qlr _
 | x::l=>by
  have h1:=h x;have h2:=QNx g h l;rw[List.flatMap_cons,List.length_append,List.length_cons];omega
def w0Z:LJ:=if h:(KN (Ke (QK d) 1)).length<=1000000000 then ⟨_,h⟩else ⟨[],by decide⟩
theorem QWN{d:Puz}(hn:d.ps.n<=1000):(w0Z d).1=KN (Ke (QK d) 1):=by
 have h1:(KN (Ke (QK d) 1)).length<=1000000000:=by
  rw[QBA];have:=QNx (VH 1) (QJz 1) (QK d).1;have h2:=(Ze d hn).l;unfold Ke;omega
 unfold w0Z;rw[dif_pos h1]
def Yp:List Jn×Int:=cond d.ok ((match onY d (QK d) (faY d) d.ps.n [] (w0Z d)with | .go s | .stop s=>s.1),0) ([],1)
def Xq:WF (Puz×Unit):=λ|(d,_)=>(decide (d.ps.n<=1000),QAe (Yp d).1 (Yp d).2,zT (Yp d).1)
def Qcx:FC:=wFC Xq
theorem QHq:WOk (Xq (d,())).2.1 (Xq (d,())).2.2:=⟨rfl,by simp[Xq,zT,rwJ,Blk.own,Blk.all],rfl⟩
theorem QV2(hn:d.ps.n<=1000)(hx:d.ok=false):QR prog 43 (wFC (VF Xq (d,()))):=by
 have hT:Qc (XL (λ_=>false) d (QK d) [] (faU d (QK d) [] VK VI (QD []) [] [] [])):=((Qb.add (Ja (by kernel_rfl) _)).add (Ja (by kernel_rfl) _)).add (Ja (by kernel_rfl) _)
 have hv:Yp d=([],1):=by simp only[Yp,hx,cond_false]
 refine YY (c:=Qk f43) (E:=mkE prog (XL (λ_=>false) d (QK d) [] (faU d (QK d) [] VK VI (QD []) [] [] []))) (H:=hnd (mkE prog (XL (λ_=>false) d (QK d) [] (faU d (QK d) [] VK VI (QD []) [] [] []))) 8) (QN hT) func43 (by kernel_rfl) (by kernel_rfl) (N:=112) (by decide) (d,()) (λG h1 _=>Qu (QN hT) 8 G _ h1) (QHq d) ?_
 refine Qe (QPN (λ_=>false) d (QK d) [] (QD []) []) ?_;refine QG (by simp;omega) (QF (λ_=>?_) (λh=>by rw[hx]at h;cases h))
 simp only[Xq,hv];refine⟨rfl,rfl,_,Qfj [] 1,?_⟩
 repeat' first|with_reducible refine QO ?_ ?_|exact tv|with_reducible exact qRr|exact rfl|refine aI ?_ ?_
theorem QZX(hx:d.ok=true):QR prog 43 (wFC (VF Xq (d,()))):=by
 have hd:=(qi (jb hx)).1;have hdn:=hd.n;have hO:=Ze d hdn;have hon:=Qfe (w0:=(w0Z d).1) hd hO.w d.ps.n [] (w0Z d) (by simp) (λc hc=>by cases hc)
 have hjo:QR prog 89 (uFC (joU d 0 (QK d) 1 (w0Z d).1)):=by
  rw[QWN hdn];exact QGf d 0 (QK d) 1 hO.w hO.m (Nat.le_trans hO.l (by decide))
 have hz:∀ k,QB 1 k (λ_ _=>0) (QD []):=λk i _=>⟨rfl,trivial⟩;cases he:onY d (QK d) (faY d) d.ps.n [] (w0Z d)with
 | go s=>
  rw[he]at hon;have hT:Qc (XL QP d (QK d) (w0Z d).1 (faU d (QK d) (w0Z d).1 VK VI (QD []) [] (w0Z d).1 s.1)):=((Qb.add (Zw d (by omega))).add hjo).add hon
  have hv:Yp d=(s.1,0):=by
   simp only[Yp,hx,he,cond_true]
  refine YY (c:=Qk f43) (E:=mkE prog (XL QP d (QK d) (w0Z d).1 (faU d (QK d) (w0Z d).1 VK VI (QD []) [] (w0Z d).1 s.1))) (H:=hnd (mkE prog (XL QP d (QK d) (w0Z d).1 (faU d (QK d) (w0Z d).1 VK VI (QD []) [] (w0Z d).1 s.1))) 8) (QN hT) func43 (by kernel_rfl) (by kernel_rfl) (N:=112) (by decide) (d,()) (λG h1 _=>Qu (QN hT) 8 G _ h1) (QHq d) ?_
  have et:=QPN QP d (QK d) (w0Z d).1 (QD []) s.1;refine Qe et ?_;clear et;refine QG ?_ ?_;rotate_left;refine QF ?_ ?_<;>intro b0
  .rw[hx]at b0;cases b0
  iterate 4 (refine QG ?_ ?_;rotate_left)
  simp only[Xq,hv];refine⟨rfl,rfl,_,QZf s.1 s.1 0,?_⟩
  rotate_left
  all_goals first|((with_reducible show _=true);(first|(refine Q7.2 ?_;repeat' first|with_reducible refine QO ?_ ?_|exact tv|with_reducible exact qRr|with_reducible exact hz _|exact rfl|refine aI ?_ ?_)|(simp;omega)))|(repeat' first|with_reducible refine QO ?_ ?_|exact tv|with_reducible exact qRr|exact rfl|refine aI ?_ ?_)
 | stop s=>
  rw[he]at hon;have hT:Qc (XL QP d (QK d) (w0Z d).1 (faV d (QK d) (w0Z d).1 VK VI (QD []) [] (w0Z d).1 s.1)):=((Qb.add (Zw d (by omega))).add hjo).add hon
  have hv:Yp d=(s.1,0):=by
   simp only[Yp,hx,he,cond_true]
  refine YY (c:=Qk f43) (E:=mkE prog (XL QP d (QK d) (w0Z d).1 (faV d (QK d) (w0Z d).1 VK VI (QD []) [] (w0Z d).1 s.1))) (H:=hnd (mkE prog (XL QP d (QK d) (w0Z d).1 (faV d (QK d) (w0Z d).1 VK VI (QD []) [] (w0Z d).1 s.1))) 8) (QN hT) func43 (by kernel_rfl) (by kernel_rfl) (N:=112) (by decide) (d,()) (λG h1 _=>Qu (QN hT) 8 G _ h1) (QHq d) ?_
  have et:=QWS QP d (QK d) (w0Z d).1 (QD []) s.1;refine Qe et ?_;clear et;refine QG ?_ ?_;rotate_left;refine QF ?_ ?_<;>intro b0
  .rw[hx]at b0;cases b0
  iterate 4 (refine QG ?_ ?_;rotate_left)
  simp only[Xq,hv];refine⟨rfl,rfl,_,QYr s.1 s.1 0,?_⟩
  rotate_left
  all_goals first|((with_reducible show _=true);(first|(refine Q7.2 ?_;repeat' first|with_reducible refine QO ?_ ?_|exact tv|with_reducible exact qRr|with_reducible exact hz _|exact rfl|refine aI ?_ ?_)|(simp;omega)))|(repeat' first|with_reducible refine QO ?_ ?_|exact tv|with_reducible exact qRr|exact rfl|refine aI ?_ ?_)
theorem QSb(hx:(Xq (d,())).1=true):QR prog 43 (wFC (VF Xq (d,()))):=by
 have hn:d.ps.n<=1000:=qdt hx;cases ho:d.ok with
 | false=>exact QV2 d hn ho
 | true=>exact QZX d ho
theorem QZh:QR prog 43 Qcx:=GP (by kernel_rfl) λ|(d,()),hx=>QSb d hx
