/- - -/
import Derived.Test.YtekbmehgcofnkaaGreatJzi
set_option linter.all false
noncomputable section
open Go.Proofs.Tryz
open Go.IntKind (i64)
set_option maxRecDepth 100000
namespace Go.Proofs.YtekbmehgcofnkaaGreat
open Go.SX Go.SX.Told
abbrev Jk:Code:=(Qp f43).1
abbrev Jo:Code:=(Qp f43).2
variable {e:MapEntry}(pb:List Prop->Bool)(d:Puz)(E:ECt)(l:List Lay)(w0:List Jn)(c:Nat)(f' f:List Jn)(M:ECt)(u:Nat->Nat->Int)
def JR(s o:Int):Jn:=cond (decide ((l.getD o.toNat ⟨0,0⟩:Lay).piece<(l.getD c ⟨0,0⟩:Lay).piece))
 ⟨(l.getD o.toNat ⟨0,0⟩:Lay).piece,onS (l.getD o.toNat ⟨0,0⟩) ((i64.wrap (s+2)).tmod 4),(l.getD c ⟨0,0⟩:Lay).piece,onS (l.getD c ⟨0,0⟩) s⟩
 ⟨(l.getD c ⟨0,0⟩:Lay).piece,onS (l.getD c ⟨0,0⟩) s,(l.getD o.toNat ⟨0,0⟩:Lay).piece,onS (l.getD o.toNat ⟨0,0⟩) ((i64.wrap (s+2)).tmod 4)⟩
def JQ(e:MapEntry):Option Jn:=cond ((QS e 0==1&&((intV e.val).tmod d.wide==0))||decide (intV e.val≥(l.length:Int))) none (some (JR l c (QS e 0) (intV e.val)))
def qA(e:MapEntry)(y:Jn):Bool:=match JQ d l c e with
 | some j=>eqJ j y
 | none=>false
def Hm(b:Nat)(y:Jn):Bool:=match M.1.find? (·.born==b)with
 | some e=>qA d l c e y
 | none=>false
def Kh(S:List Nat)(f:List Jn):List Jn:=f.filter λy=>!S.any λb=>Hm d l c M b y
def jo(e:MapEntry)(f:List Jn):List Jn:=f.filter λy=>!qA d l c e y
theorem QJi{d:Puz}{l:List Lay}{c:Nat}{f:List Jn}(h:JQ d l c e=none):jo d l c e f=f:=by
 unfold jo;rw[List.filter_eq_self];intro y _;unfold qA;rw[h];rfl
theorem QFQ{d:Puz}{l:List Lay}{c:Nat}{f:List Jn}{j:Jn}(h:JQ d l c e=some j):jo d l c e f=J5 j f:=by
 unfold jo J5 qA;rw[h]
structure QD5 (M:ECt):Prop where
 wf:wf1 .i64 .i64 M.1=true
 born:(M.1.map (·.born)).Nodup
 low:∀ e∈M.1,e.born<M.2
 key:∀ e∈M.1,0<=QS e 0/\QS e 0<=2
 val:∀ e∈M.1,0<=intV e.val
theorem Qb1{M:ECt}(hM:QD5 M)(d:Puz)(l:List Lay)(c:Nat)(S:List Nat)(f:List Jn)(he:e∈M.1):Kh d l c M (S++[e.born]) f=jo d l c e (Kh d l c M S f):=by
 unfold Kh jo;rw[List.filter_filter];congr 1;funext y
 have h1:Hm d l c M e.born y=qA d l c e y:=by
  unfold Hm;rw[vN hM.born he]
 rw[List.any_append];simp only[List.any_cons,List.any_nil,Bool.or_false,h1,Bool.not_or,Bool.and_comm]
theorem QdJ(S:List Nat)(f:List Jn):(Kh d l c M S f).length<=f.length:=List.length_filter_le _ _
def zC(P:Program)(d:Puz)(l:List Lay)(c:Nat)(M:ECt)(f0:List Jn)(S:List Nat):Env:=mkE P (QG3 QO (Kh d l c M S f0) λx=>J5 x (Kh d l c M S f0))
theorem QWM(f0:List Jn)(hf:f0.length<=1000000000)(S:List Nat):(zC prog d l c M f0 S).Sound:=
 QP (Qd.add (QcQ λx=>QZZ (Kh d l c M S f0) x (Nat.le_trans (QdJ ..) hf)))
def Qhs(l:List Lay)(c:Nat)(M:ECt)(f0:List Jn)(_:List Nat)(e:Ex)(J:JSt):Prop:=e = .exit 2/\∃ T,Xi M.1 T/\ZN M.1 T/\J=mlE d w0 l Jk Jo c (Kh d l c M T f0)
set_option maxHeartbeats 1000000 in
theorem QUy(l:List Lay)(c:Nat)(M:ECt)(f0:List Jn)(hM:QD5 M)(hw:d.wide≠0)(hcl:c<l.length)(hll:l.length<=1000)(ht:∀ i,i<l.length->0<=(l.getD i ⟨0,0⟩:Lay).turn/\(l.getD i ⟨0,0⟩:Lay).turn<=3):Jm (λS=>mlJ d w0 l Jk Jo M S c (Kh d l c M S f0)) (Xi M.1) (λS=>M.1.length-S.length) (Qhs d w0 l c M f0) 752 QMa [729,296,200] (zC prog d l c M f0) (λS=>hnd (zC prog d l c M f0 S) 3) (Qa (QJ f133 0)):=by
 refine⟨λS g hS=>?_⟩;have hS:Xi M.1 S:=hS;unfold zC;have et:=QVf QO d w0 l M S c (Kh d l c M S f0) (λx=>J5 x (Kh d l c M S f0)) g;refine Qe et ?_;clear et;refine Q2 ⟨hM.low,qlr _⟩ (Km (Qh λha=>?_) (Qj λg0=>Qh λho=>?_))
 .refine⟨_,⟨rfl,S,hS,ha,rfl⟩,rfl,rfl,_,QX1 d w0 l c (Kh d l c M S f0),?_⟩
  repeat' first|with_reducible refine QN ?_ ?_|exact tv|exact Nat.le_refl _|with_reducible exact qRr|exact qRr|exact rfl|refine aI ?_ ?_
 .obtain⟨hj,hn⟩:=ho;have hm:=QKy hj;obtain⟨hc,hh⟩:=QL2 hM.born S hm;have hS':=QKC hS hm hn;have hlen:=QE8 hS';rw[List.length_append,List.length_singleton]at hlen;have hmu:M.1.length-(S++[(M.1.getD (nxI g0) noE).born]).length<M.1.length-S.length:=by rw[List.length_append,List.length_singleton];omega
  have hc:QK M.1 (S++[(M.1.getD (nxI g0) noE).3])=M.1.getD (nxI g0) noE:=hc;have hh:YJ M.1 (S++[(M.1.getD (nxI g0) noE).3])=true:=hh;have hwf:=hM.wf;obtain⟨e,hec⟩:∃ e,QK M.1 (S++[(M.1.getD (nxI g0) noE).3])=e:=⟨_,rfl⟩;have hee:M.1.getD (nxI g0) noE=e:=hc.symm.trans hec;have hl:Kh d l c M (S++[(M.1.getD (nxI g0) noE).born]) f0=jo d l c e (Kh d l c M S f0):=by rw[<-hee];exact Qb1 hM d l c S f0 hm
  have hk:0<=QS e 0/\QS e 0<=2:=by rw[<-hee];exact hM.key _ hm
  have hv:0<=intV e.val:=by rw[<-hee];exact hM.val _ hm
  have hmod:0<=(i64.wrap (QS e 0+2)).tmod 4/\(i64.wrap (QS e 0+2)).tmod 4<=3:=by
   rw[w64 (by omega) (by omega)]
   have h1:=Int.tmod_nonneg 4 (show(0:Int)<=QS e 0+2 by omega)
   have h2:=Int.tmod_lt_of_pos (QS e 0+2) (show(0:Int)<4 by decide)
   omega
  refine QG (by rw[hh,hwf];simp) ?_
  refine QE (λb1=>QG (by simp;omega) (QE (λb2=>?_) (λb2=>?_))) (λb1=>?_)
  .rw[hec]at b1 b2;have hE:JQ d l c e=none:=by unfold JQ;rw[b1,show((intV e.val).tmod d.wide==0)=true from b2];rfl
   rw[QJi hE]at hl;refine⟨_,hS',hmu,λ_ _ r=>r,?_⟩;show JT 752 _ _ _ _ (mlJ d w0 l Jk Jo M (S++[(M.1.getD (nxI g0) noE).born]) c (Kh d l c M (S++[(M.1.getD (nxI g0) noE).born]) f0));rw[hl];refine⟨rfl,rfl,_,Qcs d w0 l M S (S++[(M.1.getD (nxI g0) noE).born]) c (Kh d l c M S f0) g0,?_⟩
   repeat' first|with_reducible refine QN ?_ ?_|exact tv|exact Nat.le_refl _|with_reducible exact qRr|exact qRr|exact rfl|refine aI ?_ ?_
  .have hk0:(QS e 0==1&&((intV e.val).tmod d.wide==0))=false:=by rw[hec]at b2;rw[show((intV e.val).tmod d.wide==0)=false from b2,Bool.and_false]
   refine QE (λb3=>?_) (λb3=>QG ?_ (QG ?_ (QG ?_ (QG ?_ (QG ?_ (QG ?_ (QE (λb4=>QG ?_ ?_) (λb4=>QG ?_ ?_))))))))
   .rw[hec]at b3;have hE:JQ d l c e=none:=by unfold JQ;rw[hk0,show decide (intV e.val≥(l.length:Int))=true from b3];rfl
    rw[QJi hE]at hl;refine⟨_,hS',hmu,λ_ _ r=>r,?_⟩;show JT 752 _ _ _ _ (mlJ d w0 l Jk Jo M (S++[(M.1.getD (nxI g0) noE).born]) c (Kh d l c M (S++[(M.1.getD (nxI g0) noE).born]) f0));rw[hl];refine⟨rfl,rfl,_,QWP d w0 l M S (S++[(M.1.getD (nxI g0) noE).born]) c (Kh d l c M S f0) g0,?_⟩
    repeat' first|with_reducible refine QN ?_ ?_|exact tv|exact Nat.le_refl _|with_reducible exact qRr|exact qRr|exact rfl|refine aI ?_ ?_
   .simp;omega
   .simp;omega
   .rw[hec];simp only[Bool.true_and,qdE];exact⟨ht c hcl,hk.1,by omega⟩
   .rw[hec]at b3 ⊢;have:=qdf b3;simp;omega
   .rw[hec]at b3 ⊢;have:=qdf b3;simp;omega
   .rw[hec]at b3 ⊢;have:=qdf b3;simp only[Bool.true_and,qdE];exact⟨ht _ (by omega),hmod⟩
   .refine Q9.2 ?_
    repeat' first|with_reducible refine QN ?_ ?_|exact tv|exact Nat.le_refl _|with_reducible exact qRr|exact qRr|exact rfl|refine aI ?_ ?_
   .rw[hec]at b3 b4;have hE:JQ d l c e=some (JR l c (QS e 0) (intV e.val)):=by unfold JQ;rw[hk0,show decide (intV e.val≥(l.length:Int))=false from b3];rfl
    have hJ:JR l c (QS e 0) (intV e.val)=⟨(l.getD (intV e.val).toNat ⟨0,0⟩:Lay).piece,onS (l.getD (intV e.val).toNat ⟨0,0⟩) ((i64.wrap (QS e 0+2)).tmod 4),(l.getD c ⟨0,0⟩:Lay).piece,onS (l.getD c ⟨0,0⟩) (QS e 0)⟩:=by unfold JR;rw[show decide ((l.getD (intV e.val).toNat ⟨0,0⟩:Lay).piece<(l.getD c ⟨0,0⟩:Lay).piece)=true from b4];rfl
    rw[QFQ hE,hJ]at hl;refine⟨_,hS',hmu,λ_ _ r=>r,rfl,rfl,_,Qed d w0 l M S (S++[(M.1.getD (nxI g0) noE).born]) c (Kh d l c M S f0) (Kh d l c M (S++[(M.1.getD (nxI g0) noE).born]) f0) (λx=>J5 x (Kh d l c M S f0)) g0,?_⟩;rw[hl];subst hec
    repeat' first|with_reducible refine QN ?_ ?_|exact tv|exact Nat.le_refl _|with_reducible exact qRr|exact qRr|exact rfl|refine aI ?_ ?_
   .refine Q9.2 ?_
    repeat' first|with_reducible refine QN ?_ ?_|exact tv|exact Nat.le_refl _|with_reducible exact qRr|exact qRr|exact rfl|refine aI ?_ ?_
   .rw[hec]at b3 b4;have hE:JQ d l c e=some (JR l c (QS e 0) (intV e.val)):=by unfold JQ;rw[hk0,show decide (intV e.val≥(l.length:Int))=false from b3];rfl
    have hJ:JR l c (QS e 0) (intV e.val)=⟨(l.getD c ⟨0,0⟩:Lay).piece,onS (l.getD c ⟨0,0⟩) (QS e 0),(l.getD (intV e.val).toNat ⟨0,0⟩:Lay).piece,onS (l.getD (intV e.val).toNat ⟨0,0⟩) ((i64.wrap (QS e 0+2)).tmod 4)⟩:=by unfold JR;rw[show decide ((l.getD (intV e.val).toNat ⟨0,0⟩:Lay).piece<(l.getD c ⟨0,0⟩:Lay).piece)=false from b4];rfl
    rw[QFQ hE,hJ]at hl;refine⟨_,hS',hmu,λ_ _ r=>r,rfl,rfl,_,QbR d w0 l M S (S++[(M.1.getD (nxI g0) noE).born]) c (Kh d l c M S f0) (Kh d l c M (S++[(M.1.getD (nxI g0) noE).born]) f0) (λx=>J5 x (Kh d l c M S f0)) g0,?_⟩;rw[hl];subst hec
    repeat' first|with_reducible refine QN ?_ ?_|exact tv|exact Nat.le_refl _|with_reducible exact qRr|exact qRr|exact rfl|refine aI ?_ ?_
  .have hk0:(QS e 0==1&&((intV e.val).tmod d.wide==0))=false:=by rw[hec]at b1;rw[b1,Bool.false_and]
   refine QE (λb3=>?_) (λb3=>QG ?_ (QG ?_ (QG ?_ (QG ?_ (QG ?_ (QG ?_ (QE (λb4=>QG ?_ ?_) (λb4=>QG ?_ ?_))))))))
   .rw[hec]at b3;have hE:JQ d l c e=none:=by unfold JQ;rw[hk0,show decide (intV e.val≥(l.length:Int))=true from b3];rfl
    rw[QJi hE]at hl;refine⟨_,hS',hmu,λ_ _ r=>r,?_⟩;show JT 752 _ _ _ _ (mlJ d w0 l Jk Jo M (S++[(M.1.getD (nxI g0) noE).born]) c (Kh d l c M (S++[(M.1.getD (nxI g0) noE).born]) f0));rw[hl];refine⟨rfl,rfl,_,QaF d w0 l M S (S++[(M.1.getD (nxI g0) noE).born]) c (Kh d l c M S f0) g0,?_⟩
    repeat' first|with_reducible refine QN ?_ ?_|exact tv|exact Nat.le_refl _|with_reducible exact qRr|exact qRr|exact rfl|refine aI ?_ ?_
   .simp;omega
   .simp;omega
   .rw[hec];simp only[Bool.true_and,qdE];exact⟨ht c hcl,hk.1,by omega⟩
   .rw[hec]at b3 ⊢;have:=qdf b3;simp;omega
   .rw[hec]at b3 ⊢;have:=qdf b3;simp;omega
   .rw[hec]at b3 ⊢;have:=qdf b3;simp only[Bool.true_and,qdE];exact⟨ht _ (by omega),hmod⟩
   .refine Q9.2 ?_
    repeat' first|with_reducible refine QN ?_ ?_|exact tv|exact Nat.le_refl _|with_reducible exact qRr|exact qRr|exact rfl|refine aI ?_ ?_
   .rw[hec]at b3 b4;have hE:JQ d l c e=some (JR l c (QS e 0) (intV e.val)):=by unfold JQ;rw[hk0,show decide (intV e.val≥(l.length:Int))=false from b3];rfl
    have hJ:JR l c (QS e 0) (intV e.val)=⟨(l.getD (intV e.val).toNat ⟨0,0⟩:Lay).piece,onS (l.getD (intV e.val).toNat ⟨0,0⟩) ((i64.wrap (QS e 0+2)).tmod 4),(l.getD c ⟨0,0⟩:Lay).piece,onS (l.getD c ⟨0,0⟩) (QS e 0)⟩:=by unfold JR;rw[show decide ((l.getD (intV e.val).toNat ⟨0,0⟩:Lay).piece<(l.getD c ⟨0,0⟩:Lay).piece)=true from b4];rfl
    rw[QFQ hE,hJ]at hl;refine⟨_,hS',hmu,λ_ _ r=>r,rfl,rfl,_,Qhz d w0 l M S (S++[(M.1.getD (nxI g0) noE).born]) c (Kh d l c M S f0) (Kh d l c M (S++[(M.1.getD (nxI g0) noE).born]) f0) (λx=>J5 x (Kh d l c M S f0)) g0,?_⟩;rw[hl];subst hec
    repeat' first|with_reducible refine QN ?_ ?_|exact tv|exact Nat.le_refl _|with_reducible exact qRr|exact qRr|exact rfl|refine aI ?_ ?_
   .refine Q9.2 ?_
    repeat' first|with_reducible refine QN ?_ ?_|exact tv|exact Nat.le_refl _|with_reducible exact qRr|exact qRr|exact rfl|refine aI ?_ ?_
   .rw[hec]at b3 b4;have hE:JQ d l c e=some (JR l c (QS e 0) (intV e.val)):=by unfold JQ;rw[hk0,show decide (intV e.val≥(l.length:Int))=false from b3];rfl
    have hJ:JR l c (QS e 0) (intV e.val)=⟨(l.getD c ⟨0,0⟩:Lay).piece,onS (l.getD c ⟨0,0⟩) (QS e 0),(l.getD (intV e.val).toNat ⟨0,0⟩:Lay).piece,onS (l.getD (intV e.val).toNat ⟨0,0⟩) ((i64.wrap (QS e 0+2)).tmod 4)⟩:=by unfold JR;rw[show decide ((l.getD (intV e.val).toNat ⟨0,0⟩:Lay).piece<(l.getD c ⟨0,0⟩:Lay).piece)=false from b4];rfl
    rw[QFQ hE,hJ]at hl;refine⟨_,hS',hmu,λ_ _ r=>r,rfl,rfl,_,QY5 d w0 l M S (S++[(M.1.getD (nxI g0) noE).born]) c (Kh d l c M S f0) (Kh d l c M (S++[(M.1.getD (nxI g0) noE).born]) f0) (λx=>J5 x (Kh d l c M S f0)) g0,?_⟩;rw[hl];subst hec
    repeat' first|with_reducible refine QN ?_ ?_|exact tv|exact Nat.le_refl _|with_reducible exact qRr|exact qRr|exact rfl|refine aI ?_ ?_
def Jd:ECt:=([{ key := .int .i64 1,val := .int .i64 (i64.wrap ((c:Int)+1)),born:=0 },{ key := .int .i64 2,val := .int .i64 (i64.wrap ((c:Int)+d.wide)),born:=1 }],2)
def moE(l:List Lay)(ac body:Code)(f:List Jn):JSt:=⟨83,[],mtW d w0 l ac body 776 f,784⟩
def QPk:Ex->List Nat
 | .normal=>[0,1,2,9,10,11]
 | _=>[]
abbrev moH(P:Program)(d:Puz)(w0:List Jn)(l:List Lay)(ac body:Code)(M:ECt)(S0:List Nat)(c:Nat)(f:List Jn)(X:List (Prop×Ex×JSt)):Hnd:={ hnd (mkE P QU) 3 with loop:=λ_=>J9 (c<l.length) (KJ 752 [729,296,200] (mlJ d w0 l ac body M S0 c f) X) }
abbrev QDM:Nat×Blk:=(729,.lp LoopState.ready none (mtT d w0 l) (Array.mk [28]) (Qp f43).1 (Qp f43).2)
abbrev QIH:Nat×Blk:=(296,.cells 0 64 [.slz 776 0 f'.length cO])
abbrev QRM:Nat×Blk:=(200,.cellsR 0 152 (List.append (waf d) ([.map 201,.slz 496 0 l.length cO])))
abbrev QOI:Nat×Blk:=(0,.frz (wae) d.ps.n λi=>QA.enc (d.ps.get i))
abbrev QFq:Nat×Blk:=(776,.rowz true 67 (waG) f'.length λi=>QA.enc (f'.getD i (Jn.mk (0:Int) (0:Int) (0:Int) (0:Int))))
abbrev QUO(l:List Lay)(w0:List Jn):List (Nat×Blk):=[(QDM d l w0),(QIH f'),(QRM d l),(696,.cellsR 0 42 [.slz 496 0 l.length cO]),(688,.cellsR 0 90 [.ptr 200 0 0]),(496,.frz kB l.length λi=> QA.enc (l.getD i (Lay.mk (0:Int) (0:Int)))),(QOI d),(QFq f')]
abbrev QKz(l:List Lay)(w0:List Jn):List (Nat×Blk):=
  [(QDM d l w0),(296,.cells 0 64 [.slz 776 0 f.length cO]),(QRM d l),(QOI d),(496,.frz kB l.length λi=>QA.enc (l.getD i (Lay.mk (0:Int)
  (0:Int)))),(696,.cellsR 0 42 [.slz 496 0 l.length cO]),(688,.cellsR 0 90 [.ptr 200 0 0]),(776,.rowz true 67 (waG) f.length fun
  i=>QA.enc (f.getD i (Jn.mk (0:Int) (0:Int) (0:Int) (0:Int))))]
theorem Qc1(l:List Lay)(M:ECt)(S0:List Nat)(c:Nat)(f f':List Jn)(g:Nat->Value):exec (mkE prog QU) (moH prog d w0 l (Qp f43).1 (Qp f43).2 M S0 c f [(True,.exit 2,mlE d w0 l (Qp f43).1 (Qp f43).2 c f')]) (QJ f133 0) (JSt.inst (mlE d w0 l (Qp f43).1 (Qp f43).2 c f) g) (KD [729,296,200] QPk) = .br (decide ((c:Int)<(l.length:Int))) (.ak (((([c<l.length]++wb9 l)++wbD c l++[784+8+8+8=808,0=0,2=M.2,[]=S0,2=M.2,[]++[MapEntry.mk (Value.int i64 1) (Value.int i64 (i64.wrap ((c:Int)+1))) 0]++[MapEntry.mk (Value.int i64 2) (Value.int i64 (i64.wrap ((c:Int)+d.wide))) 1]=M.1,2=M.2])++wai++([Array.mk [(28:Tmp)]=Array.mk [(28:Tmp)]]++wbV))++waa d++(wb1++(wb7 l++[(0:Int)=0]))++waa d++(((waB l w0++[0=0,f.length=f.length,cO=cO])++wah f++([0=0]++wb7 l))++wag l)++waa d++((wb3 l)++wad d)) (.asm (True) (.all (λ(g0:Nat->Value)=>.leaf (.tup (.nilp::.ptr 83 0 0::.yld 729::List.append (wa4 l) ([vi (i64.wrap ((c:Int)+1))]))) ((QUO d f' l w0)))))) (.leaf (.tup [.ptr 0 0 0,.ptr 83 0 0]) ((QKz d f l w0))):=by kernel_rfl
abbrev QFZ:List Prop:=((wai++(waY))++waa d++(((wb1++(wb7 l++[(0:Int)=0]))++wbu d)++waD d))
abbrev QII:List Prop:=(waB l w0)
abbrev QN0:List Prop:=([0=0,f'.length=f'.length,cO=cO]++wax f')
theorem Qcc(l:List Lay)(c c':Nat)(f':List Jn):QF 752 (.yld 729::List.append (wa4 l) ([vi (i64.wrap ((c:Int)+1))])) ((QUO d f' l w0)) (mlE d w0 l (Qp f43).1 (Qp f43).2 c' f')=(some ((wb9 l++[(l.length:Int)=(l.length:Int),i64.wrap ((c:Int)+1)=(c':Int)])++(QFZ d l)++[0=0,d.ps.n=d.ps.n]++(QII l w0)++(QN0 f')++((([0=0]++wb7 l)++wag l)++waa d++((wb3 l)++wad d)))):=by kernel_rfl
theorem QZy(l:List Lay)(f:List Jn):QF 752 [] ((QKz d f l w0)) (moE d w0 l (Qp f43).1 (Qp f43).2 f)=(some ((QFZ d l)++[0=0,d.ps.n=d.ps.n]++(QII l w0)++([0=0,f.length=f.length,cO=cO]++wah f))):=by kernel_rfl
def jD(l:List Lay)(ac body:Code)(f f':List Jn):UC:=⟨736,⟨3,[(0,.yld 729),(1,.ptr 696 0 0),(2,.ptr 688 0 0)],mtW d w0 l ac body 744 f++mtR d l,752⟩,λ_=>.tup [],λm=>mtW d w0 l ac body m f'⟩
abbrev mtH(P:Program)(d:Puz)(w0:List Jn)(l:List Lay)(ac body:Code)(f:List Jn)(X:List (Prop×Ex×JSt)):Hnd:={ hnd (mkE P QU) 3 with loop:=λ_=>KJ 752 [729,296,200] (mlE d w0 l ac body 0 f) X }
theorem QgQ(l:List Lay)(f f':List Jn):VZ (mkE prog QU) (mtH prog d w0 l (Qp f43).1 (Qp f43).2 f [(True,.exit 0,moE d w0 l (Qp f43).1 (Qp f43).2 f')]) f133 (jD d w0 l (Qp f43).1 (Qp f43).2 f f') = .ak (((wb9 l++[(l.length:Int)=(l.length:Int),(0:Int)=0])++wai++([Array.mk [(28:Tmp)]=Array.mk [(28:Tmp)]]++wbV))++waa d++(wb1++(wb7 l++[(0:Int)=0]))++waa d++(((waB l w0++[0=0,f.length=f.length,cO=cO])++wah f++([0=0]++wb7 l))++wag l)++waa d++((wb3 l)++wad d)) (.asm (True) (.all (λ(g0:Nat->Value)=>.leaf (.tup []) ([(QDM d l w0),(QIH f'),(QFq f')])))):=by kernel_rfl
theorem QdS(l:List Lay)(f f':List Jn):QF 752 [(.tup [])] ([(QDM d l w0),(QIH f'),(QFq f')]) (KX (jD d w0 l (Qp f43).1 (Qp f43).2 f f'))=(some ((QFZ d l)++[0=0,d.ps.n=d.ps.n] ++ (QII l w0)++(QN0 f'))):=by kernel_rfl
def G9(M:ECt)(f:List Jn):List Jn:=f.filter λy=>!M.1.any λe=>qA d l c e y
theorem QUk{M:ECt}(hM:QD5 M)(d:Puz)(l:List Lay)(c:Nat){T:List Nat}(f:List Jn)(h1:Xi M.1 T)(h2:ZN M.1 T):Kh d l c M T f=G9 d l c M f:=by
 unfold Kh G9;congr 1;funext y;congr 1;rw[Bool.eq_iff_iff,List.any_eq_true,List.any_eq_true];constructor
 .rintro⟨b,hb,hh⟩;obtain⟨e,he,rfl⟩:=List.mem_map.1 (h1.sub b hb);refine⟨e,he,?_⟩;unfold Hm at hh;rw[vN hM.born he]at hh;exact hh
 .rintro⟨e,he,hh⟩;refine⟨e.born,h2 e he,?_⟩;unfold Hm;rw[vN hM.born he];exact hh
theorem QVm{d:Puz}(hd:KB d){c:Nat}(hc:c<=1000):QD5 (Jd d c):=by
 have h1:=hd.w1;have h2:=hd.wn;have h3:=hd.n;refine⟨rfl,by simp[Jd],?_,?_,?_⟩
 .intro e he;simp only[Jd,List.mem_cons,List.not_mem_nil,or_false]at he;rcases he with rfl|rfl
  .exact(by decide:(0:Nat)<2)
  .exact(by decide:(1:Nat)<2)
 .intro e he;simp only[Jd,List.mem_cons,List.not_mem_nil,or_false]at he;rcases he with rfl|rfl
  .exact(by decide:(0:Int)<=1/\(1:Int)<=2)
  .exact(by decide:(0:Int)<=2/\(2:Int)<=2)
 .intro e he;simp only[Jd,List.mem_cons,List.not_mem_nil,or_false]at he;rcases he with rfl|rfl
  .show 0<=i64.wrap ((c:Int)+1);rw[w64 (by omega) (by omega)];omega
  .show 0<=i64.wrap ((c:Int)+d.wide);rw[w64 (by omega) (by omega)];omega
def Zn(f:LJ)(c:Nat):LJ:=⟨G9 d l c (Jd d c) f.1,Nat.le_trans (List.length_filter_le _ _) f.2⟩
def J4(f:LJ):LJ:=(List.range l.length).foldl (Zn d l) f
theorem QbW{d:Puz}(hd:KB d)(w0:List Jn)(l:List Lay)(hll:l.length<=1000)(hL:∀ y∈l,Q0 d y)(c:Nat)(f:LJ)(G:Ctx)(hrd:G.rd=none)(hG:G.n<=752):
  Q1 (mkE prog QU) G (moH prog d w0 l Jk Jo (Jd d c) [] c f.1 [(True,.exit 2,mlE d w0 l Jk Jo c (Zn d l f c).1)]) (QJ f133 0):=by
 refine Kk (body:=Qa (QJ f133 0)) (QP Qd) hrd (by kernel_rfl) ?_
 refine Vy λhc=>?_;have hw1:=hd.w1;have hM:=QVm hd (c:=c) (by omega)
 have h0:Kh d l c (Jd d c) [] f.1=f.1:=by
  unfold Kh;rw[List.filter_eq_self];intro y _;rfl
 have hJ:mlJ d w0 l Jk Jo (Jd d c) [] c f.1=mlJ d w0 l Jk Jo (Jd d c) [] c (Kh d l c (Jd d c) [] f.1):=by rw[h0]
 rw[hJ]
 have ht:∀ i,i<l.length->0<=(l.getD i ⟨0,0⟩:Lay).turn/\(l.getD i ⟨0,0⟩:Lay).turn<=3:=λi hi=>by
  rw[K8 hi];exact(hL _ (List.getElem_mem hi)).t
 have hEnv:=QWM d l c (Jd d c) f.1 f.2;refine Jz (E0:=mkE prog QU) (E:=zC prog d l c (Jd d c) f.1) (H:=λS=>hnd (zC prog d l c (Jd d c) f.1 S) 3) (n0:=752) (s0:=[]) (λ_=>rfl) hEnv hG (λS _=>Qw (hEnv S) 3 G _ hrd) (λS _=>(by decide:752<=832)) ?_ (QUy d w0 l c (Jd d c) f.1 hM (by omega) hc hll ht) ⟨List.nodup_nil,λb hb=>by cases hb⟩ ?_
 .rintro S e J ⟨_,T,_,_,rfl⟩;exact(by decide:752<=784)
 .rintro e J ⟨rfl,T,h1,h2,rfl⟩;refine⟨_,qmc,trivial,rfl,?_⟩;rw[QUk hM d l c f.1 h1 h2];rfl
def QF9(l:List Lay)(k:Nat×LJ)(e:Ex)(J:JSt):Prop:=e = .exit 0/\J=moE d w0 l Jk Jo (((List.range l.length).drop k.1).foldl (Zn d l) k.2).1
set_option maxHeartbeats 1000000 in
theorem QcN(l:List Lay)(hll:l.length<=1000):Jm (λk:Nat×LJ=>mlE d w0 l Jk Jo k.1 k.2.1) (λk=>k.1<=l.length) (λk=>l.length-k.1) (QF9 d w0 l) 752 QPk [729,296,200] (λ_=>mkE prog QU) (λk=>moH prog d w0 l Jk Jo (Jd d k.1) [] k.1 k.2.1 [(True,.exit 2,mlE d w0 l Jk Jo k.1 (Zn d l k.2 k.1).1)]) (QJ f133 0):=by
 refine⟨λk g0 hk=>?_⟩;obtain⟨c,f⟩:=k;have hk:c<=l.length:=hk;have et:=Qc1 d w0 l (Jd d c) [] c f.1 (Zn d l f c).1 g0;refine Qe et ?_;clear et;refine QE (λb0=>?_) (λb0=>?_);have h:c<l.length:=by have:=qdt b0;omega
 have hw:=VJ h hll
 iterate 128 refine Q2 (by first|exact tv|exact h|with_reducible exact qRr|exact rfl) ?_
 refine Qh λa0=>?_;refine Qj λg0=>?_
 .refine⟨(c+1,Zn d l f c),h,by show l.length-(c+1)<l.length-c;omega,λe J hr=>?_,rfl,rfl,_,Qcc d w0 l c (c+1) (Zn d l f c).1,?_⟩
  .unfold QF9 at hr ⊢;simp only at hr ⊢;rw[QJS h];exact hr
  .repeat' first|with_reducible refine QN ?_ ?_|exact tv|with_reducible exact qRr|exact hw|exact rfl|refine aI ?_ ?_
 have h:l.length<=c:=by have:=qdf b0;omega
 refine⟨_,(by unfold QF9;simp only[QGk h,and_self]),rfl,rfl,_,QZy d w0 l f.1,?_⟩
 rotate_left
 all_goals (repeat' first|with_reducible refine QN ?_ ?_|exact tv|with_reducible exact qRr|exact rfl|refine aI ?_ ?_)
theorem Qdr{d:Puz}(hd:KB d)(w0:List Jn)(l:List Lay)(hll:l.length<=1000)(hL:∀ y∈l,Q0 d y)(f:LJ)(G:Ctx)(hrd:G.rd=none)(hG:G.n=752):
  Q1 (mkE prog QU) G (mtH prog d w0 l Jk Jo f.1 [(True,.exit 0,moE d w0 l Jk Jo (J4 d l f).1)]) (Qk f133):=by
 refine Kk (body:=QJ f133 0) (QP Qd) hrd (by kernel_rfl) ?_
 refine Jz (E0:=mkE prog QU) (E:=λ_:Nat×LJ=>mkE prog QU) (H:=λk=>moH prog d w0 l Jk Jo (Jd d k.1) [] k.1 k.2.1 [(True,.exit 2,mlE d w0 l Jk Jo k.1 (Zn d l k.2 k.1).1)]) (n0:=752) (s0:=(0,f)) (λ_=>rfl) (λ_=>QP Qd) (by omega) (λk _=>QbW hd w0 l hll hL k.1 k.2 G hrd (by omega)) (λk _=>(by decide:752<=784)) ?_ (QcN d w0 l hll) (Nat.zero_le _) ?_
 .rintro k e J ⟨_,rfl⟩;exact(by decide:752<=784)
 .rintro e J ⟨rfl,rfl⟩;exact⟨_,qmc,trivial,rfl,rfl⟩
theorem QUc(l:List Lay)(ac body:Code)(f f':List Jn):(jD d w0 l ac body f f').Ok:=by
 refine⟨(by decide:736<=752),rfl,rfl,?_,rfl,λ_ _=>rfl,λnid h=>?_⟩
 .intro q hq;simp only[UC.po,jD,mtW,rwJ,List.mem_cons,List.not_mem_nil,or_false]at hq;rcases hq with rfl|rfl|rfl<;>refine⟨rfl,rfl,rfl,?_⟩<;>first|exact λ_=>rfl|exact λh=>absurd (show 752<736 from h) (by decide)
 .have e0:=Kj 736 752 0 nid (by decide)
  simp only[UC.po,jD,mtW,rwJ,mtT,Kb,Qo.val,List.cons_append,List.nil_append,List.map_cons,List.map_nil,Blk.mapId,AV.mapId,AV.mapIdL,Nat.add_zero]at e0 ⊢;rw[e0];rfl
theorem Qc8{d:Puz}(hd:KB d)(w0:List Jn)(l:List Lay)(hll:l.length<=1000)(hL:∀ y∈l,Q0 d y)(f:LJ):QQ prog 133 (uFC (jD d w0 l Jk Jo f.1 (J4 d l f).1)):=by
 refine K4 (c:=Qk f133) (E:=mkE prog QU) (QP Qd) func133 (by kernel_rfl) (by kernel_rfl) (QUc ..) (λG h1 h2=>Qdr hd w0 l hll hL f G h1 (by rw[h2];rfl)) ⟨?_⟩
 have et:=QgQ d w0 l f.1 (J4 d l f).1;refine Qe et ?_;clear et
 iterate 119 refine Q2 (by first|exact tv|with_reducible exact qRr|exact rfl) ?_
 refine Qh λa0=>?_;refine Qj λg0=>?_;refine⟨rfl,rfl,_,QdS d w0 l f.1 (J4 d l f).1,?_⟩
 rotate_left
 all_goals (repeat' first|with_reducible refine QN ?_ ?_|exact tv|with_reducible exact qRr|exact rfl|refine aI ?_ ?_)
def QAc(l:List Lay)(ac2 body2:Code)(f f':List Jn):Tab:=QZ QU 133 (KI pb (jD d w0 l ac2 body2 f f'))
abbrev faM(P : Program)(T : Tab): Hnd := { hnd (mkE P T) 5 with loop := λ_ _ _=>.fail "a loop" }
abbrev QTz:Nat×Blk:=(200,.cells 0 152 (List.append (waf d) ([.map 201,.slz 496 0 l.length cO])))
abbrev QNm:List AV:=(List.append (waC d) ([.bool false d.turn,.slz 0 0 d.ps.n cO]))
abbrev QK1:List AV:=[.agg (QNm d),.ptr 112 0 0,.nils,vj 0,.ptr 200 0 0,vj 0,.ptr 296 0 0,.ptr 328 0 0,.tup [],.tup [],.tup [.ptr 200 0 0,vj 0],.agg (QNm d),.tup [.ptr 200 0 0,vj 0],.ptr 200 0 0,vj 0,vj 0,.bool true false,.tup [],.ptr 200 0 0,.slz 288 0 w0.length cO,.ptr 200 0 0,.mth (Fn.func 91) [.ptr 200 0 0],.ptr 200 0 0,.fn (Fn.func 102) [.ptr 352 0 0,.ptr 360 0 0],.tup [],.tup [],.tup [],.tup [],.tup [],.tup [],.tup [],.tup [],.tup [],.tup [],.tup [],.tup []]
abbrev QPw:Nat×Blk:=(0,.frz (wae) d.ps.n λi=>QA.enc (d.ps.get i))
abbrev QNt:Nat×Blk:=(736,.rowz true 67 (waG) f'.length λi=>QA.enc (f'.getD i (Jn.mk (0:Int) (0:Int) (0:Int) (0:Int))))
abbrev wbj(d:Puz)(l:List Lay)(u:Nat->Nat->Int):List (Nat×Blk):=[(496,.rowz true 49 kB l.length λi=>QA.enc (l.getD i (Lay.mk (0:Int) (0:Int)))),(504,.rowz true 4 [CK.bool] d.ps.n u),(328,.cellsR 0 141 [.mth (Fn.func 91) [.ptr 200 0 0]]),(352,.cellsR 0 90 [.ptr 200 0 0]),(360,.cellsR 0 96 [.nils])]
abbrev QMV(d:Puz)(f':List Jn)(l:List Lay)(u:Nat->Nat->Int)(w0:List Jn):List (Nat×Blk):=((QTz d l)::(201,.mp E.1 E.2)::(464,.cells 0 114 [.slz 504 0 d.ps.n cO])::(393,.lp LoopState.done (some (Code.exit 0)) (QK1 d w0) (Array.mk [24]) ((QM f43 0).1) ((QM f43 0).2))::(296,.cells 0 64 [.slz 736 0 f'.length cO])::(QPw d)::List.append (wbj d l u) ([(QNt f')]))
abbrev QKK(d:Puz)(f':List Jn)(l:List Lay)(u:Nat->Nat->Int)(w0:List Jn):List (Nat×Blk):=((QTz d l)::(201,.mp E.1 E.2)::(464,.cells 0 114 [.slz 504 0 d.ps.n cO])::(393,.lp LoopState.ready none (QK1 d w0) (Array.mk [24]) ((QM f43 0).1) ((QM f43 0).2))::(296,.cells 0 64 [.slz 736 0 f'.length cO])::(QPw d)::List.append (wbj d l u) ([(QNt f')]))
theorem QcA(l:List Lay)(f f':List Jn):(Vu (mkE prog (QAc pb d w0 l (Qp f43).1 (Qp f43).2 f f')) (faM prog (QAc pb d w0 l (Qp f43).1 (Qp f43).2 f f')) f103
  QHn (ve d E w0 (QM f43 0).1 (QM f43 0).2 u l f).hp 520 λv h _=>Zf Z7 v h) = .br ((l.length:Int)==(d.ps.n:Int)) (.need (pb ([0=0,0=0,0 =
  0,0=0,LoopState.ready=LoopState.ready,(none:Option Code)=none,Array.mk [28]=Array.mk [28],(Qp f43).1=(Qp f43).1,(Qp f43).2=(Qp
  f43).2,d.pK.length=d.pK.length,d.pK.aK=d.pK.aK,d.pK.oK=d.pK.oK,d.pK.dK.lo=d.pK.dK.lo,d.pK.dK.hi=d.pK.dK.hi,d.wide =
  d.wide,d.high=d.high,d.turn=d.turn,0=0,d.ps.n=d.ps.n,Cap.of 0=Cap.of 0,0=0,0=0,(0:Int)=0,0=0,0=0,(0:Int)=0,0=0,0=0,0=0,0=0,0=0,
  l.length=l.length,Cap.of 0=Cap.of 0,0=0,0=0,(0:Int)=0,d.pK.length=d.pK.length,d.pK.aK=d.pK.aK,d.pK.oK=d.pK.oK,d.pK.dK.lo =
  d.pK.dK.lo,d.pK.dK.hi=d.pK.dK.hi,d.wide=d.wide,d.high=d.high,d.turn=d.turn,0=0,d.ps.n=d.ps.n,Cap.of 0=Cap.of 0,0=0,0=0,(0:Int)=0,0=0,
  0=0,(0:Int)=0,(0:Int)=0,false=false,0=0,0=0,0=0,w0.length=w0.length,Cap.of 0=Cap.of 0,0=0,0=0,Fn.func 91=Fn.func 91,0=0,0=0,0=0,0 =
  0,Fn.func 102=Fn.func 102,0=0,0=0,0=0,0=0,0=0,l.length=l.length,Cap.of 0=Cap.of 0,Fn.func 91=Fn.func 91,0=0,0=0,0=0,l.length=l.length,Cap.of
  0=Cap.of 0,Fn.func 133=Fn.func 133,0=0,0=0,0=0,0=0,0=0,f.length=f.length,Cap.of 0=Cap.of 0,f.length<=f.length,QB 4 f.length (λi=>QA.enc
  (f.getD i (Jn.mk (0:Int) (0:Int) (0:Int) (0:Int)))) λi=>QA.enc (f.getD i (Jn.mk (0:Int) (0:Int) (0:Int) (0:Int))),0=0,l.length=l.length,Cap.of 0 =
  Cap.of 0,0=0,0=0,l.length<=l.length,QB 2 l.length (λi=>QA.enc (l.getD i (Lay.mk (0:Int) (0:Int)))) λi=>QA.enc (l.getD i (Lay.mk (0:Int) (0:Int))),
  d.pK.length=d.pK.length,d.pK.aK=d.pK.aK,d.pK.oK=d.pK.oK,d.pK.dK.lo=d.pK.dK.lo,d.pK.dK.hi=d.pK.dK.hi,d.wide=d.wide,d.high =
  d.high,d.turn=d.turn,0=0,d.ps.n=d.ps.n,Cap.of 0=Cap.of 0,0=0,l.length=l.length,Cap.of 0=Cap.of 0,d.ps.n<=d.ps.n,QB 28 d.ps.n (λi=>QA.enc (d.ps.get
  i)) λi=>QA.enc (d.ps.get i)])) (.br ((f'.length:Int)==0) (.leaf (.bool true false) ((QMV E d f' l u w0))) (.leaf (.bool true true) ((QKK E d f' l u w0))))) (.fail
  ("a loop")) := by kernel_rfl
abbrev vh:List Prop:=(waa d++[cO=cO,0=0])
abbrev QPr(d:Puz)(l:List Lay):List Prop:=((wbO E l)++wag l++(wbo d))
abbrev QC3:List Prop:=[0=0,(0:Int)=0,0=0,0=0,(0:Int)=0]
abbrev vk:List Prop:=[0=0,0=0,0=0,0=0]
abbrev QNx:List Prop:=[(0:Int)=0,false=false,0=0,0=0,0=0,w0.length=w0.length,cO=cO,0=0,0=0,Fn.func 91=Fn.func (91:FuncId)]
abbrev QMT:List Prop:=([0=0,f'.length=f'.length,cO=cO]++wax f')
theorem Qdn(l:List Lay)(f f':List Jn):QF 520 [(.bool true false)] ((QMV E d f' l u w0)) (KX (faV d E w0 (QM f43 0).1 (QM f43 0).2 u l f f'))=(some ([false=false]++(vh d)++(QPr E d l) ++ ([QB 1 d.ps.n u u]++waP++(wa8))++(vh d)++QC3++vk++[0=0,0=0,(0:Int)=0]++(vh d)++QC3++(QNx w0)++vk++[Fn.func 102=Fn.func (102:FuncId)]++vk++(QMT f'))):=by kernel_rfl
theorem QXD(l:List Lay)(f f':List Jn):QF 520 [(.bool true true)] ((QKK E d f' l u w0)) (KX (faU d E w0 (QM f43 0).1 (QM f43 0).2 u l f f'))=(some ([true=true]++(vh d)++(QPr E d l) ++ ([QB 1 d.ps.n u u]++wai++(wa8))++(vh d)++QC3++vk++[0=0,0=0,(0:Int)=0]++(vh d)++QC3++(QNx w0)++vk++[Fn.func 102=Fn.func (102:FuncId)]++vk++(QMT f'))):=by kernel_rfl
def faY(s:LJ):Qb LJ:=cond (((J4 d l s).1.length:Int)==0) (.stop (J4 d l s)) (.go (J4 d l s))
theorem QTh(T:Tab)(hT:Qc T)(G:Ctx)(hrd:G.rd=none):Q1 (mkE prog T) G (faM prog T) (Qk f103):=
 Kk (body:=QJ f103 0) (QP hT) hrd (by kernel_rfl) (λ_ _ _ _ _ _ _ h _ _=>h.elim)
set_option maxHeartbeats 1000000 in
theorem QWG{d:Puz}(hd:KB d){E:ECt}{w0:List Jn}(l:List Lay)(s:LJ)(hk:l.length=d.ps.n)(hL:∀ y∈l,Q0 d y):QQ prog 103 (uFC (Ys d E w0 VR VW l s (faY d l s))):=by
 have hll:l.length<=1000:=by rw[hk];exact hd.n
 have hT:Qc (QAc QO d w0 l Jk Jo s.1 (J4 d l s).1):=Qd.add (Qc8 hd w0 l hll hL s);have et:=QcA QO d E w0 (QD l) l s.1 (J4 d l s).1;have hlen:((l.length:Int)==(d.ps.n:Int))=true:=by rw[hk];simp
 unfold faY;cases h0:(((J4 d l s).1.length:Int)==0)with
 | true=>
  simp only[cond_true,Ys];refine K4 (E:=mkE prog (QAc QO d w0 l Jk Jo s.1 (J4 d l s).1)) (QP hT) func103 (by kernel_rfl) (by kernel_rfl) (QQh ..) (λG hG _=>QTh _ hT G hG) ⟨?_⟩
  refine Qe et ?_;clear et;refine QE (λb0=>?_) (λb0=>?_);refine QG ?_ ?_;rotate_left;refine QE (λb1=>?_) (λb1=>?_);refine⟨rfl,rfl,_,Qdn d E w0 (QD l) l s.1 (J4 d l s).1,?_⟩
  rotate_left
  .exact Bool.noConfusion (h0.symm.trans b1)
  .exact Bool.noConfusion (hlen.symm.trans b0)
  all_goals first|((with_reducible show _=true);(first|(refine Q9.2 ?_;repeat' first|with_reducible refine QN ?_ ?_|exact tv|with_reducible exact qRr|exact rfl|refine aI ?_ ?_)|(simp;omega)))|(repeat' first|with_reducible refine QN ?_ ?_|exact tv|with_reducible exact qRr|exact rfl|refine aI ?_ ?_)
 | false=>
  simp only[cond_false,Ys];refine K4 (E:=mkE prog (QAc QO d w0 l Jk Jo s.1 (J4 d l s).1)) (QP hT) func103 (by kernel_rfl) (by kernel_rfl) (QNw ..) (λG hG _=>QTh _ hT G hG) ⟨?_⟩
  refine Qe et ?_;clear et;refine QE (λb0=>?_) (λb0=>?_);refine QG ?_ ?_;rotate_left;refine QE ?_ ?_<;>intro b1
  .exact Bool.noConfusion (h0.symm.trans b1)
  refine⟨rfl,rfl,_,QXD d E w0 (QD l) l s.1 (J4 d l s).1,?_⟩
  rotate_left
  .exact Bool.noConfusion (hlen.symm.trans b0)
  all_goals first|((with_reducible show _=true);(first|(refine Q9.2 ?_;repeat' first|with_reducible refine QN ?_ ?_|exact tv|with_reducible exact qRr|exact rfl|refine aI ?_ ?_)|(simp;omega)))|(repeat' first|with_reducible refine QN ?_ ?_|exact tv|with_reducible exact qRr|exact rfl|refine aI ?_ ?_)
theorem QS7{d:Puz}{E:ECt}{w0:List Jn}{ac body:Code}{rec:List Lay->LJ->Qb LJ}{l:List Lay}(hd:KB d)(hE:WfE E)(hl:l.length<=1000)(hL:∀ y∈l,Q0 d y)(s:LJ)(IH:∀ p,p<d.ps.n->QCB d E w0 ac body rec l p){X:List (Prop×Ex×JSt)}(hX:∀ e J,YT d E w0 ac body rec l (0,s) e J->∃ y∈X,y.1/\y.2.1=e/\y.2.2=J)(G:Ctx)(hrd:G.rd=none)(hG:G.n=520):
  Q1 (mkE prog QU) G (faX prog (Gb d E w0 ac body (QD l) l s.1 0) X) (Qk f103):=by
 refine Kk (body:=QJ f103 0) (QP Qd) hrd (by kernel_rfl) ?_
 have hEnv:∀ k:Nat×LJ,(mkE prog (qb QO d l.length k.1)).Sound:=λk=>QP (Qd.add (Yg d l.length k.1));refine Jz (E0:=mkE prog QU) (E:=λk:Nat×LJ=>mkE prog (qb QO d l.length k.1)) (H:=λk=>QCj prog QO d E w0 ac body (QD l) l k.2.1 k.1 (QBa d E w0 ac body rec l k.1 k.2)) (n0:=520) (s0:=(0,s)) (λ_=>rfl) hEnv (by omega) (λk _=>QW5 hd hE hl hL k.1 k.2 (IH k.1) G hrd (by omega)) (λk _=>(by decide:520<=552)) ?_ (QaP d E w0 ac body rec l hd.n) (Nat.zero_le _) hX
 intro k e J hr;unfold YT at hr;split at hr<;>(rw[hr.2];exact(by decide:520<=552))
set_option maxHeartbeats 1000000 in
theorem QiG{d:Puz}{E:ECt}{w0:List Jn}(hd:KB d)(hE:WfE E){k:Nat}{l:List Lay}(hk:l.length+(k+1)=d.ps.n)(hL:∀ y∈l,Q0 d y)(IH:∀ p,p<d.ps.n->QCB d E w0 VR VW (onY d E (faY d) k) l p)(s:LJ):QQ prog 103 (uFC (Ys d E w0 VR VW l s (onY d E (faY d) (k+1) l s))):=by
 have hdn:=hd.n;have hr0:onY d E (faY d) (k+1) l s=Q4 (K0 d E (onY d E (faY d) k) l) (List.range d.ps.n) s:=rfl;rw[hr0];have hne:((l.length:Int)==(d.ps.n:Int))=false:=by rw[beq_eq_false_iff_ne];omega
 obtain⟨f,hq0⟩:=s;cases hc:Q4 (K0 d E (onY d E (faY d) k) l) (List.range d.ps.n) ⟨f,hq0⟩with
 | go s'=>
  obtain⟨f',hq1⟩:=s';simp only[Ys];have et:=QSb d E w0 (QD l) (QD l) l f True False f';refine K4 (E:=mkE prog QU) (QP Qd) func103 (by kernel_rfl) (by kernel_rfl) (QNw ..) (QS7 hd hE (by omega) hL ⟨f,hq0⟩ IH (X:=[(True,.exit 0,HR d E w0 VR VW (QD l) l f'),(False,.ret,faF d E w0 VR VW (QD l) l f')]) ?_) ⟨?_⟩
  .intro e J hr;unfold YT at hr;simp only[List.drop_zero,hc]at hr;exact⟨_,qmc,trivial,hr.1.symm,hr.2.symm⟩
  refine Qe et ?_;clear et;refine QE ?_ ?_<;>intro b0
  .exact Bool.noConfusion (hne.symm.trans b0)
  iterate 123 refine Q2 (by first|exact tv|with_reducible exact qRr|exact rfl) ?_
  refine Km ?_ ?_;refine Qh λa0=>?_;refine Qj λg0=>?_;refine⟨rfl,rfl,_,QX8 d E w0 (QD l) (QD l) l f f',?_⟩
  rotate_left
  refine Qh λa1=>?_;refine Qj λg1=>?_
  .exact a1.elim
  all_goals (repeat' first|with_reducible refine QN ?_ ?_|exact tv|with_reducible exact qRr|exact rfl|refine aI ?_ ?_)
 | stop s'=>
  obtain⟨f',hq1⟩:=s';simp only[Ys];have et:=QSb d E w0 (QD l) (QD l) l f False True f';refine K4 (E:=mkE prog QU) (QP Qd) func103 (by kernel_rfl) (by kernel_rfl) (QQh ..) (QS7 hd hE (by omega) hL ⟨f,hq0⟩ IH (X:=[(False,.exit 0,HR d E w0 VR VW (QD l) l f'),(True,.ret,faF d E w0 VR VW (QD l) l f')]) ?_) ⟨?_⟩
  .intro e J hr;unfold YT at hr;simp only[List.drop_zero,hc]at hr;exact⟨_,List.mem_cons_of_mem _ qmc,trivial,hr.1.symm,hr.2.symm⟩
  refine Qe et ?_;clear et;refine QE ?_ ?_<;>intro b0
  .exact Bool.noConfusion (hne.symm.trans b0)
  iterate 123 refine Q2 (by first|exact tv|with_reducible exact qRr|exact rfl) ?_
  refine Km ?_ ?_;refine Qh λa0=>?_;refine Qj λg0=>?_
  .exact a0.elim
  refine Qh λa1=>?_;refine Qj λg1=>?_;refine⟨rfl,rfl,_,QVp d E w0 (QD l) (QD l) l f f',?_⟩
  rotate_left
  all_goals (repeat' first|with_reducible refine QN ?_ ?_|exact tv|with_reducible exact qRr|exact rfl|refine aI ?_ ?_)
theorem Qcx{d:Puz}{E:ECt}{w0:List Jn}(hd:KB d)(hE:WfE E)(k:Nat):∀(l:List Lay) (s:LJ),l.length+k=d.ps.n->(∀ y∈l,Q0 d y)->QQ prog 103 (uFC (Ys d E w0 VR VW l s (onY d E (faY d) k l s))):=by
 induction k with
 | zero=>exact λl s hk hL=>QWG hd l s hk hL
 | succ k ih=>
  intro l s hk hL;refine QiG hd hE hk hL ?_ s;intro p hp t ht s;exact ih _ s (QEo l _ hk) (QEX hp ht hL)
def XY(U:UC):Tab:=QZ (QZ (QZ QU 60 (KI pb (nbU d E))) 89 (KI pb (joU d 0 E 1 w0))) 103 (KI pb U)
def QAC(e:Int):AV := .tup [.slz 0 0 f.length (.of 0),.int false .i64 e]
def vq:List (Nat×Blk):=[rwJ true 0 f]
abbrev QSR:List Prop:=(waa d++([cO=cO]++wad d))
abbrev QS1(d:Puz):List Prop:=([0=0,0=0,(1:Int)=1]++waa d++([cO=cO,0=0]++wad d++[E.1=E.1,E.2=E.2]))
abbrev QTa(d:Puz)(u:Nat->Nat->Int)(w0:List Jn):List Prop:=((wbN)++waa d++(([cO=cO,0=0,E.1=E.1,E.2=E.2,0=0]++wbo d++[QB 1 d.ps.n (λx x_1=>(0:Int)) u])++wai++[Array.mk [24]=Array.mk [24],(QM f43 0).1=(QM f43 0).1,(QM f43 0).2=(QM f43 0).2])++waa d++(wb1++[0=0,(0:Int)=0])++waa d++(((wb5)++wa2++(([0=0,0=0,0=0,w0.length=w0.length,cO=cO,0=0,0=0,Fn.func 91=Fn.func 91,0=0,0=0,0=0,0=0]++wb6++[0=0,w0.length=w0.length,cO=cO,w0.length<=w0.length,QB 4 w0.length (λi=>QA.enc (w0.getD i (Jn.mk (0:Int) (0:Int) (0:Int) (0:Int)))) λi=>QA.enc (w0.getD i (Jn.mk (0:Int) (0:Int) (0:Int) (0:Int))),Fn.func 103=Fn.func 103])++wbN++[0=0,0=0,Fn.func 91=Fn.func 91,0=0,0=0]))++wad d))
abbrev QKg:List (Nat×Blk):=[(514,.rowz true 67 (waG) f'.length λi=>QA.enc (f'.getD i (Jn.mk (0:Int) (0:Int) (0:Int) (0:Int))))]
theorem QPn(f':List Jn):Kf (mkE prog (XY pb d E w0 (faU d E w0 (QM f43 0).1 (QM f43 0).2 u [] w0 f'))) (hnd (mkE prog (XY pb d E w0 (faU d E w0 (QM f43 0).1 (QM f43 0).2 u [] w0 f'))) 8) f43 (QX.vals 0 ((d,()):Puz×Unit)) (QX.blks 0 ((d,()):Puz×Unit)) 112 = .need (decide (d.ps.n<=d.ps.n)&&true&&decide (d.ps.n<=1000)) (.br (!d.ok) (.leaf (.tup [.nils,vj 1]) ([])) (.need (pb ((QSR d))) (.need (pb ((QS1 E d))) (.need (decide ((d.ps.n:Int)=(d.ps.n:Int))&&decide ((0:Int)<=(d.ps.n:Int)/\(d.ps.n:Int)<=17179869184)) (.need (pb ((QTa E d u w0))) (.leaf (.tup [.slz 514 0 f'.length cO,vj 0]) ((QKg f')))))))):=by kernel_rfl
theorem Qcz(f':List Jn):Kf (mkE prog (XY pb d E w0 (faV d E w0 (QM f43 0).1 (QM f43 0).2 u [] w0 f'))) (hnd (mkE prog (XY pb d E w0 (faV d E w0 (QM f43 0).1 (QM f43 0).2 u [] w0 f'))) 8) f43 (QX.vals 0 ((d,()):Puz×Unit)) (QX.blks 0 ((d,()):Puz×Unit)) 112 = .need (decide (d.ps.n<=d.ps.n)&&true&&decide (d.ps.n<=1000)) (.br (!d.ok) (.leaf (.tup [.nils,vj 1]) ([])) (.need (pb ((QSR d))) (.need (pb ((QS1 E d))) (.need (decide ((d.ps.n:Int)=(d.ps.n:Int))&&decide ((0:Int)<=(d.ps.n:Int)/\(d.ps.n:Int)<=17179869184)) (.need (pb ((QTa E d u w0))) (.leaf (.tup [.slz 514 0 f'.length cO,vj 0]) ((QKg f')))))))):=by kernel_rfl
theorem Qcn(e:Int):QF 112 [(AV.tup [AV.nils,vj (1:Int)])] ([]) (KW 112 (QAC f e) (vq f))=( some [f.length=(0:Nat),(1:Int)=e,f.length=(0:Nat)]):=by kernel_rfl
abbrev wbv(f:List Jn)(f':List Jn):List Prop:=[f.length<=f'.length,QB (4:Nat) f.length (λi=>QA.enc (f'.getD i (Jn.mk (0:Int) (0:Int) (0:Int) (0:Int)))) λi=>QA.enc (f.getD i (Jn.mk (0:Int) (0:Int) (0:Int) (0:Int)))]
theorem QaQ(e:Int):QF 112 [(AV.tup [AV.slz (514:Nat) (0:Nat) f'.length cO,vj (0:Int)])] ([((514:Nat),Blk.rowz true (67:Nat) [CK.int i64,CK.int i64,CK.int i64,CK.int i64] f'.length λi=>QA.enc (f'.getD i (Jn.mk (0:Int) (0:Int) (0:Int) (0:Int))))]) (KW 112 (QAC f e) (vq f))=( some ([0=0,f'.length=f.length,cO=cO,(0:Int)=e]++wbv f f')):=by kernel_rfl
theorem QgO(e:Int):QF 112 [(AV.tup [AV.slz (514:Nat) (0:Nat) f'.length cO,vj (0:Int)])] ([((514:Nat),Blk.rowz true (67:Nat) [CK.int i64,CK.int i64,CK.int i64,CK.int i64] f'.length λi=>QA.enc (f'.getD i (Jn.mk (0:Int) (0:Int) (0:Int) (0:Int))))]) (KW 112 (QAC f e) (vq f))=( some ([0=0,f'.length=f.length,cO=cO,(0:Int)=e]++wbv f f')):=by kernel_rfl
theorem QM9{α β:Type}(g:α->List β)(h:∀ x,(g x).length<=1):∀ l:List α,(l.flatMap g).length<=l.length
 | []=>qlr _
 | x::l=>by
  have h1:=h x;have h2:=QM9 g h l;rw[List.flatMap_cons,List.length_append,List.length_cons];omega
def w0Z:LJ:=if h:(KZ (Ks (QI d) 1)).length<=1000000000 then ⟨_,h⟩else ⟨[],by decide⟩
theorem QL4{d:Puz}(hn:d.ps.n<=1000):(w0Z d).1=KZ (Ks (QI d) 1):=by
 have h1:(KZ (Ks (QI d) 1)).length<=1000000000:=by
  rw[QA6];have:=QM9 (VY 1) (QLx 1) (QI d).1;have h2:=(Z4 d hn).l;unfold Ks;omega
 unfold w0Z;rw[dif_pos h1]
def Y3:List Jn×Int:=cond d.ok ((match onY d (QI d) (faY d) d.ps.n [] (w0Z d)with | .go s | .stop s=>s.1),0) ([],1)
def Xq:WF (Puz×Unit):=λ|(d,_)=>(decide (d.ps.n<=1000),QAC (Y3 d).1 (Y3 d).2,vq (Y3 d).1)
def Qea:FC:=wFC Xq
theorem QIX:WOk (Xq (d,())).2.1 (Xq (d,())).2.2:=⟨rfl,by simp[Xq,vq,rwJ,Blk.own,Blk.all],rfl⟩
theorem Qfo(hn:d.ps.n<=1000)(hx:d.ok=false):QQ prog 43 (wFC (VK Xq (d,()))):=by
 have hT:Qc (XY (λ_=>false) d (QI d) [] (faU d (QI d) [] VR VW (QD []) [] [] [])):=((Qd.add (Jl (by kernel_rfl) _)).add (Jl (by kernel_rfl) _)).add (Jl (by kernel_rfl) _)
 have hv:Y3 d=([],1):=by simp only[Y3,hx,cond_false]
 refine Yi (c:=Qk f43) (E:=mkE prog (XY (λ_=>false) d (QI d) [] (faU d (QI d) [] VR VW (QD []) [] [] []))) (H:=hnd (mkE prog (XY (λ_=>false) d (QI d) [] (faU d (QI d) [] VR VW (QD []) [] [] []))) 8) (QP hT) func43 (by kernel_rfl) (by kernel_rfl) (N:=112) (by decide) (d,()) (λG h1 _=>Qw (QP hT) 8 G _ h1) (QIX d) ?_
 refine Qe (QPn (λ_=>false) d (QI d) [] (QD []) []) ?_;refine QG (by simp;omega) (QE (λ_=>?_) (λh=>by rw[hx]at h;cases h))
 simp only[Xq,hv];refine⟨rfl,rfl,_,Qcn [] 1,?_⟩
 repeat' first|with_reducible refine QN ?_ ?_|exact tv|with_reducible exact qRr|exact rfl|refine aI ?_ ?_
theorem QWC(hx:d.ok=true):QQ prog 43 (wFC (VK Xq (d,()))):=by
 have hd:=(V6 (Vz hx)).1;have hdn:=hd.n;have hO:=Z4 d hdn;have hon:=Qcx (w0:=(w0Z d).1) hd hO.w d.ps.n [] (w0Z d) (by simp) (λc hc=>by cases hc)
 have hjo:QQ prog 89 (uFC (joU d 0 (QI d) 1 (w0Z d).1)):=by
  rw[QL4 hdn];exact QI2 d 0 (QI d) 1 hO.w hO.m (Nat.le_trans hO.l (by decide))
 have hz:∀ k,QB 1 k (λ_ _=>0) (QD []):=λk i _=>⟨rfl,trivial⟩;cases he:onY d (QI d) (faY d) d.ps.n [] (w0Z d)with
 | go s=>
  rw[he]at hon;have hT:Qc (XY QO d (QI d) (w0Z d).1 (faU d (QI d) (w0Z d).1 VR VW (QD []) [] (w0Z d).1 s.1)):=((Qd.add (Zy d (by omega))).add hjo).add hon
  have hv:Y3 d=(s.1,0):=by
   simp only[Y3,hx,he,cond_true]
  refine Yi (c:=Qk f43) (E:=mkE prog (XY QO d (QI d) (w0Z d).1 (faU d (QI d) (w0Z d).1 VR VW (QD []) [] (w0Z d).1 s.1))) (H:=hnd (mkE prog (XY QO d (QI d) (w0Z d).1 (faU d (QI d) (w0Z d).1 VR VW (QD []) [] (w0Z d).1 s.1))) 8) (QP hT) func43 (by kernel_rfl) (by kernel_rfl) (N:=112) (by decide) (d,()) (λG h1 _=>Qw (QP hT) 8 G _ h1) (QIX d) ?_
  have et:=QPn QO d (QI d) (w0Z d).1 (QD []) s.1;refine Qe et ?_;clear et;refine QG ?_ ?_;rotate_left;refine QE ?_ ?_<;>intro b0
  .rw[hx]at b0;cases b0
  iterate 4 (refine QG ?_ ?_;rotate_left)
  simp only[Xq,hv];refine⟨rfl,rfl,_,QaQ s.1 s.1 0,?_⟩
  rotate_left
  all_goals first|((with_reducible show _=true);(first|(refine Q9.2 ?_;repeat' first|with_reducible refine QN ?_ ?_|exact tv|with_reducible exact qRr|with_reducible exact hz _|exact rfl|refine aI ?_ ?_)|(simp;omega)))|(repeat' first|with_reducible refine QN ?_ ?_|exact tv|with_reducible exact qRr|exact rfl|refine aI ?_ ?_)
 | stop s=>
  rw[he]at hon;have hT:Qc (XY QO d (QI d) (w0Z d).1 (faV d (QI d) (w0Z d).1 VR VW (QD []) [] (w0Z d).1 s.1)):=((Qd.add (Zy d (by omega))).add hjo).add hon
  have hv:Y3 d=(s.1,0):=by
   simp only[Y3,hx,he,cond_true]
  refine Yi (c:=Qk f43) (E:=mkE prog (XY QO d (QI d) (w0Z d).1 (faV d (QI d) (w0Z d).1 VR VW (QD []) [] (w0Z d).1 s.1))) (H:=hnd (mkE prog (XY QO d (QI d) (w0Z d).1 (faV d (QI d) (w0Z d).1 VR VW (QD []) [] (w0Z d).1 s.1))) 8) (QP hT) func43 (by kernel_rfl) (by kernel_rfl) (N:=112) (by decide) (d,()) (λG h1 _=>Qw (QP hT) 8 G _ h1) (QIX d) ?_
  have et:=Qcz QO d (QI d) (w0Z d).1 (QD []) s.1;refine Qe et ?_;clear et;refine QG ?_ ?_;rotate_left;refine QE ?_ ?_<;>intro b0
  .rw[hx]at b0;cases b0
  iterate 4 (refine QG ?_ ?_;rotate_left)
  simp only[Xq,hv];refine⟨rfl,rfl,_,QgO s.1 s.1 0,?_⟩
  rotate_left
  all_goals first|((with_reducible show _=true);(first|(refine Q9.2 ?_;repeat' first|with_reducible refine QN ?_ ?_|exact tv|with_reducible exact qRr|with_reducible exact hz _|exact rfl|refine aI ?_ ?_)|(simp;omega)))|(repeat' first|with_reducible refine QN ?_ ?_|exact tv|with_reducible exact qRr|exact rfl|refine aI ?_ ?_)
theorem QhY(hx:(Xq (d,())).1=true):QQ prog 43 (wFC (VK Xq (d,()))):=by
 have hn:d.ps.n<=1000:=qdt hx;cases ho:d.ok with
 | false=>exact Qfo d hn ho
 | true=>exact QWC d ho
theorem QWh:QQ prog 43 Qea:=zR (by kernel_rfl) λ|(d,()),hx=>QhY d hx
