/- - -/
import Derived.Test.YtekbmehgcofnkaaGreatMzm
import Derived.Test.YtekbmehgcofnkaaGreatMzk
open Go.Proofs.Tryz
open Go.IntKind (i64)
set_option maxRecDepth 100000
namespace Go.Proofs.YtekbmehgcofnkaaGreat
open Go.SX Go.SX.Told
noncomputable abbrev Je:Code:=(Qm f43).1
noncomputable abbrev JT:Code:=(Qm f43).2
variable {e:MapEntry}(d:Puz)(w0:List Jn)(l:List Lay)(c:Nat)(f':List Jn)(M:ECt)(f:List Jn)
def XL(s o:Int):Jn:=cond (decide ((l.getD o.toNat ⟨0,0⟩:Lay).piece<(l.getD c ⟨0,0⟩:Lay).piece))
 ⟨(l.getD o.toNat ⟨0,0⟩:Lay).piece,onS (l.getD o.toNat ⟨0,0⟩) ((i64.wrap (s+2)).tmod 4),(l.getD c ⟨0,0⟩:Lay).piece,onS (l.getD c ⟨0,0⟩) s⟩
 ⟨(l.getD c ⟨0,0⟩:Lay).piece,onS (l.getD c ⟨0,0⟩) s,(l.getD o.toNat ⟨0,0⟩:Lay).piece,onS (l.getD o.toNat ⟨0,0⟩) ((i64.wrap (s+2)).tmod 4)⟩
def VP(e:MapEntry):Option Jn:=cond ((QL e 0==1&&((intV e.val).tmod d.wide==0))||decide (intV e.val≥(l.length:Int))) none (some (XL l c (QL e 0) (intV e.val)))
def HI(e:MapEntry)(y:Jn):Bool:=match VP d l c e with
 | some j=>eqJ j y
 | none=>false
def QAc(b:Nat)(y:Jn):Bool:=match M.1.find? (·.born==b)with
 | some e=>HI d l c e y
 | none=>false
def KS(S:List Nat)(f:List Jn):List Jn:=f.filter λy=>!S.any λb=>QAc d l c M b y
def jj(e:MapEntry)(f:List Jn):List Jn:=f.filter λy=>!HI d l c e y
theorem QHp{d:Puz}{l:List Lay}{c:Nat}{f:List Jn}(h:VP d l c e=none):jj d l c e f=f:=by
 unfold jj;rw[List.filter_eq_self];intro y _;unfold HI;rw[h];rfl
theorem QDw{d:Puz}{l:List Lay}{c:Nat}{f:List Jn}{j:Jn}(h:VP d l c e=some j):jj d l c e f=Js j f:=by
 unfold jj Js HI;rw[h]
structure QCb (M:ECt):Prop where
 wf:wf1 .i64 .i64 M.1=true
 born:(M.1.map (·.born)).Nodup
 low:∀ e∈M.1,e.born<M.2
 key:∀ e∈M.1,0<=QL e 0/\QL e 0<=2
 val:∀ e∈M.1,0<=intV e.val
theorem QZF{M:ECt}(hM:QCb M)(d:Puz)(l:List Lay)(c:Nat)(S:List Nat)(f:List Jn)(he:e∈M.1):KS d l c M (S++[e.born]) f=jj d l c e (KS d l c M S f):=by
 unfold KS jj;rw[List.filter_filter];congr 1;funext y
 have h1:QAc d l c M e.born y=HI d l c e y:=by
  unfold QAc;rw[qq hM.born he]
 rw[List.any_append];simp only[List.any_cons,List.any_nil,Bool.or_false,h1,Bool.not_or,Bool.and_comm]
theorem QSp(S:List Nat)(f:List Jn):(KS d l c M S f).length<=f.length:=List.length_filter_le _ _
noncomputable def zk(P:Program)(d:Puz)(l:List Lay)(c:Nat)(M:ECt)(f0:List Jn)(S:List Nat):Env:=mkE P (QE2 QO (KS d l c M S f0) λx=>Js x (KS d l c M S f0))
theorem QU3(f0:List Jn)(hf:f0.length<=1000000000)(S:List Nat):(zk prog d l c M f0 S).Sound:=
 QQ (Qd.add (QZJ λx=>QZP (KS d l c M S f0) x (Nat.le_trans (QSp ..) hf)))
def QTS(f0:List Jn)(_:List Nat)(e:Ex)(J:JSt):Prop:=e = .exit 2/\∃ T,XX M.1 T/\Y2 M.1 T/\J=mlE d w0 l Je JT c (KS d l c M T f0)
set_option maxHeartbeats 1000000 in
theorem QVK(f0:List Jn)(hM:QCb M)(hw:d.wide≠0)(hcl:c<l.length)(hll:l.length<=1000)(ht:∀ i,i<l.length->0<=(l.getD i ⟨0,0⟩:Lay).turn/\(l.getD i ⟨0,0⟩:Lay).turn<=3):Jd (λS=>mlJ d w0 l Je JT M S c (KS d l c M S f0)) (XX M.1) (λS=>M.1.length-S.length) (QTS d w0 l c M f0) 752 QRd [729,296,200] (zk prog d l c M f0) (λS=>hnd (zk prog d l c M f0 S) 3) (QS (QJ f133 0)):=by
 refine⟨λS g hS=>?_⟩;have hS:XX M.1 S:=hS;unfold zk;have et:=QV4 QO d w0 l M S c (KS d l c M S f0) (λx=>Js x (KS d l c M S f0)) g;refine Qf et ?_;clear et;refine Qt ⟨hM.low,qlr _⟩ (Kl (Qj λha=>?_) (Qk λg0=>Qj λho=>?_))
 .refine⟨_,⟨rfl,S,hS,ha,rfl⟩,rfl,rfl,_,Qar d w0 l c (KS d l c M S f0),?_⟩
  repeat' first|with_reducible refine QP ?_ ?_|exact tv|exact Nat.le_refl _|with_reducible exact qRr|exact qRr|exact rfl|refine aI ?_ ?_
 .obtain⟨hj,hn⟩:=ho;have hm:=QR5 hj;obtain⟨hc,hh⟩:=QSf hM.born S hm;have hS':=QQa hS hm hn;have hlen:=QDB hS';rw[List.length_append,List.length_singleton]at hlen;have hmu:M.1.length-(S++[(M.1.getD (nxI g0) noE).born]).length<M.1.length-S.length:=by rw[List.length_append,List.length_singleton];omega
  have hc:QE M.1 (S++[(M.1.getD (nxI g0) noE).3])=M.1.getD (nxI g0) noE:=hc;have hh:X7 M.1 (S++[(M.1.getD (nxI g0) noE).3])=true:=hh;have hwf:=hM.wf;obtain⟨e,hec⟩:∃ e,QE M.1 (S++[(M.1.getD (nxI g0) noE).3])=e:=⟨_,rfl⟩;have hee:M.1.getD (nxI g0) noE=e:=hc.symm.trans hec;have hl:KS d l c M (S++[(M.1.getD (nxI g0) noE).born]) f0=jj d l c e (KS d l c M S f0):=by rw[<-hee];exact QZF hM d l c S f0 hm
  have hk:0<=QL e 0/\QL e 0<=2:=by rw[<-hee];exact hM.key _ hm
  have hv:0<=intV e.val:=by rw[<-hee];exact hM.val _ hm
  have hmod:0<=(i64.wrap (QL e 0+2)).tmod 4/\(i64.wrap (QL e 0+2)).tmod 4<=3:=by
   rw[w64 (by omega) (by omega)]
   have h1:=Int.tmod_nonneg 4 (show(0:Int)<=QL e 0+2 by omega)
   have h2:=Int.tmod_lt_of_pos (QL e 0+2) (show(0:Int)<4 by decide)
   omega
  refine QH (by rw[hh,hwf];simp) ?_
  refine QF (λb1=>QH (by simp;omega) (QF (λb2=>?_) (λb2=>?_))) (λb1=>?_)
  .rw[hec]at b1 b2;have hE:VP d l c e=none:=by unfold VP;rw[b1,show((intV e.val).tmod d.wide==0)=true from b2];rfl
   rw[QHp hE]at hl;refine⟨_,hS',hmu,λ_ _ r=>r,?_⟩;show JL 752 _ _ _ _ (mlJ d w0 l Je JT M (S++[(M.1.getD (nxI g0) noE).born]) c (KS d l c M (S++[(M.1.getD (nxI g0) noE).born]) f0));rw[hl];refine⟨rfl,rfl,_,Qde d w0 l M S (S++[(M.1.getD (nxI g0) noE).born]) c (KS d l c M S f0) g0,?_⟩
   repeat' first|with_reducible refine QP ?_ ?_|exact tv|exact Nat.le_refl _|with_reducible exact qRr|exact qRr|exact rfl|refine aI ?_ ?_
  .have hk0:(QL e 0==1&&((intV e.val).tmod d.wide==0))=false:=by rw[hec]at b2;rw[show((intV e.val).tmod d.wide==0)=false from b2,Bool.and_false]
   refine QF (λb3=>?_) (λb3=>QH ?_ (QH ?_ (QH ?_ (QH ?_ (QH ?_ (QH ?_ (QF (λb4=>QH ?_ ?_) (λb4=>QH ?_ ?_))))))))
   .rw[hec]at b3;have hE:VP d l c e=none:=by unfold VP;rw[hk0,show decide (intV e.val≥(l.length:Int))=true from b3];rfl
    rw[QHp hE]at hl;refine⟨_,hS',hmu,λ_ _ r=>r,?_⟩;show JL 752 _ _ _ _ (mlJ d w0 l Je JT M (S++[(M.1.getD (nxI g0) noE).born]) c (KS d l c M (S++[(M.1.getD (nxI g0) noE).born]) f0));rw[hl];refine⟨rfl,rfl,_,QUN d w0 l M S (S++[(M.1.getD (nxI g0) noE).born]) c (KS d l c M S f0) g0,?_⟩
    repeat' first|with_reducible refine QP ?_ ?_|exact tv|exact Nat.le_refl _|with_reducible exact qRr|exact qRr|exact rfl|refine aI ?_ ?_
   .simp;omega
   .simp;omega
   .rw[hec];simp only[Bool.true_and,qdE];exact⟨ht c hcl,hk.1,by omega⟩
   .rw[hec]at b3 ⊢;have:=qdf b3;simp;omega
   .rw[hec]at b3 ⊢;have:=qdf b3;simp;omega
   .rw[hec]at b3 ⊢;have:=qdf b3;simp only[Bool.true_and,qdE];exact⟨ht _ (by omega),hmod⟩
   .refine Q6.2 ?_
    repeat' first|with_reducible refine QP ?_ ?_|exact tv|exact Nat.le_refl _|with_reducible exact qRr|exact qRr|exact rfl|refine aI ?_ ?_
   .rw[hec]at b3 b4;have hE:VP d l c e=some (XL l c (QL e 0) (intV e.val)):=by unfold VP;rw[hk0,show decide (intV e.val≥(l.length:Int))=false from b3];rfl
    have hJ:XL l c (QL e 0) (intV e.val)=⟨(l.getD (intV e.val).toNat ⟨0,0⟩:Lay).piece,onS (l.getD (intV e.val).toNat ⟨0,0⟩) ((i64.wrap (QL e 0+2)).tmod 4),(l.getD c ⟨0,0⟩:Lay).piece,onS (l.getD c ⟨0,0⟩) (QL e 0)⟩:=by unfold XL;rw[show decide ((l.getD (intV e.val).toNat ⟨0,0⟩:Lay).piece<(l.getD c ⟨0,0⟩:Lay).piece)=true from b4];rfl
    rw[QDw hE,hJ]at hl;refine⟨_,hS',hmu,λ_ _ r=>r,rfl,rfl,_,QZa d w0 l M S (S++[(M.1.getD (nxI g0) noE).born]) c (KS d l c M S f0) (KS d l c M (S++[(M.1.getD (nxI g0) noE).born]) f0) (λx=>Js x (KS d l c M S f0)) g0,?_⟩;rw[hl];subst hec
    repeat' first|with_reducible refine QP ?_ ?_|exact tv|exact Nat.le_refl _|with_reducible exact qRr|exact qRr|exact rfl|refine aI ?_ ?_
   .refine Q6.2 ?_
    repeat' first|with_reducible refine QP ?_ ?_|exact tv|exact Nat.le_refl _|with_reducible exact qRr|exact qRr|exact rfl|refine aI ?_ ?_
   .rw[hec]at b3 b4;have hE:VP d l c e=some (XL l c (QL e 0) (intV e.val)):=by unfold VP;rw[hk0,show decide (intV e.val≥(l.length:Int))=false from b3];rfl
    have hJ:XL l c (QL e 0) (intV e.val)=⟨(l.getD c ⟨0,0⟩:Lay).piece,onS (l.getD c ⟨0,0⟩) (QL e 0),(l.getD (intV e.val).toNat ⟨0,0⟩:Lay).piece,onS (l.getD (intV e.val).toNat ⟨0,0⟩) ((i64.wrap (QL e 0+2)).tmod 4)⟩:=by unfold XL;rw[show decide ((l.getD (intV e.val).toNat ⟨0,0⟩:Lay).piece<(l.getD c ⟨0,0⟩:Lay).piece)=false from b4];rfl
    rw[QDw hE,hJ]at hl;refine⟨_,hS',hmu,λ_ _ r=>r,rfl,rfl,_,QXf d w0 l M S (S++[(M.1.getD (nxI g0) noE).born]) c (KS d l c M S f0) (KS d l c M (S++[(M.1.getD (nxI g0) noE).born]) f0) (λx=>Js x (KS d l c M S f0)) g0,?_⟩;rw[hl];subst hec
    repeat' first|with_reducible refine QP ?_ ?_|exact tv|exact Nat.le_refl _|with_reducible exact qRr|exact qRr|exact rfl|refine aI ?_ ?_
  .have hk0:(QL e 0==1&&((intV e.val).tmod d.wide==0))=false:=by rw[hec]at b1;rw[b1,Bool.false_and]
   refine QF (λb3=>?_) (λb3=>QH ?_ (QH ?_ (QH ?_ (QH ?_ (QH ?_ (QH ?_ (QF (λb4=>QH ?_ ?_) (λb4=>QH ?_ ?_))))))))
   .rw[hec]at b3;have hE:VP d l c e=none:=by unfold VP;rw[hk0,show decide (intV e.val≥(l.length:Int))=true from b3];rfl
    rw[QHp hE]at hl;refine⟨_,hS',hmu,λ_ _ r=>r,?_⟩;show JL 752 _ _ _ _ (mlJ d w0 l Je JT M (S++[(M.1.getD (nxI g0) noE).born]) c (KS d l c M (S++[(M.1.getD (nxI g0) noE).born]) f0));rw[hl];refine⟨rfl,rfl,_,QYh d w0 l M S (S++[(M.1.getD (nxI g0) noE).born]) c (KS d l c M S f0) g0,?_⟩
    repeat' first|with_reducible refine QP ?_ ?_|exact tv|exact Nat.le_refl _|with_reducible exact qRr|exact qRr|exact rfl|refine aI ?_ ?_
   .simp;omega
   .simp;omega
   .rw[hec];simp only[Bool.true_and,qdE];exact⟨ht c hcl,hk.1,by omega⟩
   .rw[hec]at b3 ⊢;have:=qdf b3;simp;omega
   .rw[hec]at b3 ⊢;have:=qdf b3;simp;omega
   .rw[hec]at b3 ⊢;have:=qdf b3;simp only[Bool.true_and,qdE];exact⟨ht _ (by omega),hmod⟩
   .refine Q6.2 ?_
    repeat' first|with_reducible refine QP ?_ ?_|exact tv|exact Nat.le_refl _|with_reducible exact qRr|exact qRr|exact rfl|refine aI ?_ ?_
   .rw[hec]at b3 b4;have hE:VP d l c e=some (XL l c (QL e 0) (intV e.val)):=by unfold VP;rw[hk0,show decide (intV e.val≥(l.length:Int))=false from b3];rfl
    have hJ:XL l c (QL e 0) (intV e.val)=⟨(l.getD (intV e.val).toNat ⟨0,0⟩:Lay).piece,onS (l.getD (intV e.val).toNat ⟨0,0⟩) ((i64.wrap (QL e 0+2)).tmod 4),(l.getD c ⟨0,0⟩:Lay).piece,onS (l.getD c ⟨0,0⟩) (QL e 0)⟩:=by unfold XL;rw[show decide ((l.getD (intV e.val).toNat ⟨0,0⟩:Lay).piece<(l.getD c ⟨0,0⟩:Lay).piece)=true from b4];rfl
    rw[QDw hE,hJ]at hl;refine⟨_,hS',hmu,λ_ _ r=>r,rfl,rfl,_,QVy d w0 l M S (S++[(M.1.getD (nxI g0) noE).born]) c (KS d l c M S f0) (KS d l c M (S++[(M.1.getD (nxI g0) noE).born]) f0) (λx=>Js x (KS d l c M S f0)) g0,?_⟩;rw[hl];subst hec
    repeat' first|with_reducible refine QP ?_ ?_|exact tv|exact Nat.le_refl _|with_reducible exact qRr|exact qRr|exact rfl|refine aI ?_ ?_
   .refine Q6.2 ?_
    repeat' first|with_reducible refine QP ?_ ?_|exact tv|exact Nat.le_refl _|with_reducible exact qRr|exact qRr|exact rfl|refine aI ?_ ?_
   .rw[hec]at b3 b4;have hE:VP d l c e=some (XL l c (QL e 0) (intV e.val)):=by unfold VP;rw[hk0,show decide (intV e.val≥(l.length:Int))=false from b3];rfl
    have hJ:XL l c (QL e 0) (intV e.val)=⟨(l.getD c ⟨0,0⟩:Lay).piece,onS (l.getD c ⟨0,0⟩) (QL e 0),(l.getD (intV e.val).toNat ⟨0,0⟩:Lay).piece,onS (l.getD (intV e.val).toNat ⟨0,0⟩) ((i64.wrap (QL e 0+2)).tmod 4)⟩:=by unfold XL;rw[show decide ((l.getD (intV e.val).toNat ⟨0,0⟩:Lay).piece<(l.getD c ⟨0,0⟩:Lay).piece)=false from b4];rfl
    rw[QDw hE,hJ]at hl;refine⟨_,hS',hmu,λ_ _ r=>r,rfl,rfl,_,Qev d w0 l M S (S++[(M.1.getD (nxI g0) noE).born]) c (KS d l c M S f0) (KS d l c M (S++[(M.1.getD (nxI g0) noE).born]) f0) (λx=>Js x (KS d l c M S f0)) g0,?_⟩;rw[hl];subst hec
    repeat' first|with_reducible refine QP ?_ ?_|exact tv|exact Nat.le_refl _|with_reducible exact qRr|exact qRr|exact rfl|refine aI ?_ ?_
def J9:ECt:=([{ key := .int .i64 1,val := .int .i64 (i64.wrap ((c:Int)+1)),born:=0 },{ key := .int .i64 2,val := .int .i64 (i64.wrap ((c:Int)+d.wide)),born:=1 }],2)
def moE(ac body:Code)(f:List Jn):JSt:=⟨83,[],mtW d w0 l ac body 776 f,784⟩
def QQf:Ex->List Nat
 | .normal=>[0,1,2,9,10,11]
 | _=>[]
abbrev moH(P:Program)(d:Puz)(w0:List Jn)(l:List Lay)(ac body:Code)(M:ECt)(S0:List Nat)(c:Nat)(f:List Jn)(X:List (Prop×Ex×JSt)):Hnd:={ hnd (mkE P QT) 3 with loop:=λ_=>JI (c<l.length) (KE 752 [729,296,200] (mlJ d w0 l ac body M S0 c f) X) }
noncomputable abbrev QBr(w0:List Jn):Nat×Blk:=
  (729,.lp LoopState.ready none (mtT d w0 l) (Array.mk [28]) (Qm f43).1 (Qm f43).2)
noncomputable abbrev QFe:Nat×Blk:=
  (296,.cells 0 64 [.slz 776 0 f'.length cO])
noncomputable abbrev QKu:Nat×Blk:=
  (200,.cellsR 0 152 (List.append (waf d) ([.map 201,.slz 496 0 l.length cO])))
noncomputable abbrev QRF:Nat×Blk:=
  (0,.frz (List.append (waa) ((List.append (waG) ((List.append (wbk) ([.int .i64])))))) d.ps.n λi=>QA.enc (d.ps.get i))
noncomputable abbrev QGm:Nat×Blk:=
  (776,.rowz true 67 (wbk) f'.length λi=>QA.enc (f'.getD i (Jn.mk (0:Int) (0:Int) (0:Int) (0:Int))))
noncomputable abbrev QLJ(l:List Lay)(w0:List Jn):List (Nat×Blk):=
  [(QBr d l w0),(QFe f'),(QKu d l),(696,.cellsR 0 42 [.slz 496 0 l.length cO]),(688,.cellsR 0 90 [.ptr 200 0 0]),(496,.frz kB l.length λi=>
  QA.enc (l.getD i (Lay.mk (0:Int) (0:Int)))),(QRF d),(QGm f')]
noncomputable abbrev QKc(l:List Lay)(w0:List Jn):List (Nat×Blk):=
  [(QBr d l w0),(296,.cells 0 64 [.slz 776 0 f.length cO]),(QKu d l),(QRF d),(496,.frz kB l.length λi=>QA.enc (l.getD i (Lay.mk (0:Int)
  (0:Int)))),(696,.cellsR 0 42 [.slz 496 0 l.length cO]),(688,.cellsR 0 90 [.ptr 200 0 0]),(776,.rowz true 67 (wbk) f.length fun
  i=>QA.enc (f.getD i (Jn.mk (0:Int) (0:Int) (0:Int) (0:Int))))]
theorem QYi(S0:List Nat)(c:Nat)(f f':List Jn)(g:Nat->Value):exec (mkE prog QT) (moH prog d w0 l (Qm f43).1 (Qm f43).2 M S0 c f [(True,.exit 2,mlE d w0 l (Qm f43).1 (Qm f43).2 c f')]) (QJ f133 0) (JSt.inst (mlE d w0 l (Qm f43).1 (Qm f43).2 c f) g) (Q9 [729,296,200] QQf) = .br (decide ((c:Int)<(l.length:Int))) (.ak (((([c<l.length,0=0,0=0]++wcX l)++wcD c l++[784+8+8+8=808,0=0,2=M.2,[]=S0,2=M.2,[]++[MapEntry.mk (Value.int i64 1) (Value.int i64 (i64.wrap ((c:Int)+1))) 0]++[MapEntry.mk (Value.int i64 2) (Value.int i64 (i64.wrap ((c:Int)+d.wide))) 1]=M.1,2=M.2])++waj++[Array.mk [(28:Tmp)]=Array.mk [(28:Tmp)],(Qm f43).1=(Qm f43).1,(Qm f43).2=(Qm f43).2])++wab d++(wcU++[l.length=l.length,cO=cO,0=0,0=0,(0:Int)=0])++wab d++(((waJ l w0++[0=0,f.length=f.length,cO=cO])++wai f++[0=0,l.length=l.length,cO=cO,0=0,0=0])++wag l)++wab d++([cO=cO,0=0,l.length=l.length,cO=cO]++wae d)) (.asm (True) (.all (λ(g0:Nat->Value)=>.leaf (.tup (.nilp::.ptr 83 0 0::.yld 729::List.append (wbL l) ([vi (i64.wrap ((c:Int)+1))]))) ((QLJ d f' l w0)))))) (.leaf (.tup [.ptr 0 0 0,.ptr 83 0 0]) ((QKc d f l w0))):=by kernel_rfl
abbrev QGj:List Prop:=
  ((waj++(wbJ))++wab d++(((wcU++[l.length=l.length,cO=cO,0=0,0=0,(0:Int)=0])++wcK d)++waP d))
abbrev QE5(w0:List Jn):List Prop:=
  (waJ l w0)
abbrev QJe:List Prop:=
  ([0=0,f'.length=f'.length,cO=cO]++waF f')
theorem QX9(c c':Nat)(f':List Jn):QG 752 (.yld 729::List.append (wbL l) ([vi (i64.wrap ((c:Int)+1))])) ((QLJ d f' l w0)) (mlE d w0 l (Qm f43).1 (Qm f43).2 c' f')=(some (([0=0,0=0,0=0,0=0,0=0]++wcT l++[i64.wrap ((c:Int)+1)=(c':Int)])++(QGj d l)++[0=0,d.ps.n=d.ps.n]++(QE5 l w0)++(QJe f')++(([0=0,l.length=l.length,cO=cO,0=0,0=0]++wag l)++wab d++([cO=cO,0=0,l.length=l.length,cO=cO]++wae d)))):=by kernel_rfl
theorem Qej :QG 752 [] ((QKc d f l w0)) (moE d w0 l (Qm f43).1 (Qm f43).2 f)=(some ((QGj d l)++[0=0,d.ps.n=d.ps.n]++(QE5 l w0)++([0=0,f.length=f.length,cO=cO]++wai f))):=by kernel_rfl
def q8(ac body:Code)(f f':List Jn):UC:=⟨736,⟨3,[(0,.yld 729),(1,.ptr 696 0 0),(2,.ptr 688 0 0)],mtW d w0 l ac body 744 f++mtR d l,752⟩,λ_=>.tup [],λm=>mtW d w0 l ac body m f'⟩
abbrev mtH(P:Program)(d:Puz)(w0:List Jn)(l:List Lay)(ac body:Code)(f:List Jn)(X:List (Prop×Ex×JSt)):Hnd:={ hnd (mkE P QT) 3 with loop:=λ_=>KE 752 [729,296,200] (mlE d w0 l ac body 0 f) X }
theorem QYD(f f':List Jn):VF (mkE prog QT) (mtH prog d w0 l (Qm f43).1 (Qm f43).2 f [(True,.exit 0,moE d w0 l (Qm f43).1 (Qm f43).2 f')]) f133 (q8 d w0 l (Qm f43).1 (Qm f43).2 f f') = .ak ((([0=0,0=0,0=0,0=0,0=0]++wcT l++[(0:Int)=0])++waj++[Array.mk [(28:Tmp)]=Array.mk [(28:Tmp)],(Qm f43).1=(Qm f43).1,(Qm f43).2=(Qm f43).2])++wab d++(wcU++[l.length=l.length,cO=cO,0=0,0=0,(0:Int)=0])++wab d++(((waJ l w0++[0=0,f.length=f.length,cO=cO])++wai f++[0=0,l.length=l.length,cO=cO,0=0,0=0])++wag l)++wab d++([cO=cO,0=0,l.length=l.length,cO=cO]++wae d)) (.asm (True) (.all (λ(g0:Nat->Value)=>.leaf (.tup []) ([(QBr d l w0),(QFe f'),(QGm f')])))):=by kernel_rfl
theorem QV2(f f':List Jn):QG 752 [(.tup [])] ([(QBr d l w0),(QFe f'),(QGm f')]) (KP (q8 d w0 l (Qm f43).1 (Qm f43).2 f f'))=(some ((QGj d l)++[0=0,d.ps.n=d.ps.n] ++ (QE5 l w0)++(QJe f'))):=by kernel_rfl
def QFY(M:ECt)(f:List Jn):List Jn:=f.filter λy=>!M.1.any λe=>HI d l c e y
theorem Qd1{M:ECt}(hM:QCb M)(d:Puz)(l:List Lay)(c:Nat){T:List Nat}(f:List Jn)(h1:XX M.1 T)(h2:Y2 M.1 T):KS d l c M T f=QFY d l c M f:=by
 unfold KS QFY;congr 1;funext y;congr 1;rw[Bool.eq_iff_iff,List.any_eq_true,List.any_eq_true];constructor
 .rintro⟨b,hb,hh⟩;obtain⟨e,he,rfl⟩:=List.mem_map.1 (h1.sub b hb);refine⟨e,he,?_⟩;unfold QAc at hh;rw[qq hM.born he]at hh;exact hh
 .rintro⟨e,he,hh⟩;refine⟨e.born,h2 e he,?_⟩;unfold QAc;rw[qq hM.born he];exact hh
theorem QSv{d:Puz}(hd:KI d){c:Nat}(hc:c<=1000):QCb (J9 d c):=by
 have h1:=hd.w1;have h2:=hd.wn;have h3:=hd.n;refine⟨rfl,by simp[J9],?_,?_,?_⟩
 .intro e he;simp only[J9,List.mem_cons,List.not_mem_nil,or_false]at he;rcases he with rfl|rfl
  .exact(by decide:(0:Nat)<2)
  .exact(by decide:(1:Nat)<2)
 .intro e he;simp only[J9,List.mem_cons,List.not_mem_nil,or_false]at he;rcases he with rfl|rfl
  .exact(by decide:(0:Int)<=1/\(1:Int)<=2)
  .exact(by decide:(0:Int)<=2/\(2:Int)<=2)
 .intro e he;simp only[J9,List.mem_cons,List.not_mem_nil,or_false]at he;rcases he with rfl|rfl
  .show 0<=i64.wrap ((c:Int)+1);rw[w64 (by omega) (by omega)];omega
  .show 0<=i64.wrap ((c:Int)+d.wide);rw[w64 (by omega) (by omega)];omega
def qM(f:LJ)(c:Nat):LJ:=⟨QFY d l c (J9 d c) f.1,Nat.le_trans (List.length_filter_le _ _) f.2⟩
def V9(f:LJ):LJ:=(List.range l.length).foldl (qM d l) f
theorem QTc{d:Puz}(hd:KI d)(w0:List Jn)(l:List Lay)(hll:l.length<=1000)(hL:∀ y∈l,KC d y)(c:Nat)(f:LJ)(G:Ctx)(hrd:G.rd=none)(hG:G.n<=752):
  Qu (mkE prog QT) G (moH prog d w0 l Je JT (J9 d c) [] c f.1 [(True,.exit 2,mlE d w0 l Je JT c (qM d l f c).1)]) (QJ f133 0):=by
 refine KM (body:=QS (QJ f133 0)) (QQ Qd) hrd (by kernel_rfl) ?_
 refine Jm λhc=>?_;have hw1:=hd.w1;have hM:=QSv hd (c:=c) (by omega)
 have h0:KS d l c (J9 d c) [] f.1=f.1:=by
  unfold KS;rw[List.filter_eq_self];intro y _;rfl
 have hJ:mlJ d w0 l Je JT (J9 d c) [] c f.1=mlJ d w0 l Je JT (J9 d c) [] c (KS d l c (J9 d c) [] f.1):=by rw[h0]
 rw[hJ]
 have ht:∀ i,i<l.length->0<=(l.getD i ⟨0,0⟩:Lay).turn/\(l.getD i ⟨0,0⟩:Lay).turn<=3:=λi hi=>by
  rw[Xe hi];exact(hL _ (List.getElem_mem hi)).t
 have hEnv:=QU3 d l c (J9 d c) f.1 f.2;refine Jt (E0:=mkE prog QT) (E:=zk prog d l c (J9 d c) f.1) (H:=λS=>hnd (zk prog d l c (J9 d c) f.1 S) 3) (n0:=752) (s0:=[]) (λ_=>rfl) hEnv hG (λS _=>Q1 (hEnv S) 3 G _ hrd) (λS _=>(by decide:752<=832)) ?_ (QVK d w0 l c (J9 d c) f.1 hM (by omega) hc hll ht) ⟨List.nodup_nil,λb hb=>by cases hb⟩ ?_
 .rintro S e J ⟨_,T,_,_,rfl⟩;exact(by decide:752<=784)
 .rintro e J ⟨rfl,T,h1,h2,rfl⟩;refine⟨_,qmc,trivial,rfl,?_⟩;rw[Qd1 hM d l c f.1 h1 h2];rfl
def QF9(k:Nat×LJ)(e:Ex)(J:JSt):Prop:=e = .exit 0/\J=moE d w0 l Je JT (((List.range l.length).drop k.1).foldl (qM d l) k.2).1
set_option maxHeartbeats 1000000 in
theorem QUM(hll:l.length<=1000):Jd (λk:Nat×LJ=>mlE d w0 l Je JT k.1 k.2.1) (λk=>k.1<=l.length) (λk=>l.length-k.1) (QF9 d w0 l) 752 QQf [729,296,200] (λ_=>mkE prog QT) (λk=>moH prog d w0 l Je JT (J9 d k.1) [] k.1 k.2.1 [(True,.exit 2,mlE d w0 l Je JT k.1 (qM d l k.2 k.1).1)]) (QJ f133 0):=by
 refine⟨λk g0 hk=>?_⟩;obtain⟨c,f⟩:=k;have hk:c<=l.length:=hk;have et:=QYi d w0 l (J9 d c) [] c f.1 (qM d l f c).1 g0;refine Qf et ?_;clear et;refine QF (λb0=>?_) (λb0=>?_);have h:c<l.length:=by have:=qdt b0;omega
 have hw:=Ju h hll
 iterate 128 refine Qt (by first|exact tv|exact h|with_reducible exact qRr|exact rfl) ?_
 refine Qj λa0=>?_;refine Qk λg0=>?_
 .refine⟨(c+1,qM d l f c),h,by show l.length-(c+1)<l.length-c;omega,λe J hr=>?_,rfl,rfl,_,QX9 d w0 l c (c+1) (qM d l f c).1,?_⟩
  .unfold QF9 at hr ⊢;simp only at hr ⊢;rw[QE1 h];exact hr
  .repeat' first|with_reducible refine QP ?_ ?_|exact tv|with_reducible exact qRr|exact hw|exact rfl|refine aI ?_ ?_
 have h:l.length<=c:=by have:=qdf b0;omega
 refine⟨_,(by unfold QF9;simp only[QFL h,and_self]),rfl,rfl,_,Qej d w0 l f.1,?_⟩
 rotate_left
 all_goals (repeat' first|with_reducible refine QP ?_ ?_|exact tv|with_reducible exact qRr|exact rfl|refine aI ?_ ?_)
theorem QT9{d:Puz}(hd:KI d)(w0:List Jn)(l:List Lay)(hll:l.length<=1000)(hL:∀ y∈l,KC d y)(f:LJ)(G:Ctx)(hrd:G.rd=none)(hG:G.n=752):
  Qu (mkE prog QT) G (mtH prog d w0 l Je JT f.1 [(True,.exit 0,moE d w0 l Je JT (V9 d l f).1)]) (Qp f133):=by
 refine KM (body:=QJ f133 0) (QQ Qd) hrd (by kernel_rfl) ?_
 refine Jt (E0:=mkE prog QT) (E:=λ_:Nat×LJ=>mkE prog QT) (H:=λk=>moH prog d w0 l Je JT (J9 d k.1) [] k.1 k.2.1 [(True,.exit 2,mlE d w0 l Je JT k.1 (qM d l k.2 k.1).1)]) (n0:=752) (s0:=(0,f)) (λ_=>rfl) (λ_=>QQ Qd) (by omega) (λk _=>QTc hd w0 l hll hL k.1 k.2 G hrd (by omega)) (λk _=>(by decide:752<=784)) ?_ (QUM d w0 l hll) (Nat.zero_le _) ?_
 .rintro k e J ⟨_,rfl⟩;exact(by decide:752<=784)
 .rintro e J ⟨rfl,rfl⟩;exact⟨_,qmc,trivial,rfl,rfl⟩
theorem QeO(ac body:Code)(f f':List Jn):(q8 d w0 l ac body f f').Ok:=by
 refine⟨(by decide:736<=752),rfl,rfl,?_,rfl,λ_ _=>rfl,λnid h=>?_⟩
 .intro q hq;simp only[UC.po,q8,mtW,rwJ,List.mem_cons,List.not_mem_nil,or_false]at hq;rcases hq with rfl|rfl|rfl<;>refine⟨rfl,rfl,rfl,?_⟩<;>first|exact λ_=>rfl|exact λh=>absurd (show 752<736 from h) (by decide)
 .have e0:=KW 736 752 0 nid (by decide)
  simp only[UC.po,q8,mtW,rwJ,mtT,KR,Ql.val,List.cons_append,List.nil_append,List.map_cons,List.map_nil,Blk.mapId,AV.mapId,AV.mapIdL,Nat.add_zero]at e0 ⊢;rw[e0];rfl
theorem Qaw{d:Puz}(hd:KI d)(w0:List Jn)(l:List Lay)(hll:l.length<=1000)(hL:∀ y∈l,KC d y)(f:LJ):QR prog 133 (uFC (q8 d w0 l Je JT f.1 (V9 d l f).1)):=by
 refine Ks (c:=Qp f133) (E:=mkE prog QT) (QQ Qd) func133 (by kernel_rfl) (by kernel_rfl) (QeO ..) (λG h1 h2=>QT9 hd w0 l hll hL f G h1 (by rw[h2];rfl)) ⟨?_⟩
 have et:=QYD d w0 l f.1 (V9 d l f).1;refine Qf et ?_;clear et
 iterate 119 refine Qt (by first|exact tv|with_reducible exact qRr|exact rfl) ?_
 refine Qj λa0=>?_;refine Qk λg0=>?_;refine⟨rfl,rfl,_,QV2 d w0 l f.1 (V9 d l f).1,?_⟩
 rotate_left
 all_goals (repeat' first|with_reducible refine QP ?_ ?_|exact tv|with_reducible exact qRr|exact rfl|refine aI ?_ ?_)
def Hn(pb:List Prop->Bool)(d:Puz)(w0:List Jn)(l:List Lay)(ac2 body2:Code)(f f':List Jn):Tab:=Qc QT 133 (KB pb (q8 d w0 l ac2 body2 f f'))
abbrev faM(P : Program)(T : Tab): Hnd := { hnd (mkE P T) 5 with loop := λ_ _ _=>.fail "a loop" }
noncomputable abbrev QLh:Nat×Blk:=
  (200,.cells 0 152 (List.append (waf d) ([.map 201,.slz 496 0 l.length cO])))
noncomputable abbrev QSb:List AV:=
  (List.append (waT d) ([.bool false d.turn,.slz 0 0 d.ps.n cO]))
noncomputable abbrev QMO:List AV:=
  [.agg (QSb d),.ptr 112 0 0,.nils,vj 0,.ptr 200 0 0,vj 0,.ptr 296 0 0,.ptr 328 0 0,.tup [],.tup [],.tup [.ptr 200 0 0,vj 0],.agg
  (QSb d),.tup [.ptr 200 0 0,vj 0],.ptr 200 0 0,vj 0,vj 0,.bool true false,.tup [],.ptr 200 0 0,.slz 288 0 w0.length cO,.ptr 200
  0 0,.mth (Fn.func 91) [.ptr 200 0 0],.ptr 200 0 0,.fn (Fn.func 102) [.ptr 352 0 0,.ptr 360 0 0],.tup [],.tup [],.tup [],.tup [],.tup [],.tup [],.tup [],.tup [],.tup [],
  .tup [],.tup [],.tup []]
noncomputable abbrev QSL:Nat×Blk:=
  (0,.frz (List.append (waa) ((List.append (waG) ((List.append (wbk) ([.int .i64])))))) d.ps.n λi=>QA.enc (d.ps.get i))
noncomputable abbrev QQ7:Nat×Blk:=
  (736,.rowz true 67 (wbk) f'.length λi=>QA.enc (f'.getD i (Jn.mk (0:Int) (0:Int) (0:Int) (0:Int))))
noncomputable abbrev QQg(E:ECt)(d:Puz)(f':List Jn)(l:List Lay)(u:Nat->Nat->Int)(w0:List Jn):List (Nat×Blk):=
  [(QLh d l),(201,.mp E.1 E.2),(464,.cells 0 114 [.slz 504 0 d.ps.n cO]),(393,.lp LoopState.done (some (Code.exit 0)) (QMO d w0) (Array.mk [24]) (Code.region 7
  (Array.mk [Oper.mk (some 8) (Op.assign (Operand.tmp 24)) 42 "solve.go:238" (Array.mk []) none]) false) (Code.block 1 (((Code.region 8 (Array.mk [Oper.mk (some 25) (Op.load 141
  (Operand.tmp 7)) 141 "solve.go:239" (Array.mk []) none, Oper.mk (some 26) (Op.move (Operand.tmp 8)) 42 "solve.go:239" (Array.mk []) none, Oper.mk (some 27) (Op.call (Call.mk
  (Callee.value (Operand.tmp 25)) (Array.mk [Operand.tmp 26]) (Array.mk [42]))) 143 "solve.go:239" (Array.mk [Go.Edge.mk 0 Ground.data, Go.Edge.mk 1 Ground.data]) none]) false).seq
  (Code.block 2 (Code.rangeFunc (Operand.tmp 27) (Array.mk [28]) (Code.region 9 (Array.mk [Oper.mk (some 9) (Op.alloc 67) 0 "solve.go:239" (Array.mk []) none, Oper.mk none (Op.store
  67 (Operand.tmp 9) (Operand.tmp 28)) 0 "solve.go:239" (Array.mk [Go.Edge.mk 0 Ground.data, Go.Edge.mk 0 Ground.phase]) none]) false) (Code.block 3 (Code.region 10 (Array.mk [Oper.mk
  (some 29) (Op.load 64 (Operand.tmp 6)) 64 "solve.go:240" (Array.mk []) none, Oper.mk (some 30) (Op.makeFunc (Fn.func 93) (Array.mk []) (Array.mk [Operand.tmp 9])) 145 "solve.go:240"
  (Array.mk []) none, Oper.mk (some 31) (Op.call (Call.mk (Callee.value (Operand.func 92)) (Array.mk [Operand.tmp 29, Operand.tmp 30]) (Array.mk [64, 145]))) 64 "solve.go:240"
  (Array.mk [Go.Edge.mk 0 Ground.data, Go.Edge.mk 1 Ground.data]) none, Oper.mk none (Op.store 64 (Operand.tmp 6) (Operand.tmp 31)) 0 "solve.go:240" (Array.mk [Go.Edge.mk 2
  Ground.data,Go.Edge.mk 2 Ground.chain,Go.Edge.mk 0 Ground.phase,Go.Edge.mk 1 Ground.phase,Go.Edge.mk 2 Ground.phase]) none]) false))))).seq ((Code.region 11 (Array.mk [Oper.mk
  (some 32) (Op.load 64 (Operand.tmp 6)) 64 "solve.go:242" (Array.mk []) none, Oper.mk (some 33) (Op.call (Call.mk (Callee.builtin Builtin.len) (Array.mk [Operand.tmp 32]) (Array.mk
  [64]))) 3 "solve.go:242" (Array.mk [Go.Edge.mk 0 Ground.data]) none, Oper.mk (some 34) (Op.binOp BinOp.eql 3 (Operand.tmp 33) (Operand.const (Value.int i64 0)) 3) 4
  "solve.go:242" (Array.mk [Go.Edge.mk 1 Ground.data]) none]) false).seq (Code.cond (Operand.tmp 34) (Code.exit 0) Code.skip))))), (296, .cells 0 64 [.slz 736 0 f'.length (Cap.of
  0)]),(QSL d),(496,.rowz true 49 kB l.length λi=>QA.enc (l.getD i (Lay.mk (0:Int) (0:Int)))),(504,.rowz true 4 [CK.bool] d.ps.n u),(328,.cellsR
  0 141 [.mth (Fn.func 91) [.ptr 200 0 0]]),(352,.cellsR 0 90 [.ptr 200 0 0]),(360,.cellsR 0 96 [.nils]),(QQ7 f')]
noncomputable abbrev QJ6(E:ECt)(d:Puz)(f':List Jn)(l:List Lay)(u:Nat->Nat->Int)(w0:List Jn):List (Nat×Blk):=
  [(QLh d l),(201,.mp E.1 E.2),(464,.cells 0 114 [.slz 504 0 d.ps.n cO]),(393,.lp LoopState.ready none (QMO d w0) (Array.mk [24]) (Code.region 7 (Array.mk [Oper.mk
  (some 8) (Op.assign (Operand.tmp 24)) 42 "solve.go:238" (Array.mk []) none]) false) (Code.block 1 (((Code.region 8 (Array.mk [Oper.mk (some 25) (Op.load 141 (Operand.tmp 7)) 141
  "solve.go:239" (Array.mk []) none, Oper.mk (some 26) (Op.move (Operand.tmp 8)) 42 "solve.go:239" (Array.mk []) none, Oper.mk (some 27) (Op.call (Call.mk (Callee.value (Operand.tmp
  25)) (Array.mk [Operand.tmp 26]) (Array.mk [42]))) 143 "solve.go:239" (Array.mk [Go.Edge.mk 0 Ground.data, Go.Edge.mk 1 Ground.data]) none]) false).seq (Code.block 2 (Code.rangeFunc
  (Operand.tmp 27) (Array.mk [28]) (Code.region 9 (Array.mk [Oper.mk (some 9) (Op.alloc 67) 0 "solve.go:239" (Array.mk []) none, Oper.mk none (Op.store 67 (Operand.tmp 9) (Operand.tmp
  28)) 0 "solve.go:239" (Array.mk [Go.Edge.mk 0 Ground.data, Go.Edge.mk 0 Ground.phase]) none]) false) (Code.block 3 (Code.region 10 (Array.mk [Oper.mk (some 29) (Op.load 64
  (Operand.tmp 6)) 64 "solve.go:240" (Array.mk []) none, Oper.mk (some 30) (Op.makeFunc (Fn.func 93) (Array.mk []) (Array.mk [Operand.tmp 9])) 145 "solve.go:240" (Array.mk []) none,
  Oper.mk (some 31) (Op.call (Call.mk (Callee.value (Operand.func 92)) (Array.mk [Operand.tmp 29, Operand.tmp 30]) (Array.mk [64, 145]))) 64 "solve.go:240" (Array.mk [Go.Edge.mk 0
  Ground.data, Go.Edge.mk 1 Ground.data]) none, Oper.mk none (Op.store 64 (Operand.tmp 6) (Operand.tmp 31)) 0 "solve.go:240" (Array.mk [Go.Edge.mk 2 Ground.data, Go.Edge.mk 2
  Ground.chain,Go.Edge.mk 0 Ground.phase,Go.Edge.mk 1 Ground.phase,Go.Edge.mk 2 Ground.phase]) none]) false))))).seq ((Code.region 11 (Array.mk [Oper.mk (some 32) (Op.load 64
  (Operand.tmp 6)) 64 "solve.go:242" (Array.mk []) none, Oper.mk (some 33) (Op.call (Call.mk (Callee.builtin Builtin.len) (Array.mk [Operand.tmp 32]) (Array.mk [64]))) 3
  "solve.go:242" (Array.mk [Go.Edge.mk 0 Ground.data]) none, Oper.mk (some 34) (Op.binOp BinOp.eql 3 (Operand.tmp 33) (Operand.const (Value.int i64 0)) 3) 4 "solve.go:242"
  (Array.mk [Go.Edge.mk 1 Ground.data]) none]) false).seq (Code.cond (Operand.tmp 34) (Code.exit 0) Code.skip))))),(296,.cells 0 64 [.slz 736 0 f'.length cO]),(QSL d),
  (496,.rowz true 49 kB l.length λi=>QA.enc (l.getD i (Lay.mk (0:Int) (0:Int)))),(504,.rowz true 4 [CK.bool] d.ps.n u),(328,.cellsR 0 141 [.mth
  (Fn.func 91) [.ptr 200 0 0]]),(352,.cellsR 0 90 [.ptr 200 0 0]),(360,.cellsR 0 96 [.nils]),(QQ7 f')]
theorem QXC(pb:List Prop->Bool)(d:Puz)(E:ECt)(w0:List Jn)(u:Nat->Nat->Int)(l:List Lay)(f f':List Jn):(VR (mkE prog (Hn pb d w0 l (Qm f43).1 (Qm f43).2 f f')) (faM prog (Hn pb d w0 l (Qm f43).1 (Qm f43).2 f f')) f103
  QGH (vd d E w0 (QN f43 0).1 (QN f43 0).2 u l f).hp 520 λv h _=>ZE ZY v h) = .br ((l.length:Int)==(d.ps.n:Int)) (.need (pb ([0=0,0=0,0 =
  0, 0 = 0, LoopState.ready = LoopState.ready, (none : Option Code) = none, Array.mk [28] = Array.mk [28], Code.region 9 (Array.mk [Oper.mk (some 9) (Op.alloc 67) 0 "solve.go:239"
  (Array.mk []) none, Oper.mk none (Op.store 67 (Operand.tmp 9) (Operand.tmp 28)) 0 "solve.go:239" (Array.mk [Go.Edge.mk 0 Ground.data, Go.Edge.mk 0 Ground.phase]) none]) false =
  Code.region 9 (Array.mk [Oper.mk (some 9) (Op.alloc 67) 0 "solve.go:239" (Array.mk []) none, Oper.mk none (Op.store 67 (Operand.tmp 9) (Operand.tmp 28)) 0 "solve.go:239" (Array.mk
  [Go.Edge.mk 0 Ground.data, Go.Edge.mk 0 Ground.phase]) none]) false, Code.block 3 (Code.region 10 (Array.mk [Oper.mk (some 29) (Op.load 64 (Operand.tmp 6)) 64 "solve.go:240"
  (Array.mk []) none, Oper.mk (some 30) (Op.makeFunc (Fn.func 93) (Array.mk []) (Array.mk [Operand.tmp 9])) 145 "solve.go:240" (Array.mk []) none, Oper.mk (some 31) (Op.call (Call.mk
  (Callee.value (Operand.func 92)) (Array.mk [Operand.tmp 29, Operand.tmp 30]) (Array.mk [64, 145]))) 64 "solve.go:240" (Array.mk [Go.Edge.mk 0 Ground.data, Go.Edge.mk 1 Ground.data])
  none, Oper.mk none (Op.store 64 (Operand.tmp 6) (Operand.tmp 31)) 0 "solve.go:240" (Array.mk [Go.Edge.mk 2 Ground.data, Go.Edge.mk 2 Ground.chain, Go.Edge.mk 0 Ground.phase,
  Go.Edge.mk 1 Ground.phase, Go.Edge.mk 2 Ground.phase]) none]) false) = Code.block 3 (Code.region 10 (Array.mk [Oper.mk (some 29) (Op.load 64 (Operand.tmp 6)) 64 "solve.go:240"
  (Array.mk []) none, Oper.mk (some 30) (Op.makeFunc (Fn.func 93) (Array.mk []) (Array.mk [Operand.tmp 9])) 145 "solve.go:240" (Array.mk []) none, Oper.mk (some 31) (Op.call (Call.mk
  (Callee.value (Operand.func 92)) (Array.mk [Operand.tmp 29, Operand.tmp 30]) (Array.mk [64, 145]))) 64 "solve.go:240" (Array.mk [Go.Edge.mk 0 Ground.data, Go.Edge.mk 1 Ground.data])
  none, Oper.mk none (Op.store 64 (Operand.tmp 6) (Operand.tmp 31)) 0 "solve.go:240" (Array.mk [Go.Edge.mk 2 Ground.data, Go.Edge.mk 2 Ground.chain, Go.Edge.mk 0 Ground.phase,
  Go.Edge.mk 1 Ground.phase,Go.Edge.mk 2 Ground.phase]) none]) false),d.pK.length=d.pK.length,d.pK.aK=d.pK.aK,d.pK.oK=d.pK.oK,d.pK.dK.lo =
  d.pK.dK.lo,d.pK.dK.hi=d.pK.dK.hi,d.wide=d.wide,d.high=d.high,d.turn=d.turn,0=0,d.ps.n=d.ps.n,Cap.of 0=Cap.of 0,0=0,0=0,(0:Int)=0,0=0,
  0=0,(0:Int)=0,0=0,0=0,0=0,0=0,0=0,l.length=l.length,Cap.of 0=Cap.of 0,0=0,0=0,(0:Int)=0,d.pK.length=d.pK.length,d.pK.aK =
  d.pK.aK,d.pK.oK=d.pK.oK,d.pK.dK.lo=d.pK.dK.lo,d.pK.dK.hi=d.pK.dK.hi,d.wide=d.wide,d.high=d.high,d.turn=d.turn,0=0,d.ps.n =
  d.ps.n,Cap.of 0=Cap.of 0,0=0,0=0,(0:Int)=0,0=0,0=0,(0:Int)=0,(0:Int)=0,false=false,0=0,0=0,0=0,w0.length=w0.length,Cap.of 0=Cap.of 0,
  0=0,0=0,Fn.func 91=Fn.func 91,0=0,0=0,0=0,0=0,Fn.func 102=Fn.func 102,0=0,0=0,0=0,0=0,0=0,l.length=l.length,Cap.of 0=Cap.of 0,Fn.func 91
  = Fn.func 91,0=0,0=0,0=0,l.length=l.length,Cap.of 0=Cap.of 0,Fn.func 133=Fn.func 133,0=0,0=0,0=0,0=0,0=0,f.length=f.length,Cap.of 0=Cap.of 0,
  f.length<=f.length,QB 4 f.length (λi=>QA.enc (f.getD i (Jn.mk (0:Int) (0:Int) (0:Int) (0:Int)))) λi=>QA.enc (f.getD i (Jn.mk (0:Int) (0:Int) (0 :
  Int) (0:Int))),0=0,l.length=l.length,Cap.of 0=Cap.of 0,0=0,0=0,l.length<=l.length,QB 2 l.length (λi=>QA.enc (l.getD i (Lay.mk (0:Int) (0:Int))))
  λi=>QA.enc (l.getD i (Lay.mk (0:Int) (0:Int))),d.pK.length=d.pK.length,d.pK.aK=d.pK.aK,d.pK.oK=d.pK.oK,d.pK.dK.lo=d.pK.dK.lo,
  d.pK.dK.hi=d.pK.dK.hi,d.wide=d.wide,d.high=d.high,d.turn=d.turn,0=0,d.ps.n=d.ps.n,Cap.of 0=Cap.of 0,0=0,l.length=l.length,Cap.of 0=Cap.of 0,
  d.ps.n<=d.ps.n,QB 28 d.ps.n (λi=>QA.enc (d.ps.get i)) λi=>QA.enc (d.ps.get i)])) (.br ((f'.length:Int)==0) (.leaf (.bool true false) ((QQg E d f' l u w0)))
  (.leaf (.bool true true) ((QJ6 E d f' l u w0))))) (.fail ("a loop")) := by kernel_rfl
abbrev QNX(E:ECt)(d:Puz)(l:List Lay):List Prop:=
  (([d.pK.aK=d.pK.aK]++waP d++([0 =
  0,d.ps.n=d.ps.n,cO=cO,0=0]++wcj E l))++wag l++[0=0,d.ps.n=d.ps.n,cO=cO])
abbrev QQz:List Prop:=
  [Array.mk [24] = Array.mk [(24 : Tmp)], Code.region 7 (Array.mk [Oper.mk (some 8) (Op.assign (Operand.tmp 24)) 42 "solve.go:238" (Array.mk []) none]) false = Code.region 7 (Array.mk
  [Oper.mk (some 8) (Op.assign (Operand.tmp 24)) 42 "solve.go:238" (Array.mk []) none]) false, Code.block 1 (((Code.region 8 (Array.mk [Oper.mk (some 25) (Op.load 141 (Operand.tmp 7))
  141 "solve.go:239" (Array.mk []) none, Oper.mk (some 26) (Op.move (Operand.tmp 8)) 42 "solve.go:239" (Array.mk []) none, Oper.mk (some 27) (Op.call (Call.mk (Callee.value
  (Operand.tmp 25)) (Array.mk [Operand.tmp 26]) (Array.mk [42]))) 143 "solve.go:239" (Array.mk [Go.Edge.mk 0 Ground.data, Go.Edge.mk 1 Ground.data]) none]) false).seq (Code.block 2
  (Code.rangeFunc (Operand.tmp 27) (Array.mk [28]) (Code.region 9 (Array.mk [Oper.mk (some 9) (Op.alloc 67) 0 "solve.go:239" (Array.mk []) none, Oper.mk none (Op.store 67 (Operand.tmp
  9) (Operand.tmp 28)) 0 "solve.go:239" (Array.mk [Go.Edge.mk 0 Ground.data, Go.Edge.mk 0 Ground.phase]) none]) false) (Code.block 3 (Code.region 10 (Array.mk [Oper.mk (some 29)
  (Op.load 64 (Operand.tmp 6)) 64 "solve.go:240" (Array.mk []) none, Oper.mk (some 30) (Op.makeFunc (Fn.func 93) (Array.mk []) (Array.mk [Operand.tmp 9])) 145 "solve.go:240" (Array.mk
  []) none, Oper.mk (some 31) (Op.call (Call.mk (Callee.value (Operand.func 92)) (Array.mk [Operand.tmp 29, Operand.tmp 30]) (Array.mk [64, 145]))) 64 "solve.go:240" (Array.mk
  [Go.Edge.mk 0 Ground.data, Go.Edge.mk 1 Ground.data]) none, Oper.mk none (Op.store 64 (Operand.tmp 6) (Operand.tmp 31)) 0 "solve.go:240" (Array.mk [Go.Edge.mk 2 Ground.data,
  Go.Edge.mk 2 Ground.chain,Go.Edge.mk 0 Ground.phase,Go.Edge.mk 1 Ground.phase,Go.Edge.mk 2 Ground.phase]) none]) false))))).seq ((Code.region 11 (Array.mk [Oper.mk (some 32)
  (Op.load 64 (Operand.tmp 6)) 64 "solve.go:242" (Array.mk []) none, Oper.mk (some 33) (Op.call (Call.mk (Callee.builtin Builtin.len) (Array.mk [Operand.tmp 32]) (Array.mk [64]))) 3
  "solve.go:242" (Array.mk [Go.Edge.mk 0 Ground.data]) none, Oper.mk (some 34) (Op.binOp BinOp.eql 3 (Operand.tmp 33) (Operand.const (Value.int i64 0)) 3) 4 "solve.go:242"
  (Array.mk [Go.Edge.mk 1 Ground.data]) none]) false).seq (Code.cond (Operand.tmp 34) (Code.exit 0) Code.skip)))=Code.block 1 (((Code.region 8 (Array.mk [Oper.mk (some 25) (Op.load
  141 (Operand.tmp 7)) 141 "solve.go:239" (Array.mk []) none, Oper.mk (some 26) (Op.move (Operand.tmp 8)) 42 "solve.go:239" (Array.mk []) none, Oper.mk (some 27) (Op.call (Call.mk
  (Callee.value (Operand.tmp 25)) (Array.mk [Operand.tmp 26]) (Array.mk [42]))) 143 "solve.go:239" (Array.mk [Go.Edge.mk 0 Ground.data, Go.Edge.mk 1 Ground.data]) none]) false).seq
  (Code.block 2 (Code.rangeFunc (Operand.tmp 27) (Array.mk [28]) (Code.region 9 (Array.mk [Oper.mk (some 9) (Op.alloc 67) 0 "solve.go:239" (Array.mk []) none, Oper.mk none (Op.store
  67 (Operand.tmp 9) (Operand.tmp 28)) 0 "solve.go:239" (Array.mk [Go.Edge.mk 0 Ground.data, Go.Edge.mk 0 Ground.phase]) none]) false) (Code.block 3 (Code.region 10 (Array.mk [Oper.mk
  (some 29) (Op.load 64 (Operand.tmp 6)) 64 "solve.go:240" (Array.mk []) none, Oper.mk (some 30) (Op.makeFunc (Fn.func 93) (Array.mk []) (Array.mk [Operand.tmp 9])) 145 "solve.go:240"
  (Array.mk []) none, Oper.mk (some 31) (Op.call (Call.mk (Callee.value (Operand.func 92)) (Array.mk [Operand.tmp 29, Operand.tmp 30]) (Array.mk [64, 145]))) 64 "solve.go:240"
  (Array.mk [Go.Edge.mk 0 Ground.data, Go.Edge.mk 1 Ground.data]) none, Oper.mk none (Op.store 64 (Operand.tmp 6) (Operand.tmp 31)) 0 "solve.go:240" (Array.mk [Go.Edge.mk 2
  Ground.data,Go.Edge.mk 2 Ground.chain,Go.Edge.mk 0 Ground.phase,Go.Edge.mk 1 Ground.phase,Go.Edge.mk 2 Ground.phase]) none]) false))))).seq ((Code.region 11 (Array.mk [Oper.mk
  (some 32) (Op.load 64 (Operand.tmp 6)) 64 "solve.go:242" (Array.mk []) none, Oper.mk (some 33) (Op.call (Call.mk (Callee.builtin Builtin.len) (Array.mk [Operand.tmp 32]) (Array.mk
  [64]))) 3 "solve.go:242" (Array.mk [Go.Edge.mk 0 Ground.data]) none, Oper.mk (some 34) (Op.binOp BinOp.eql 3 (Operand.tmp 33) (Operand.const (Value.int i64 0)) 3) 4
  "solve.go:242" (Array.mk [Go.Edge.mk 1 Ground.data]) none]) false).seq (Code.cond (Operand.tmp 34) (Code.exit 0) Code.skip))), d.pK.length = d.pK.length, d.pK.aK =
  d.pK.aK,d.pK.oK=d.pK.oK,d.pK.dK.lo=d.pK.dK.lo,d.pK.dK.hi=d.pK.dK.hi,d.wide=d.wide,d.high=d.high,d.turn=d.turn,0=0,d.ps.n =
  d.ps.n,cO=cO,0=0,0=0,(0:Int)=0,0=0,0=0,(0:Int)=0,0=0,0=0,0=0,0=0,0=0,0=0,(0:Int)=0,d.pK.length=d.pK.length,
  d.pK.aK=d.pK.aK,d.pK.oK=d.pK.oK,d.pK.dK.lo=d.pK.dK.lo,d.pK.dK.hi=d.pK.dK.hi,d.wide=d.wide,d.high=d.high,d.turn=d.turn,0=0,
  d.ps.n=d.ps.n,cO=cO,0=0,0=0]
abbrev QQV(w0:List Jn):List Prop:=
  ([(0:Int)=0,false=false,0=0,0=0,0=0,w0.length=w0.length,cO=cO,0=0,0=0,Fn.func 91=Fn.func (91:FuncId),0=0,0=0,0=0,0=0,Fn.func
  102=Fn.func (102:FuncId),0=0,0=0,0=0,0=0,0=0,f'.length=f'.length,cO=cO]++waF f')
theorem QbM(E:ECt)(w0:List Jn)(u:Nat->Nat->Int)(l:List Lay)(f f':List Jn):QG 520 [(.bool true false)] ((QQg E d f' l u w0)) (KP (faV d E w0 (QN f43 0).1 (QN f43 0).2 u l f f'))=(some ([false=false,d.pK.length=d.pK.length]++(QNX E d l)++([d.ps.n<=d.ps.n,QB 1 d.ps.n u u]++wba)++(QQz d)++[(0:Int)=0,0=0,0=0,(0:Int)=0]++(QQV f' w0))):=by kernel_rfl
theorem QfN(E:ECt)(w0:List Jn)(u:Nat->Nat->Int)(l:List Lay)(f f':List Jn):QG 520 [(.bool true true)] ((QJ6 E d f' l u w0)) (KP (faU d E w0 (QN f43 0).1 (QN f43 0).2 u l f f'))=(some ([true=true,d.pK.length=d.pK.length] ++ (QNX E d l)++([d.ps.n<=d.ps.n,QB 1 d.ps.n u u]++waj)++(QQz d)++[(0:Int)=0,0=0,0=0,(0:Int)=0] ++ (QQV f' w0))):=by kernel_rfl
def faY(s:LJ):QZ LJ:=cond (((V9 d l s).1.length:Int)==0) (.stop (V9 d l s)) (.go (V9 d l s))
theorem QJD(T:Tab)(hT:Qe T)(G:Ctx)(hrd:G.rd=none):Qu (mkE prog T) G (faM prog T) (Qp f103):=
 KM (body:=QJ f103 0) (QQ hT) hrd (by kernel_rfl) (λ_ _ _ _ _ _ _ h _ _=>h.elim)
set_option maxHeartbeats 1000000 in
theorem QZD{d:Puz}(hd:KI d){E:ECt}{w0:List Jn}(l:List Lay)(s:LJ)(hk:l.length=d.ps.n)(hL:∀ y∈l,KC d y):QR prog 103 (uFC (YU d E w0 VG VN l s (faY d l s))):=by
 have hll:l.length<=1000:=by rw[hk];exact hd.n
 have hT:Qe (Hn QO d w0 l Je JT s.1 (V9 d l s).1):=Qd.add (Qaw hd w0 l hll hL s);have et:=QXC QO d E w0 (QD l) l s.1 (V9 d l s).1;have hlen:((l.length:Int)==(d.ps.n:Int))=true:=by rw[hk];simp
 unfold faY;cases h0:(((V9 d l s).1.length:Int)==0)with
 | true=>
  simp only[cond_true,YU];refine Ks (E:=mkE prog (Hn QO d w0 l Je JT s.1 (V9 d l s).1)) (QQ hT) func103 (by kernel_rfl) (by kernel_rfl) (QQ6 ..) (λG hG _=>QJD _ hT G hG) ⟨?_⟩
  refine Qf et ?_;clear et;refine QF (λb0=>?_) (λb0=>?_);refine QH ?_ ?_;rotate_left;refine QF (λb1=>?_) (λb1=>?_);refine⟨rfl,rfl,_,QbM d E w0 (QD l) l s.1 (V9 d l s).1,?_⟩
  rotate_left
  .exact Bool.noConfusion (h0.symm.trans b1)
  .exact Bool.noConfusion (hlen.symm.trans b0)
  all_goals first|((with_reducible show _=true);(first|(refine Q6.2 ?_;repeat' first|with_reducible refine QP ?_ ?_|exact tv|with_reducible exact qRr|exact rfl|refine aI ?_ ?_)|(simp;omega)))|(repeat' first|with_reducible refine QP ?_ ?_|exact tv|with_reducible exact qRr|exact rfl|refine aI ?_ ?_)
 | false=>
  simp only[cond_false,YU];refine Ks (E:=mkE prog (Hn QO d w0 l Je JT s.1 (V9 d l s).1)) (QQ hT) func103 (by kernel_rfl) (by kernel_rfl) (QKa ..) (λG hG _=>QJD _ hT G hG) ⟨?_⟩
  refine Qf et ?_;clear et;refine QF (λb0=>?_) (λb0=>?_);refine QH ?_ ?_;rotate_left;refine QF ?_ ?_<;>intro b1
  .exact Bool.noConfusion (h0.symm.trans b1)
  refine⟨rfl,rfl,_,QfN d E w0 (QD l) l s.1 (V9 d l s).1,?_⟩
  rotate_left
  .exact Bool.noConfusion (hlen.symm.trans b0)
  all_goals first|((with_reducible show _=true);(first|(refine Q6.2 ?_;repeat' first|with_reducible refine QP ?_ ?_|exact tv|with_reducible exact qRr|exact rfl|refine aI ?_ ?_)|(simp;omega)))|(repeat' first|with_reducible refine QP ?_ ?_|exact tv|with_reducible exact qRr|exact rfl|refine aI ?_ ?_)
