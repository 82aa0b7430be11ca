/- - -/
import Derived.Test.YtekbmehgcofnkaaGreatVzw
import Derived.Test.YtekbmehgcofnkaaGreatVzg
import Derived.Test.YtekbmehgcofnkaaGreatVzp
import Derived.Test.YtekbmehgcofnkaaGreatVzr
noncomputable section
open Go.Proofs.Tryz
open Go.IntKind (i64)
set_option maxRecDepth 100000
namespace Go.Proofs.YtekbmehgcofnkaaGreat
open Go Go.SX Go.SX.Told
variable {get:Nat->Pt}
theorem QfG{d:Puz}(ho:d.ok=true){s:List Lay}(hs:XK d (QH d) s){r:Nat->Nat}(hr:∀ i,i<d.ps.n->r i<d.ps.n/\get i=⟨(r i:Nat),s.getD (r i) ⟨0,0⟩⟩)(hi:∀ i j,i<d.ps.n->j<d.ps.n->r i=r j->i=j):QX d get d.ps.n=((d.ps.n:Int),0):=by
 obtain⟨hd,hpos,h9⟩:=JW (JU ho);have hlen:=hs.len
 have hg:∀ i,i<d.ps.n->∃ h:r i<s.length,get i=⟨(r i:Nat),s[r i]⟩:=λi hn=>by
  obtain⟨h1,h2⟩:=hr i hn;have h:r i<s.length:=by omega
  exact⟨h,by rw[h2,Jb h]⟩
 have hb:QR (JE d get) d.ps.n 0=none:=by
  refine vL λk _ hk=>?_;obtain⟨hk1,ek⟩:=hg k (by omega)
  unfold JE
  have h1:J2 d (get k)=true:=by
   obtain⟨p,t,hp,ht,e⟩:=vP.1 (hs.st _ hk1).1;obtain⟨t1,t2⟩:=Yr d p;rw[ek,e];unfold J2;show(Q1 ((r k:Nat):Int) 0 (i64.wrap ((d.ps.n:Int)-1))&&(Q1 (p:Int) 0 (i64.wrap ((d.ps.n:Int)-1))&&Q1 (t:Int) 0 (i64.wrap (tnV d p-1))))=true;rw[w64 (n:=(d.ps.n:Int)-1) (by omega) (by omega),w64 (n:=tnV d p-1) (by omega) (by omega)]
   unfold Q1;rw[qde (show(0:Int)<=(r k:Nat)/\((r k:Nat):Int)<=(d.ps.n:Int)-1 by omega),qde (show(0:Int)<=p/\(p:Int)<=(d.ps.n:Int)-1 by omega),qde (show(0:Int)<=t/\(t:Int)<=tnV d p-1 by omega)]
   rfl
  have h2:QBe get k=false:=by
   have:Vu ⟨k,get⟩ (get k)=none:=by
    unfold Vu;refine vL λi _ hik=>?_;have hik:i<k:=by simpa using hik
    obtain⟨hi1,ei⟩:=hg i (by omega)
    unfold Y8;show((get k).cell==(get i).cell||(get k).lay.piece==(get i).lay.piece)=false
    have hne:r k≠r i:=λe=>by have:=hi k i (by omega) (by omega) e;omega
    rw[ek,ei,Bool.or_eq_false_iff,beq_eq_false_iff_ne,beq_eq_false_iff_ne];exact⟨λe=>hne (by have:((r k:Nat):Int)=(r i:Nat):=e;omega),hs.ne hk1 hi1 hne⟩
   unfold QBe;rw[this];rfl
  rw[h1,h2];rfl
 have hk:JF d (QH d) get d.ps.n=d.ps.n:=by
  have:QR (VB d (QH d) get) d.ps.n 0=none:=by
   refine vL λk _ hk=>?_;unfold VB;rw[Bool.not_eq_false',QH5];refine⟨s,hs,λi hil=>?_⟩;unfold Qj;refine Option.isNone_iff_eq_none.2 (vL λj _ hj=>?_);have hj:j<k+1:=by have:j<0+(k+1):=hj;omega
   obtain⟨hj1,ej⟩:=hg j (by omega)
   unfold X5;show(((get j).cell==(i:Int) && !((get j).lay.piece==s[i].piece&&(get j).lay.turn==s[i].turn))||((get j).lay.piece==s[i].piece && !((get j).cell==(i:Int))))=false
   rw[ej]
   by_cases e:r j=i
   .subst e;simp
   .have e1:(((r j:Nat):Int)==(i:Int))=false:=by rw[beq_eq_false_iff_ne];omega
    have e2:(s[r j].piece==s[i].piece)=false:=by rw[beq_eq_false_iff_ne];exact hs.ne hj1 hil e
    simp only[e1,e2,Bool.false_and,Bool.or_false]
  unfold JF;rw[this]
 unfold QX Wf;rw[ho,cond_true,decide_eq_false (by omega),cond_false,hb]
 show cond (hsV d (QH d) (Qj Ja)) (JF d (QH d) get d.ps.n,0) (0,4)=_;rw[Gt.2 (λe=>by have:=Vr.2 hs;rw[e]at this;cases this),cond_true,hk]
theorem QYa{d:Puz}(ho:d.ok=true)(get:Nat->Pt):QX d get 0=(0,cond (Q7 d (QH d)).isEmpty 4 0):=by
 unfold QX Wf;rw[ho,cond_true,decide_eq_false (by omega),cond_false]
 show cond (hsV d (QH d) (Qj Ja)) (JF d (QH d) get 0,0) (0,4)=_;cases h:Q7 d (QH d)with
 | nil=>
  have:hsV d (QH d) (Qj Ja)=false:=by
   cases q:hsV d (QH d) (Qj Ja)with
   | false=>rfl
   | true=>exact absurd h (Gt.1 q)
  rw[this];rfl
 | cons a L=>
  rw[Gt.2 (by rw[h];exact List.cons_ne_nil _ _)];rfl
theorem QZC{p:Nat->Bool}{n k:Nat}(hk:k<=n):(match QR p k 0 with|some i=>(i:Int)|none=>(k:Int))=min (match QR p n 0 with|some i=>(i:Int)|none=>(n:Int)) (k:Int):=by
 have spec:∀ m,(∃ i,QR p m 0=some i/\i<m/\p i=true/\∀ j,j<i->p j=false)∨(QR p m 0=none/\∀ j,j<m->p j=false):=by
  intro m;cases q:QR p m 0 with
  | none=>exact .inr ⟨rfl,λj hj=>vv q j (Nat.zero_le _) (by omega)⟩
  | some i=>exact .inl ⟨i,rfl,by have:=QAY q;omega,(QAY q).2.2.1,λj hj=>(QAY q).2.2.2 j (Nat.zero_le _) hj⟩
 rcases spec k with ⟨i,h1,h2,h3,h4⟩|⟨h1,h2⟩<;>rcases spec n with ⟨i',g1,g2,g3,g4⟩|⟨g1,g2⟩<;>rw[h1,g1]<;>simp only
 .have:i=i':=by
   rcases Nat.lt_trichotomy i i' with q|q|q
   .rw[g4 i q]at h3;cases h3
   .exact q
   .rw[h4 i' q]at g3;cases g3
  omega
 .rw[g2 i (by omega)]at h3;cases h3
 .have:k<=i':=by
   rcases Nat.lt_or_ge i' k with q|q
   .rw[h2 i' q]at g3;cases g3
   .exact q
  omega
 .omega
theorem QQn{d:Puz}(ho:d.ok=true){n k:Nat}(h20:n<=20)(hk:k<=n)(h:(QX d get n).2=0):QX d get k=(min (QX d get n).1 k,0)/\0<=(QX d get n).1/\(QX d get n).1<=n/\Q7 d (QH d)≠[]:=by
 have e:∀ m,m<=20->QX d get m=Wf d (QH d) get m:=λm hm=>by
  unfold QX;rw[ho,cond_true,decide_eq_false (by omega),cond_false]
 rw[e n h20]at h ⊢;rw[e k (by omega)]
 unfold Wf at h ⊢;cases hb:QR (JE d get) n 0 with
 | some i=>
  rw[hb]at h;have h:Jq d get i=0:=h;unfold Jq at h;cases q:J2 d (get i)<;>rw[q]at h<;>cases h
 | none=>
  have hbk:QR (JE d get) k 0=none:=vL λi _ hi=>vv hb i (Nat.zero_le _) (by omega)
  rw[hb]at h;rw[hbk];cases hv:hsV d (QH d) (Qj Ja)with
  | false=>
   have h:(cond (hsV d (QH d) (Qj Ja)) (JF d (QH d) get n,(0:Int)) (0,4)).2=0:=h;rw[hv]at h;cases h
  | true=>
   show(JF d (QH d) get k,(0:Int))=(min (JF d (QH d) get n) k,0)/\0<=JF d (QH d) get n/\JF d (QH d) get n<=n/\_;refine⟨by rw[show JF d (QH d) get k=min (JF d (QH d) get n) k from QZC hk],?_,?_,Gt.1 hv⟩
   .unfold JF;cases QR (VB d (QH d) get) n 0<;>simp only<;>omega
   .unfold JF;cases q:QR (VB d (QH d) get) n 0 with
    | none=>simp only;omega
    | some i=>
     have:=QAY q;simp only;omega
theorem QcH{d:Puz}(ho:d.ok=true){n:Nat}(h20:n<=20)(h:(QX d get n).2≠0):(QX d get n).1=0/\((QX d get n).2=2∨(QX d get n).2=5∨(QX d get n).2=4/\Q7 d (QH d)=[]):=by
 have e:QX d get n=Wf d (QH d) get n:=by
  unfold QX;rw[ho,cond_true,decide_eq_false (by omega),cond_false]
 rw[e]at h ⊢;unfold Wf at h ⊢;cases hb:QR (JE d get) n 0 with
 | some i=>
  refine⟨rfl,?_⟩;show Jq d get i=2∨Jq d get i=5∨_;unfold Jq;cases J2 d (get i)
  .exact .inl rfl
  .exact .inr (.inl rfl)
 | none=>
  rw[hb]at h;have h:(cond (hsV d (QH d) (Qj Ja)) (JF d (QH d) get n,(0:Int)) (0,4)).2≠0:=h;show(cond (hsV d (QH d) (Qj Ja)) (JF d (QH d) get n,(0:Int)) (0,4)).1=0/\((cond (hsV d (QH d) (Qj Ja)) (JF d (QH d) get n,(0:Int)) (0,4)).2=2∨(cond (hsV d (QH d) (Qj Ja)) (JF d (QH d) get n,(0:Int)) (0,4)).2=5∨(cond (hsV d (QH d) (Qj Ja)) (JF d (QH d) get n,(0:Int)) (0,4)).2=4/\_);cases hv:hsV d (QH d) (Qj Ja)with
  | true=>rw[hv]at h;exact absurd rfl h
  | false=>
   refine⟨rfl,.inr (.inr ⟨rfl,?_⟩)⟩;refine Decidable.byContradiction λq=>?_;rw[Gt.2 q]at hv;cases hv
open Go Go.SX Go.SX.Told Go.RowKit
def qi(lk:Nat->Option Blk):List AV->List AV×Bool
 | [a,.slz id 0 n (.of 0)]=>match lk id with
  | some (.rowz _ _ _ m _)=>([a,.slz id 0 n (.lit n)],decide (n<=m))
  | _=>([a,.slz id 0 n (.of 0)],true)
 | l=>(l,true)
abbrev StA:=Puz×Rc Pt×Unit
def QHb:FC:=λargs nid all=>(all,λblks=>match (QZ.dec (qi (Go.SX.look (J4 Blk.ro all blks)) args).1 (Go.SX.look (J4 Blk.ro all blks)):Option (Bool×StA))with
 | some (p,x)=>some ⟨false,(qi (Go.SX.look (J4 Blk.ro all blks)) args).2&&(p&&(Ji x).1),(Ji x).2.1.mapId (·+nid),(Ji x).2.2.map λq=>(q.1+nid,q.2.mapId (·+nid))⟩
 | none=>none)
def QES(a:AV)(id n:Nat)(lk:Nat->Option Blk)(c:Nat):Option (Bool×StA):=match (Qg.dec a lk:Option (Bool×Puz)),Xv (QA.ks Pt) (.slz id 0 n (.lit 0)) lk with
 | some (q,d),some (q2,m,g)=>some (q&&(q2&&true),d,⟨m,λi=>QA.dec (g i),c⟩,())
 | _,_=>none
theorem QNx(a:AV)(id n:Nat)(lk:Nat->Option Blk)(c:Nat):(QZ.dec [a,.slz id 0 n (.lit c)] lk:Option (Bool×StA))=QES a id n lk c:=by
 have e:(Qg.dec (AV.slz id 0 n (.lit c)) lk:Option (Bool×Rc Pt))=match Xv (QA.ks Pt) (.slz id 0 n (.lit 0)) lk with
  | some (p,m,g)=>some (p,⟨m,λi=>QA.dec (g i),c⟩)
  | none=>none:=by
  show(match some c,Xv (QA.ks Pt) (.slz id 0 n (.lit 0)) lk with
   | some c,some (p,m,g)=>some (p,(⟨m,λi=>QA.dec (g i),c⟩:Rc Pt))
   | _,_=>none)=_
  cases Xv (QA.ks Pt) (.slz id 0 n (.lit 0)) lk<;>rfl
 simp only[QZ.dec];rw[e];unfold QES;cases (Qg.dec a lk:Option (Bool×Puz))<;>cases Xv (QA.ks Pt) (.slz id 0 n (.lit 0)) lk<;>rfl
theorem Qhc:QS prog 19 QHb:=by
 refine⟨QA4.1,λargs nid all r w lk blks eff hH ha hv he hp=>?_⟩;simp only[QHb]at hv he
 have hlk:∀ id b,Go.SX.look (J4 Blk.ro all blks) id=some b->QN r id w b:=by
  intro id b hb;obtain⟨b0,k1,k2⟩:=vk hv _ (KK hb);have k2:b=b0.ro:=k2;rw[k2];exact(hH.rep _ b0 k1).ro
 generalize hz:Go.SX.look (J4 Blk.ro all blks)=z at he hlk
 have same:qi z args=(args,true)->Calls prog 19 (AV.denL r args).toArray w λe w'=>∃ r',e = .returned (eff.val.den r')/\Qv lk r nid eff.upd w r' w':=by
  intro h;rw[h]at he;simp only[Bool.true_and]at he;refine QA4.2 args nid all r w lk blks eff hH ha hv ?_ hp;simp only[QCm,wFC];rw[hz];cases hd:(QZ.dec args z:Option (Bool×StA))with
  | none=>rw[hd]at he;cases he
  | some px=>rw[hd]at he;exact he
 have main:∀ a id n o ty ks m g,args=[a,.slz id 0 n (.of 0)]->z id=some (.rowz o ty ks m g)->qi z args=([a,.slz id 0 n (.lit n)],decide (n<=m))->Calls prog 19 (AV.denL r args).toArray w λe w'=>∃ r',e = .returned (eff.val.den r')/\Qv lk r nid eff.upd w r' w':=by
  intro a id n o ty ks m g ea hb hr;have rep:Kl r id w ty ks.length m (QY ks g):=hlk _ _ hb;rw[hr]at he;simp only[QNx]at he;subst ea;have hd:AV.denL r [a,.slz id 0 n (.of 0)]=AV.denL r [a,.slz id 0 n (.lit (r id).cap)]:=rfl;rw[hd];unfold QES at he;cases h1:(Qg.dec a z:Option (Bool×Puz))with
  | none=>rw[h1]at he;cases he
  | some qd=>
   cases h2:Xv (QA.ks Pt) (.slz id 0 n (.lit 0)) z with
   | none=>rw[h1,h2]at he;cases he
   | some qm=>
    obtain⟨q,d⟩:=qd;obtain⟨q2,m2,g2⟩:=qm;rw[h1,h2]at he;simp only[qsI]at he;subst he
    have hm2:m2=n:=by
     unfold Xv at h2;simp only[hb]at h2;split at h2<;>(try (cases h2;done))
     all_goals (simp only[qsI,qpI]at h2;exact h2.2.1.symm)
    simp only[qbA,Ji,qdE]at hp;obtain⟨hnm,hp⟩:=hp
    have hc:n<=(r id).cap:=by
     cases hn:(r id).nil with
     | true=>have:=rep.2.2.2.1 hn;omega
     | false=>have:=(rep.2.2.2.2.2 hn).1;omega
    refine QA4.2 [a,.slz id 0 n (.lit (r id).cap)] nid all r w lk blks ⟨false,(q&&(q2&&true))&&(Ji (d,⟨m2,λi=>QA.dec (g2 i),(r id).cap⟩,())).1,(Xp (QX d (λi=>QA.dec (g2 i)) m2).1 (QX d (λi=>QA.dec (g2 i)) m2).2).mapId (·+nid),[]⟩ hH ha hv ?_ ?_
    .simp only[QCm,wFC];rw[hz,QNx];unfold QES;rw[h1,h2];rfl
    .simp only[qbA,Ji,qdE];exact⟨hp.1,hp.2.1,hp.2.2.1,by omega⟩
 by_cases hs:∃ a id n,args=[a,.slz id 0 n (.of 0)]
 .obtain⟨a,id,n,rfl⟩:=hs;cases hb:z id with
  | none=>exact same (by simp only[qi,hb])
  | some b=>
   cases b with
   | rowz o ty ks m g=>exact main a id n o ty ks m g rfl hb (by simp only[qi,hb])
   | _=>exact same (by simp only[qi,hb])
 .refine same ?_;unfold qi;split
  .exact absurd ⟨_,_,_,rfl⟩ hs
  .rfl
structure U8n where
 n:Int
instance : Enc U8n where
  enc x := .int false .u8 x.n
  dec v := match v with
    | .int _ .u8 n => some ⟨n⟩
    | _ => none
  ok v x h := by
    split at h <;> (try (cases h; done))
    simp only[qsI]at h; subst h; exact⟨λ_=>rfl,rfl⟩
def K4:Tab:=Qc (Qc (Qc QJD 16 QA1) 24 (Zj QBb)) 19 (Zj QHb)
theorem Yt:Qf K4:=((QSI.add QG8).add (Wq QDE)).add (Wq Qhc)
variable (d:Puz)(L:Rc Pt)(u:Int)(x:List Lay)(i:Nat)(y:List Lay)(n e:Int)(s:List Lay)(k:Nat)(o:List Pt)(g:Nat->Value)
def skS:List (Nat×AV):=[(1,.slz 1 0 L.n (.lit L.c)),(2,.int false .u8 u),(3,.ptr 8 0 0),(9,.int false .i64 n),(10,.int false .i64 e)]
def skB:List (Nat×Blk):=[(8,.cells 0 28 (KZ d))]++Qg.blk 0 d.ps++Qg.blk 1 L
def skY:List (Nat×Blk):=[(224,.rowl 42 1 [[.slz 128 0 x.length (.of 0)],[.slz 129 0 y.length (.of 0)]]),rwY 128 x,rwY 129 y]
def QQA(id:Nat)(l:List Pt):Nat×Blk:=(id,.rowz true 63 [.int .i64,.int .i64,.int .i64] l.length λi=>QA.enc (l.getD i (⟨0,⟨0,0⟩⟩:Pt)))
def QSK:List (Nat×AV):=skS L u n e++[(45,.slice true 224 0 2 (.lit 2)),(46,.int true .i64 2),(47,.int true .i64 k)]
def jC:JSt:=⟨154,QSK L u n e k,skY x y++skB d L,248⟩
def QJ0:JSt:=⟨154,[(1,.slz 1 0 L.n (.lit L.c)),(3,.ptr 8 0 0),(9,.int false .i64 n),(10,.int false .i64 e)],skB d L,248⟩
def QEf:Ex->List Nat
 | .normal=>[1,2,3,9,10,45,46,47]
 | .exit _=>[1,3,9,10]
 | .ret=>[6]
def QOY(k sid:Nat)(s:List Lay)(o:List Pt):List (Nat×AV):=QSK L u n e k++[(12,.slz sid 0 s.length (.of 0)),(13,.slz 304 0 o.length (.of 0))]
def Yi(k sid:Nat)(s:List Lay)(o:List Pt)(i:Nat):JSt:=⟨154,QOY L u n e k sid s o++[(52,.int false .i64 s.length),(53,.int false .i64 i)],QQA 304 o::skY x y++skB d L,312⟩
def zJ(k sid:Nat)(s:List Lay)(o:List Pt):JSt:=⟨154,QOY L u n e k sid s o,QQA 304 o::skY x y++skB d L,312⟩
def QDX:Ex->List Nat
 | .normal=>[1,2,3,9,10,45,46,47,12,13,52,53]
 | .exit _=>[1,2,3,9,10,45,46,47,12,13]
 | .ret=>[6]
abbrev Hy(i:Nat):Nat×Blk:=
  (1,.frz (waJ) L.1 λi=>QA.enc (L.2 i))
abbrev qJ:Nat×Blk:=
  (8,.cells 0 28 (waf d))
abbrev zN:Nat×Blk:=
  (224,.rowl 42 1 [[.slz 128 0 x.length cO],[.slz 129 0 y.length cO]])
abbrev Gd(i:Nat)(x:List Lay):Nat×Blk:=
  (128,.rowz true 49 kB x.length λi=>QA.enc (x.getD i (Lay.mk (0:Int) (0:Int))))
abbrev QWP(u:Int)(x:List Lay):List AV:=
  [vi ((i64.wrap ((i:Int)+i64.wrap u)).tmod (x.length:Int)),vi (x.getD ((i64.wrap ((i:Int)+i64.wrap u)).tmod
  (x.length:Int)).toNat (Lay.mk (0:Int) (0:Int))).piece,vi (x.getD ((i64.wrap ((i:Int)+i64.wrap u)).tmod (x.length:Int)).toNat (Lay.mk (0 :
  Int) (0:Int))).turn]
abbrev qb:List CK:=
  (wae)
abbrev QAa(i:Nat)(y:List Lay):Nat×Blk:=
  (129,.rowz true 49 kB y.length λi=>QA.enc (y.getD i (Lay.mk (0:Int) (0:Int))))
abbrev QTm(d:Puz)(i:Nat)(o:List Pt)(u:Int)(x:List Lay)(y:List Lay):List (Nat×Blk):=
  [(Hy L i),(qJ d),(zN x y),(Gd i x),(464,.rowz true 63 (waJ) (o.length+1) (KQ o.length (λi=>QA.enc (o.getD i (Pt.mk (0 :
  Int) (Lay.mk (0:Int) (0:Int))))) (KD [(QWP i u x)] 0))),(0,.frz qb d.ps.n λi=>QA.enc (d.ps.get i)),(QAa i y)]
abbrev QFY(i:Nat)(o:List Pt):Nat×Blk:=
  (304,.rowz true 63 (waJ) o.length λi=>QA.enc (o.getD i (Pt.mk (0:Int) (Lay.mk (0:Int) (0:Int)))))
abbrev waD(L:Rc Pt)(e:Int)(n:Int)(u:Int):List AV:=[.slz 1 0 L.1 (Cap.lit L.3),.int false .u8 u,.ptr 8 0 0,vi n,vi e,.slice true 224 0 2 (Cap.lit 2),vj 2]
theorem QlR(i:Nat)(g:Nat->Value):exec (mkE prog K4) (hnd (mkE prog K4) 0) (QW (QI f8 0)) (JSt.inst (Yi d L u x y n e 0 128 x o i) g) (Q5 [] QDX) = .br (decide ((i:Int)<(x.length:Int))) (.need (!decide ((x.length:Int)=0)) (.need (decide ((0:Int)<=(i64.wrap ((i:Int)+i64.wrap u)).tmod (x.length:Int)/\(i64.wrap ((i:Int)+i64.wrap u)).tmod (x.length:Int)<(x.length:Int))&&decide (x.length<=x.length)) (.need (decide (((i64.wrap ((i:Int)+i64.wrap u)).tmod (x.length:Int)).toNat<x.length)) (.need (decide (o.length<=o.length)&&(true&&decide ((o.length+1+(o.length+1) / 4+192)*24<=281474976710656/\o.length+1<=9223372036854775807))) (.leaf (.tup (.nilp::.ptr 154 0 0::List.append (waD L e n u) ([vj 0,.slz 128 0 x.length cO,.slz 464 0 (o.length+1) cO,vi (x.length:Int),vi (i64.wrap ((i:Int)+1))]))) ((QTm L d i o u x y))))))) (.leaf (.tup (.ptr 2 0 0::.ptr 154 0 0::List.append (waD L e n u) ([vj 0,.slz 128 0 x.length cO,.slz 304 0 o.length cO]))) ([(Hy L i),(qJ d),(zN x y),(Gd i x),(QFY i o),(0,.frz qb d.ps.n λi=>QA.enc (d.ps.get i)),(QAa i y)])):=by kernel_rfl
abbrev GG(n:Int)(u:Int):List Prop:=
  ([0=0]++wby L++[u=u,0=0,0=0,n=n,e=e,0=0,2=2,Cap.lit 2=Cap.lit 2,(2:Int)=2])
abbrev waq(x:List Lay):List Prop:=[x.length<=x.length,QB 2 x.length (λi=>QA.enc (x.getD i (Lay.mk (0:Int) (0
  : Int)))) λi=>QA.enc (x.getD i (Lay.mk (0:Int) (0:Int)))]
abbrev QDj(d:Puz)(i:Nat)(x:List Lay)(y:List Lay):List Prop:=
  (([x.length=x.length,cO=cO,0=0,y.length=y.length,cO=cO]++waq x++[y.length<=y.length,QB 2 y.length (λi=>QA.enc (y.getD i (Lay.mk (0:Int) (0:Int)))) λi=>
  QA.enc (y.getD i (Lay.mk (0:Int) (0:Int)))])++waa d++([cO=cO]++wad d++[L.1<=L.1,QB 3 L.1 (λi=>QA.enc (L.2 i)) λi=>QA.enc (L.2 i)]))
theorem QkM(o o':List Pt)(i i':Nat):QF 8 (List.append (waD L e n u) ([vj 0,.slz 128 0 x.length cO,.slz 464 0 (o.length+1) cO,vi (x.length:Int),vi (i64.wrap ((i:Int)+1))])) ((QTm L d i o u x y)) (Yi d L u x y n e 0 128 x o' i')=(some ((GG L e n u)++[(0:Int)=0,0=0,x.length=x.length,cO=cO,0=0,o.length+1=o'.length,cO=cO, (x.length:Int)=(x.length:Int),i64.wrap ((i:Int)+1)=(i':Int),o'.length<=o.length+1,QB 3 o'.length (KQ o.length (λi=>QA.enc (o.getD i (Pt.mk (0:Int) (Lay.mk (0:Int) (0:Int))))) (KD [(QWP i u x)] 0)) λi=>QA.enc (o'.getD i (Pt.mk (0:Int) (Lay.mk (0:Int) (0:Int)))),0=0]++(QDj L d i x y))):=by kernel_rfl
abbrev QQO(i:Nat)(o:List Pt):List Prop:=
  [cO=cO,0=0,o.length=o.length,cO=cO,o.length<=o.length,QB 3 o.length (λi=>QA.enc (o.getD i (Pt.mk (0:Int) (Lay.mk (0:Int) (0 :
  Int))))) λi=>QA.enc (o.getD i (Pt.mk (0:Int) (Lay.mk (0:Int) (0:Int))))]
theorem QcS(i:Nat):QF 8 (List.append (waD L e n u) ([vj 0,.slz 128 0 x.length cO,.slz 304 0 o.length cO])) ([(Hy L i),(qJ d),(zN x y),(Gd i x),(QFY i o),(0,.frz qb d.ps.n λi=>QA.enc (d.ps.get i)), (QAa i y)]) (zJ d L u x y n e 0 128 x o)=(some ((GG L e n u)++[(0:Int)=0,0=0,x.length=x.length]++(QQO i o)++[0=0]++(QDj L d i x y))):=by kernel_rfl
abbrev QQH(u:Int)(y:List Lay):List AV:=
  [vi ((i64.wrap ((i:Int)+i64.wrap u)).tmod (y.length:Int)),vi (y.getD ((i64.wrap ((i:Int)+i64.wrap u)).tmod
  (y.length:Int)).toNat (Lay.mk (0:Int) (0:Int))).piece,vi (y.getD ((i64.wrap ((i:Int)+i64.wrap u)).tmod (y.length:Int)).toNat (Lay.mk (0 :
  Int) (0:Int))).turn]
abbrev QU4(d:Puz)(i:Nat)(o:List Pt)(u:Int)(x:List Lay)(y:List Lay):List (Nat×Blk):=
  [(Hy L i),(qJ d),(zN x y),(QAa i y),(464,.rowz true 63 (waJ) (o.length+1) (KQ o.length (λi=>QA.enc (o.getD i (Pt.mk (0 :
  Int) (Lay.mk (0:Int) (0:Int))))) (KD [(QQH i u y)] 0))),(0,.frz qb d.ps.n λi=>QA.enc (d.ps.get i)),(Gd i x)]
theorem Qco(i:Nat)(g:Nat->Value):exec (mkE prog K4) (hnd (mkE prog K4) 0) (QW (QI f8 0)) (JSt.inst (Yi d L u x y n e 1 129 y o i) g) (Q5 [] QDX) = .br (decide ((i:Int)<(y.length:Int))) (.need (!decide ((y.length:Int)=0)) (.need (decide ((0:Int)<=(i64.wrap ((i:Int)+i64.wrap u)).tmod (y.length:Int)/\(i64.wrap ((i:Int)+i64.wrap u)).tmod (y.length:Int)<(y.length:Int))&&decide (y.length<=y.length)) (.need (decide (((i64.wrap ((i:Int)+i64.wrap u)).tmod (y.length:Int)).toNat<y.length)) (.need (decide (o.length<=o.length)&&(true&&decide ((o.length+1+(o.length+1) / 4+192)*24<=281474976710656/\o.length+1<=9223372036854775807))) (.leaf (.tup (.nilp::.ptr 154 0 0::List.append (waD L e n u) ([vj 1,.slz 129 0 y.length cO,.slz 464 0 (o.length+1) cO,vi (y.length:Int),vi (i64.wrap ((i:Int)+1))]))) ((QU4 L d i o u x y))))))) (.leaf (.tup (.ptr 2 0 0::.ptr 154 0 0::List.append (waD L e n u) ([vj 1,.slz 129 0 y.length cO,.slz 304 0 o.length cO]))) ([(Hy L i),(qJ d),(zN x y),(QAa i y),(QFY i o),(0,.frz qb d.ps.n λi=>QA.enc (d.ps.get i)),(Gd i x)])):=by kernel_rfl
theorem Qjq(o o':List Pt)(i i':Nat):QF 8 (List.append (waD L e n u) ([vj 1,.slz 129 0 y.length cO,.slz 464 0 (o.length+1) cO,vi (y.length:Int),vi (i64.wrap ((i:Int)+1))])) ((QU4 L d i o u x y)) (Yi d L u x y n e 1 129 y o' i')=(some ((GG L e n u)++[(1:Int)=1,0=0,y.length=y.length,cO=cO,0=0,o.length+1=o'.length,cO=cO, (y.length:Int)=(y.length:Int),i64.wrap ((i:Int)+1)=(i':Int),o'.length<=o.length+1,QB 3 o'.length (KQ o.length (λi=>QA.enc (o.getD i (Pt.mk (0:Int) (Lay.mk (0:Int) (0:Int))))) (KD [(QQH i u y)] 0)) λi=>QA.enc (o'.getD i (Pt.mk (0:Int) (Lay.mk (0:Int) (0:Int)))),0=0]++(QDj L d i x y))):=by kernel_rfl
theorem QdB(i:Nat):QF 8 (List.append (waD L e n u) ([vj 1,.slz 129 0 y.length cO,.slz 304 0 o.length cO])) ([(Hy L i),(qJ d),(zN x y),(QAa i y),(QFY i o),(0,.frz qb d.ps.n λi=>QA.enc (d.ps.get i)), (Gd i x)]) (zJ d L u x y n e 1 129 y o)=(some ((GG L e n u)++[(1:Int)=1,0=0,y.length=y.length]++(QQO i o)++[0=0]++(QDj L d i x y))):=by kernel_rfl
abbrev QEJ(d:Puz)(x:List Lay)(y:List Lay):List (Nat×Blk):=
  [(1,.frz (waJ) L.1 λi=>QA.enc (L.2 i)),(qJ d),(zN x y),(0,.frz qb d.ps.n λi=>QA.enc (d.ps.get i)),(128,.rowz true 49 [.int
  .i64,.int .i64] x.length λi=>QA.enc (x.getD i (Lay.mk (0:Int) (0:Int)))),(129,.rowz true 49 kB y.length λi=>QA.enc (y.getD i (Lay.mk (0 :
  Int) (0:Int))))]
abbrev wb9:List AV:=[.nili,.ptr 154 0 0,.bool true false]
theorem QaT(A B:Prop)(g:Nat->Value):exec (mkF prog K4) { hnd (mkF prog K4) 1 with loop:=λ_=>Ks A (KF 8 [] (Yi d L u x y n e 0 128 x [] 0) [(B,.exit 2,zJ d L u x y n e 0 128 x o)]) } (QI f8 0) (JSt.inst (jC d L u x y n e 0) g) (Q5 [] QEf) = .ak ((([A,0=0]++wby L++[u=u,0=0,0=0,n=n,e=e,0=0,2=2,Cap.lit 2=Cap.lit 2,(2:Int)=2,(0:Int)=0,0=0,x.length=x.length,cO=cO,0=0,(x.length:Int)=(x.length:Int),(0:Int)=0,0=0,0=0,x.length=x.length,cO=cO,0=0,y.length=y.length,cO=cO])++waq x++[y.length<=y.length,QB 2 y.length (λi=>QA.enc (y.getD i (Lay.mk (0:Int) (0:Int)))) λi=>QA.enc (y.getD i (Lay.mk (0:Int) (0:Int)))])++waa d++([cO=cO]++wad d++[L.1<=L.1,QB 3 L.1 (λi=>QA.enc (L.2 i)) λi=>QA.enc (L.2 i)])) (.asm (B) (.all (λ(g0:Nat->Value)=>.need (decide (o.length<=o.length)&&(decide (d.ps.n<=d.ps.n)&&(decide (o.length<=o.length)&&true)&&decide (d.ps.n<=1000/\o.length<=1000/\o.length<=o.length))) (.br ((QX d (λi=>o.getD i (Pt.mk (0:Int) (Lay.mk (0:Int) (0:Int)))) o.length).1 != (o.length:Int)) (.leaf (.tup (wb9)) ([])) (.br ((QX d (λi=>o.getD i (Pt.mk (0:Int) (Lay.mk (0:Int) (0:Int)))) o.length).2 != e) (.leaf (.tup (wb9)) ([])) (.leaf (.tup (.nilp::.ptr 154 0 0::List.append (waD L e n u) ([vj 1]))) ((QEJ L d x y)))))))):=by kernel_rfl
abbrev QQo:List Prop:=
  ([0=0,x.length=x.length,cO=cO,0=0,y.length=y.length,cO=cO]++waq x++([y.length<=y.length,QB 2 y.length (λi=>QA.enc (y.getD i (Lay.mk (0:Int) (0:Int)))) λi
  => QA.enc (y.getD i (Lay.mk (0:Int) (0:Int)))]++waK d))
abbrev QGn(d:Puz):List Prop:=
  ((waC d++[0=0,d.ps.n=d.ps.n,cO =
  cO])++wad d++[L.1<=L.1,QB 3 L.1 (λi=>QA.enc (L.2 i)) λi=>QA.enc
  (L.2 i)])
theorem Qfp(o:List Pt):QF 8 (List.append (waD L e n u) ([vj 1])) ((QEJ L d x y)) (jC d L u x y n e 1)=(some ((GG L e n u)++[(1:Int)=1]++(QQo d x y)++(QGn L d))):=by kernel_rfl
theorem QeO(A B:Prop)(g:Nat->Value):exec (mkF prog K4) { hnd (mkF prog K4) 1 with loop:=λ_=>Ks A (KF 8 [] (Yi d L u x y n e 1 129 y [] 0) [(B,.exit 2,zJ d L u x y n e 1 129 y o)]) } (QI f8 0) (JSt.inst (jC d L u x y n e 1) g) (Q5 [] QEf) = .ak ((([A,0=0]++wby L++[u=u,0=0,0=0,n=n,e=e,0=0,2=2,Cap.lit 2=Cap.lit 2,(2:Int)=2,(1:Int)=1,0=0,y.length=y.length,cO=cO,0=0,(y.length:Int)=(y.length:Int),(0:Int)=0,0=0,0=0,x.length=x.length,cO=cO,0=0,y.length=y.length,cO=cO])++waq x++[y.length<=y.length,QB 2 y.length (λi=>QA.enc (y.getD i (Lay.mk (0:Int) (0:Int)))) λi=>QA.enc (y.getD i (Lay.mk (0:Int) (0:Int)))])++waa d++([cO=cO]++wad d++[L.1<=L.1,QB 3 L.1 (λi=>QA.enc (L.2 i)) λi=>QA.enc (L.2 i)])) (.asm (B) (.all (λ(g0:Nat->Value)=>.need (decide (o.length<=o.length)&&(decide (d.ps.n<=d.ps.n)&&(decide (o.length<=o.length)&&true)&&decide (d.ps.n<=1000/\o.length<=1000/\o.length<=o.length))) (.br ((QX d (λi=>o.getD i (Pt.mk (0:Int) (Lay.mk (0:Int) (0:Int)))) o.length).1 != (o.length:Int)) (.leaf (.tup (wb9)) ([])) (.br ((QX d (λi=>o.getD i (Pt.mk (0:Int) (Lay.mk (0:Int) (0:Int)))) o.length).2 != e) (.leaf (.tup (wb9)) ([])) (.leaf (.tup (.nilp::.ptr 154 0 0::List.append (waD L e n u) ([vj 2]))) ((QEJ L d x y)))))))):=by kernel_rfl
theorem Qdd(o:List Pt):QF 8 (List.append (waD L e n u) ([vj 2])) ((QEJ L d x y)) (jC d L u x y n e 2)=(some ((GG L e n u)++[(2:Int)=2]++(QQo d x y)++(QGn L d))):=by kernel_rfl
abbrev QFe(d:Puz):List (Nat×Blk):=
  [(1,.frz (waJ) L.1 λi=>QA.enc (L.2 i)),(qJ d),(0,.frz qb d.ps.n λi=>QA.enc (d.ps.get i))]
theorem QhM :exec (mkF prog K4) (hnd (mkF prog K4) 0) (QI f8 0) (JSt.inst (jC d L u x y n e 2) g) (Q5 [] QEf) = .leaf (.tup [.ptr 0 0 0,.ptr 154 0 0,.slz 1 0 L.1 (Cap.lit L.3),.ptr 8 0 0,vi n,vi e]) ((QFe L d)):=by kernel_rfl
theorem Qe2(u:Int)(x y:List Lay)(n e:Int):QF 8 [.slz 1 0 L.1 (Cap.lit L.3),.ptr 8 0 0,vi n,vi e] ((QFe L d)) (QJ0 d L n e)=(some ((([0=0]++wby L++[0=0,0=0,n=n,e=e])++waK d)++(QGn L d))):=by kernel_rfl
def QBP(m:Int)(k:Nat):JSt:=⟨154,[(1,.slz 1 0 L.n (.lit L.c)),(3,.ptr 8 0 0),(18,.int false .i64 m),(131,.int false .i64 L.n),(132,.int false .i64 k)],skB d L,448⟩
def QLI:JSt:=⟨154,[],[],448⟩
def QNd:Ex->List Nat
 | .normal=>[1,3,18,131,132]
 | .exit _=>[]
 | .ret=>[6]
theorem QXt(m:Int)(k:Nat)(g:Nat->Value):exec (mkF prog K4) (hnd (mkF prog K4) 0) (QI f8 1) (JSt.inst (QBP d L m k) g) (Q5 [] QNd) = .br (decide ((k:Int)<(L.1:Int))) (.need (decide ((0:Int)<=(k:Int)/\k<=min L.1 L.3)) (.need (true&&(decide (d.ps.n<=d.ps.n)&&(decide (k<=L.1)&&true)&&decide (d.ps.n<=1000/\k<=1000/\k<=L.3))) (.br ((QX d (λi=>L.2 (i+0)) k).2 != 0) (.leaf (.tup (wb9)) ([])) (.br ((QX d (λi=>L.2 (i+0)) k).1 != min m (k:Int)) (.leaf (.tup (wb9)) ([])) (.leaf (.tup [.nilp,.ptr 154 0 0,.slz 1 0 L.1 (Cap.lit L.3),.ptr 8 0 0,vi m,vi (L.1:Int),vi (i64.wrap ((k:Int)+1))]) ((QFe L d))))))) (.leaf (.tup [.ptr 4 0 0,.ptr 154 0 0]) ([])):=by kernel_rfl
theorem QeY(m:Int)(k k':Nat):QF 8 [.slz 1 0 L.1 (Cap.lit L.3),.ptr 8 0 0,vi m,vi (L.1:Int),vi (i64.wrap ((k:Int)+1))] ((QFe L d)) (QBP d L m k')=( some ((([0=0]++wby L++[0=0,0=0,m=m,(L.1:Int)=(L.1:Int),i64.wrap ((k:Int)+1)=(k':Int)])++waK d)++(QGn L d))):=by kernel_rfl
theorem QcP(d:Puz)(L:Rc Pt)(m:Int)(k:Nat):QF 8 [] ([]) QLI=( some []):=by kernel_rfl
def skC(u:Int)(i:Nat):Int:=(i64.wrap ((i:Int)+i64.wrap u)).tmod (s.length:Int)
def skX(u:Int)(i:Nat):Pt:=⟨skC s u i,s.getD (skC s u i).toNat ⟨0,0⟩⟩
def skO(s:List Lay)(u:Int):Nat->List Pt
 | 0=>[]
 | i+1=>skO s u i++[skX s u i]
theorem Xy(s:List Lay)(u:Int):∀ i,(skO s u i).length=i
 | 0=>rfl
 | i+1=>by rw[skO,List.length_append,Xy s u i];rfl
theorem QLh(s:List Lay)(u:Int){i:Nat}:∀{n:Nat},i<n->((skO s u n).getD i ⟨0,⟨0,0⟩⟩:Pt)=skX s u i
 | 0,h=>absurd h (Nat.not_lt_zero i)
 | n+1,h=>by
  rw[skO]
  by_cases q:i<n
  .rw[List.getD_eq_getElem?_getD,List.getElem?_append_left (by rw[Xy];exact q),<-List.getD_eq_getElem?_getD]
   exact QLh s u q
  .obtain rfl:i=n:=by omega
   rw[List.getD_eq_getElem?_getD,List.getElem?_append_right (by rw[Xy];exact qlr _)]
   simp[Xy]
theorem QKO{s:List Lay}{u:Int}(hu:0<=u/\u<=255)(hs:0<s.length){i:Nat}(hi:i<=1000):skC s u i=(((i+u.toNat) % s.length:Nat):Int):=by
 unfold skC;rw[w64 (n:=u) (by omega) (by omega),w64 (by omega) (by omega),show(i:Int)+u=((i+u.toNat:Nat):Int) by omega]
 rfl
theorem QW2{n k i j:Nat}(hi:i<n)(hj:j<n)(h:(i+k) % n=(j+k) % n):i=j:=by
 have h1:=Nat.div_add_mod (i+k) n;have h2:=Nat.div_add_mod (j+k) n;rw[h]at h1;have hlt:=Nat.mod_lt (j+k) (show n>0 by omega)
 rcases Nat.lt_trichotomy ((i+k) / n) ((j+k) / n)with q|q|q
 .have:=Nat.mul_le_mul_left n (Nat.succ_le_of_lt q);rw[Nat.mul_succ]at this;omega
 .rw[q]at h1;omega
 .have:=Nat.mul_le_mul_left n (Nat.succ_le_of_lt q);rw[Nat.mul_succ]at this;omega
theorem QTQ{d:Puz}(ho:d.ok=true){s:List Lay}{u e:Int}(hu:0<=u/\u<=255)(h:s=[]/\e=cond (Q7 d (QH d)).isEmpty 4 0∨s∈Q7 d (QH d)/\e=0):QX d (λi=>((skO s u s.length).getD i ⟨0,⟨0,0⟩⟩:Pt)) (skO s u s.length).length=(((skO s u s.length).length:Int),e):=by
 rcases h with ⟨rfl,rfl⟩|⟨h,rfl⟩
 .exact QYa ho _
 .have hs:=Vr.1 h;obtain⟨hd,hpos,h9⟩:=JW (JU ho);have hl:=hs.len;rw[Xy,hl];have e1:d.ps.n=d.ps.n:=rfl;refine QfG ho hs (r:=λi=>(i+u.toNat) % d.ps.n) (λi hi=>⟨Nat.mod_lt _ hpos,?_⟩) (λi j hi hj q=>QW2 hi hj q);have hc:=QKO (s:=s) hu (by omega) (show i<=1000 by omega)
  rw[hl]at hc;rw[<-hl,QLh s u (by omega)]
  unfold skX;rw[hc,hl];rfl
theorem QQz(l:List Pt)(x:Pt):QB 3 (l++[x]).length (KQ l.length (λi=>QA.enc (l.getD i ⟨0,⟨0,0⟩⟩)) (KD [[.int false .i64 x.cell,.int false .i64 x.lay.piece,.int false .i64 x.lay.turn]] 0)) λi=>QA.enc ((l++[x]).getD i (⟨0,⟨0,0⟩⟩:Pt)):=by
 intro i hi;rw[List.length_append,List.length_singleton]at hi;show eqF 3 0 _ (QA.enc ((l++[x]).getD i (⟨0,⟨0,0⟩⟩:Pt)))
 by_cases h:i<l.length
 .have e:(l++[x]).getD i ⟨0,⟨0,0⟩⟩=l.getD i ⟨0,⟨0,0⟩⟩:=by
   rw[List.getD_eq_getElem?_getD,List.getD_eq_getElem?_getD,List.getElem?_append_left h]
  rw[e];refine⟨?_,?_,?_,trivial⟩<;>(rw[X4,if_pos h])
 .obtain rfl:i=l.length:=by omega
  have e:(l++[x]).getD l.length ⟨0,⟨0,0⟩⟩=x:=by
   rw[List.getD_eq_getElem?_getD,List.getElem?_append_right (qlr _)];simp
  rw[e];refine⟨?_,?_,?_,trivial⟩<;>(rw[X4,if_neg h,Nat.sub_self];rfl)
def QSi(k sid:Nat)(s:List Lay)(e':Ex)(J:JSt):Prop:=e' = .exit 2/\J=zJ d L u x y n e k sid s (skO s u s.length)
theorem QeN(hu:0<=u/\u<=255)(hl:x.length<=9):K6 (λi=>Yi d L u x y n e 0 128 x (skO x u i) i) (λi=>i<=x.length) (λi=>x.length-i) (λ_=>QSi d L u x y n e 0 128 x) 8 QDX [] (λ_=>mkE prog K4) (λ_=>hnd (mkE prog K4) 0) (QW (QI f8 0)):=by
 refine⟨λi g hk=>?_⟩;have hk:i<=x.length:=hk;have wi:i64.wrap ((i:Int)+1)=((i+1:Nat):Int):=w64 (by omega) (by omega)
 have hol:=Xy x u i;have et:=QlR d L u x y n e (skO x u i) i g;refine Qh et ?_;clear et;refine QE (λb0=>?_) (λb0=>?_);have h:i<x.length:=by have:=qdt b0;omega
 have hc:(i64.wrap ((i:Int)+i64.wrap u)).tmod (x.length:Int)=(((i+u.toNat) % x.length:Nat):Int):=QKO (s:=x) hu (by omega) (by omega)
 have hm:=Nat.mod_lt (i+u.toNat) (show x.length>0 by omega)
 iterate 4 (refine QG ?_ ?_;rotate_left)
 have ey:=QQz (skO x u i) (skX x u i);have es:(skO x u (i+1)).length=(skO x u i).length+1:=by rw[Xy,Xy]
 refine⟨i+1,h,by show x.length-(i+1)<x.length-i;omega,λe J r=>r,rfl,rfl,_,QkM d L u x y n e (skO x u i) (skO x u (i+1)) i (i+1),?_⟩
 rotate_left
 have h:i=x.length:=by have:=qdf b0;omega
 subst h;refine⟨_,⟨rfl,rfl⟩,rfl,rfl,_,QcS d L u x y n e (skO x u x.length) x.length,?_⟩
 rotate_left
 all_goals first|((with_reducible show _=true);(first|rfl|(rw[decide_eq_false (show ¬ ((x.length:Int)=0) by omega)];rfl)|(rw[hc,qde (qlr _),qde (show(0:Int)<=(((i+u.toNat) % x.length:Nat):Int)/\(((i+u.toNat) % x.length:Nat):Int)<(x.length:Int) by omega)];rfl)|(rw[hc];exact qde (by omega))|(rw[hol];simp only[qlr,decide_true,Bool.and_true,Bool.true_and,qbA,qdE];omega)|(simp;omega)))|(repeat' first|with_reducible refine QM ?_ ?_|exact tv|with_reducible exact qRr|with_reducible exact wi|exact es.symm|exact Nat.le_of_eq es|exact ey|exact rfl|refine aI ?_ ?_)
theorem QkJ(hu:0<=u/\u<=255)(hl:y.length<=9):K6 (λi=>Yi d L u x y n e 1 129 y (skO y u i) i) (λi=>i<=y.length) (λi=>y.length-i) (λ_=>QSi d L u x y n e 1 129 y) 8 QDX [] (λ_=>mkE prog K4) (λ_=>hnd (mkE prog K4) 0) (QW (QI f8 0)):=by
 refine⟨λi g hk=>?_⟩;have hk:i<=y.length:=hk;have wi:i64.wrap ((i:Int)+1)=((i+1:Nat):Int):=w64 (by omega) (by omega)
 have hol:=Xy y u i;have et:=Qco d L u x y n e (skO y u i) i g;refine Qh et ?_;clear et;refine QE (λb0=>?_) (λb0=>?_);have h:i<y.length:=by have:=qdt b0;omega
 have hc:(i64.wrap ((i:Int)+i64.wrap u)).tmod (y.length:Int)=(((i+u.toNat) % y.length:Nat):Int):=QKO (s:=y) hu (by omega) (by omega)
 have hm:=Nat.mod_lt (i+u.toNat) (show y.length>0 by omega)
 iterate 4 (refine QG ?_ ?_;rotate_left)
 have ey:=QQz (skO y u i) (skX y u i);have es:(skO y u (i+1)).length=(skO y u i).length+1:=by rw[Xy,Xy]
 refine⟨i+1,h,by show y.length-(i+1)<y.length-i;omega,λe J r=>r,rfl,rfl,_,Qjq d L u x y n e (skO y u i) (skO y u (i+1)) i (i+1),?_⟩
 rotate_left
 have h:i=y.length:=by have:=qdf b0;omega
 subst h;refine⟨_,⟨rfl,rfl⟩,rfl,rfl,_,QdB d L u x y n e (skO y u y.length) y.length,?_⟩
 rotate_left
 all_goals first|((with_reducible show _=true);(first|rfl|(rw[decide_eq_false (show ¬ ((y.length:Int)=0) by omega)];rfl)|(rw[hc,qde (qlr _),qde (show(0:Int)<=(((i+u.toNat) % y.length:Nat):Int)/\(((i+u.toNat) % y.length:Nat):Int)<(y.length:Int) by omega)];rfl)|(rw[hc];exact qde (by omega))|(rw[hol];simp only[qlr,decide_true,Bool.and_true,Bool.true_and,qbA,qdE];omega)|(simp;omega)))|(repeat' first|with_reducible refine QM ?_ ?_|exact tv|with_reducible exact qRr|with_reducible exact wi|exact es.symm|exact Nat.le_of_eq es|exact ey|exact rfl|refine aI ?_ ?_)
abbrev QWV(P:Program)(d:Puz)(L:Rc Pt)(u:Int)(x y:List Lay)(n e:Int):Hnd:={ hnd (mkF P K4) 1 with loop:=λ_=>Ks True (KF 8 [] (Yi d L u x y n e 0 128 x [] 0) [(True,.exit 2,zJ d L u x y n e 0 128 x (skO x u x.length))]) }
abbrev Qdv(P:Program)(d:Puz)(L:Rc Pt)(u:Int)(x y:List Lay)(n e:Int):Hnd:={ hnd (mkF P K4) 1 with loop:=λ_=>Ks True (KF 8 [] (Yi d L u x y n e 1 129 y [] 0) [(True,.exit 2,zJ d L u x y n e 1 129 y (skO y u y.length))]) }
def skH(P:Program)(d:Puz)(L:Rc Pt)(u:Int)(x y:List Lay)(n e:Int):Nat->Hnd
 | 0=>QWV P d L u x y n e
 | 1=>Qdv P d L u x y n e
 | _=>hnd (mkF P K4) 0
theorem Qhq(hu:0<=u/\u<=255)(hx:x.length<=9)(hy:y.length<=9)(G:Ctx)(hrd:G.rd=none)(hG:G.n<=8):∀ k,Q0 (mkF prog K4) G (skH prog d L u x y n e k) (QI f8 0)
 | 0=>by
  refine KO (body:=QW (QI f8 0)) (KS Yt) hrd (by kernel_rfl) ?_
  refine JJ λ_=>?_;refine JG (I:=λi=>Yi d L u x y n e 0 128 x (skO x u i) i) (n0:=8) (λ_=>rfl) (λ_=>QP Yt) hG (λi _=>Qz (QP Yt) 0 G _ hrd) (λi _=>(by decide:8<=312)) ?_ (QeN d L u x y n e hu hx) (s0:=0) (Nat.zero_le _) ?_
  .rintro s e J ⟨_,rfl⟩;exact(by decide:8<=312)
  .rintro e J ⟨rfl,rfl⟩;exact⟨_,qmc,trivial,rfl,rfl⟩
 | 1=>by
  refine KO (body:=QW (QI f8 0)) (KS Yt) hrd (by kernel_rfl) ?_
  refine JJ λ_=>?_;refine JG (I:=λi=>Yi d L u x y n e 1 129 y (skO y u i) i) (n0:=8) (λ_=>rfl) (λ_=>QP Yt) hG (λi _=>Qz (QP Yt) 0 G _ hrd) (λi _=>(by decide:8<=312)) ?_ (QkJ d L u x y n e hu hy) (s0:=0) (Nat.zero_le _) ?_
  .rintro s e J ⟨_,rfl⟩;exact(by decide:8<=312)
  .rintro e J ⟨rfl,rfl⟩;exact⟨_,qmc,trivial,rfl,rfl⟩
 | k+2=>Qz (KS Yt) 0 G _ hrd
def QYI(e':Ex)(J:JSt):Prop:=e' = .exit 0/\J=QJ0 d L n e
theorem QeF{d:Puz}{u:Int}{x y:List Lay}{e:Int}(hn:d.ps.n<=1000)(hx:x.length<=9)(hy:y.length<=9)(ox:QX d (λi=>((skO x u x.length).getD i ⟨0,⟨0,0⟩⟩:Pt)) (skO x u x.length).length=(((skO x u x.length).length:Int),e))(oy:QX d (λi=>((skO y u y.length).getD i ⟨0,⟨0,0⟩⟩:Pt)) (skO y u y.length).length=(((skO y u y.length).length:Int),e)):
  K6 (λk=>jC d L u x y n e k) (λk=>k<=2) (λk=>2-k) (λ_=>QYI d L n e) 8 QEf [] (λ_=>mkF prog K4) (skH prog d L u x y n e) (QI f8 0):=by
 refine⟨λk g hk=>?_⟩
 match k,hk with
 | 0,_=>
  have hl:=Xy x u x.length;have et:=QaT d L u x y n e (skO x u x.length) True True g;refine Qh et ?_;clear et
  iterate 46 refine Qt (by first|exact tv|with_reducible exact qRr|exact rfl) ?_
  refine Qk λa0=>?_;refine Ql λg0=>?_;refine QG ?_ ?_;rotate_left;refine QE ?_ ?_<;>intro b0
  .have q:((QX d (λi=>((skO x u x.length).getD i ⟨0,⟨0,0⟩⟩:Pt)) (skO x u x.length).length).1 != ((skO x u x.length).length:Int))=true:=b0;rw[ox]at q;simp at q
  refine QE ?_ ?_<;>intro b1
  .have q:((QX d (λi=>((skO x u x.length).getD i ⟨0,⟨0,0⟩⟩:Pt)) (skO x u x.length).length).2 != e)=true:=b1;rw[ox]at q;simp at q
  refine⟨1,by decide,by decide,λe J r=>r,rfl,rfl,_,Qfp d L u x y n e (skO x u x.length),?_⟩
  rotate_left
  all_goals first|((with_reducible show _=true);(first|rfl|(rw[qde (qlr _),qde (qlr _),qde (show d.ps.n<=1000/\(skO x u x.length).length<=1000/\(skO x u x.length).length<=(skO x u x.length).length by omega)];rfl)))|(repeat' first|with_reducible refine QM ?_ ?_|exact tv|with_reducible exact qRr|exact rfl|refine aI ?_ ?_)
 | 1,_=>
  have hl:=Xy y u y.length;have et:=QeO d L u x y n e (skO y u y.length) True True g;refine Qh et ?_;clear et
  iterate 46 refine Qt (by first|exact tv|with_reducible exact qRr|exact rfl) ?_
  refine Qk λa0=>?_;refine Ql λg0=>?_;refine QG ?_ ?_;rotate_left;refine QE ?_ ?_<;>intro b0
  .have q:((QX d (λi=>((skO y u y.length).getD i ⟨0,⟨0,0⟩⟩:Pt)) (skO y u y.length).length).1 != ((skO y u y.length).length:Int))=true:=b0;rw[oy]at q;simp at q
  refine QE ?_ ?_<;>intro b1
  .have q:((QX d (λi=>((skO y u y.length).getD i ⟨0,⟨0,0⟩⟩:Pt)) (skO y u y.length).length).2 != e)=true:=b1;rw[oy]at q;simp at q
  refine⟨2,by decide,by decide,λe J r=>r,rfl,rfl,_,Qdd d L u x y n e (skO y u y.length),?_⟩
  rotate_left
  all_goals first|((with_reducible show _=true);(first|rfl|(rw[qde (qlr _),qde (qlr _),qde (show d.ps.n<=1000/\(skO y u y.length).length<=1000/\(skO y u y.length).length<=(skO y u y.length).length by omega)];rfl)))|(repeat' first|with_reducible refine QM ?_ ?_|exact tv|with_reducible exact qRr|exact rfl|refine aI ?_ ?_)
 | 2,_=>
  have et:=QhM d L u x y n e g;refine Qh et ?_;clear et;refine⟨_,⟨rfl,rfl⟩,rfl,rfl,_,Qe2 d L u x y n e,?_⟩
  repeat' first|with_reducible refine QM ?_ ?_|exact tv|with_reducible exact qRr|exact rfl|refine aI ?_ ?_
 | k+3,hk=>exact absurd hk (by omega)
def QXj(e':Ex)(J:JSt):Prop:=e' = .exit 4/\J=QLI
theorem Qga{d:Puz}(ho:d.ok=true){L:Rc Pt}(h20:L.n<=20)(hc:L.n<=L.c)(h:(QX d L.get L.n).2=0):K6 (λk=>QBP d L (QX d L.get L.n).1 k) (λk=>k<=L.n) (λk=>L.n-k) (λ_=>QXj) 8 QNd [] (λ_=>mkF prog K4) (λ_=>hnd (mkF prog K4) 0) (QI f8 1):=by
 refine⟨λk g hk=>?_⟩;have hk:k<=L.n:=hk;obtain⟨hd,hpos,h9⟩:=JW (JU ho);have wk:i64.wrap ((k:Int)+1)=((k+1:Nat):Int):=w64 (by omega) (by omega)
 have hp:=(QQn ho h20 hk h).1;have et:=QXt d L (QX d L.get L.n).1 k g;refine Qh et ?_;clear et;refine QE (λb0=>?_) (λb0=>?_);have hlt:k<L.n:=by have:=qdt b0;omega
 iterate 2 (refine QG ?_ ?_;rotate_left)
 refine QE ?_ ?_<;>intro b1
 .have q:((QX d L.get k).2 != 0)=true:=b1;rw[hp]at q;cases q
 refine QE ?_ ?_<;>intro b2
 .have q:((QX d L.get k).1 != min (QX d L.get L.n).1 (k:Int))=true:=b2;rw[hp]at q;simp at q
 refine⟨k+1,hlt,by show L.n-(k+1)<L.n-k;omega,λe J r=>r,rfl,rfl,_,QeY d L (QX d L.get L.n).1 k (k+1),?_⟩
 rotate_left
 .exact⟨_,⟨rfl,rfl⟩,rfl,rfl,_,QcP d L (QX d L.get L.n).1 k,trivial⟩
 all_goals first|((with_reducible show _=true);(first|rfl|(rw[qde (show k<=L.n by omega),qde (qlr _),qde (show d.ps.n<=1000/\k<=1000/\k<=L.c by omega)];rfl)|(simp only[qdE];omega)|(simp only[qdE,Nat.le_min];omega)))|(repeat' first|with_reducible refine QM ?_ ?_|exact tv|with_reducible exact qRr|with_reducible exact wk|exact rfl|refine aI ?_ ?_)
abbrev QTi:St->(Ex->St->QC)->QC:=Ks (d.ok=true) (KF 8 [] (jC d L u (QO d).1 (QO d).2.1 (QO d).2.2.1 (QO d).2.2.2 (0:Nat)) [(True,.exit 0,QJ0 d L (QO d).2.2.1 (QO d).2.2.2)])
abbrev QMW:St->(Ex->St->QC)->QC:=Ks (d.ok=true/\L.n<=20/\(QX d L.get L.n).2=0) (KF 8 [] (QBP d L (QX d L.get L.n).1 (0:Nat)) [(True,.exit 4,QLI)])
abbrev skL:Code->St->(Ex->St->QC)->QC:=QUp [(5,QTi d L u),(24,QMW d L)]
structure SkF (d:Puz):Prop where
 x:(QO d).1=[]/\(QO d).2.2.2=cond (Q7 d (QH d)).isEmpty 4 0∨(QO d).1∈Q7 d (QH d)/\(QO d).2.2.2=0
 y:(QO d).2.1=[]/\(QO d).2.2.2=cond (Q7 d (QH d)).isEmpty 4 0∨(QO d).2.1∈Q7 d (QH d)/\(QO d).2.2.2=0
 none:Q7 d (QH d)=[]->(QO d).2.2.1=0
 some:Q7 d (QH d)≠[]->(QO d).2.2.1≠0
theorem QQh{d:Puz}(ho:d.ok=true):SkF d:=by
 have es:=QFo ho;cases hs:Q7 d (QH d)with
 | nil=>
  rw[hs]at es;have es:QO d=([],[],0,4):=es;refine⟨.inl ?_,.inl ?_,λ_=>by rw[es],λh=>absurd hs h⟩<;>(rw[hs,es];exact⟨rfl,rfl⟩)
 | cons a S=>
  rw[hs]at es;have e0:(QO d).2.2.2=0:=by rw[es];rfl
  have e1:(QO d).1=a:=by rw[es];rfl
  have en:(QO d).2.2.1=((min (a::S).length 100:Nat):Int):=by rw[es];rfl
  refine⟨.inr ⟨by rw[hs,e1];exact qmc,e0⟩,?_,λh=>?_,λ_=>by rw[en,List.length_cons];omega⟩
  .cases S with
   | nil=>exact .inl ⟨by rw[es];rfl,by rw[hs,e0];rfl⟩
   | cons b S=>
    have e2:(QO d).2.1=b:=by rw[es];rfl
    exact .inr ⟨by rw[hs,e2];exact List.mem_cons_of_mem _ qmc,e0⟩
  .rw[hs]at h;cases h
theorem QRB{d:Puz}(ho:d.ok=true){x:List Lay}{A B:Prop}(h:x=[]/\A∨x∈Q7 d (QH d)/\B):x.length<=9:=by
 rcases h with ⟨rfl,_⟩|⟨h,_⟩
 .exact Nat.zero_le _
 .have:=(Vr.1 h).len;have:=(JW (JU ho)).2.2;omega
theorem QXb(hc:L.n<=L.c)(hu:0<=u/\u<=255)(G:Ctx)(hrd:G.rd=none)(hG:G.n=8):Q0 (mkS prog K4) G { hnd (mkS prog K4) 1 with loop:=skL d L u } (Qn f8):=by
 refine QOa (Zf Yt) hrd λc hc'=>?_;have hl:JA (Qn f8)=[.loop (QI f8 0),.loop (QI f8 1)]:=by kernel_rfl
 rw[hl]at hc';simp only[List.mem_cons,List.not_mem_nil,or_false]at hc';rcases hc' with rfl|rfl
 .have e1:skL d L u (.loop (QI f8 0))=QTi d L u:=by kernel_rfl
  show J5 _ G _ (skL d L u (.loop (QI f8 0)));rw[e1];refine JJ λho=>?_;have hf:=QQh ho;have h9:=(JW (JU ho)).2.2;have hx:=QRB ho hf.x;have hy:=QRB ho hf.y;refine JG (I:=λk=>jC d L u (QO d).1 (QO d).2.1 (QO d).2.2.1 (QO d).2.2.2 k) (n0:=8) (λ_=>rfl) (λ_=>KS Yt) (by omega) (λk _=>Qhq d L u _ _ _ _ hu hx hy G hrd (by omega) k) (λk _=>(by decide:8<=248)) ?_ (QeF L _ (by omega) hx hy (QTQ ho hu hf.x) (QTQ ho hu hf.y)) (s0:=0) (Nat.zero_le _) ?_
  .rintro s e J ⟨_,rfl⟩;exact(by decide:8<=248)
  .rintro e J ⟨rfl,rfl⟩;exact⟨_,qmc,trivial,rfl,rfl⟩
 .have e1:skL d L u (.loop (QI f8 1))=QMW d L:=by kernel_rfl
  show J5 _ G _ (skL d L u (.loop (QI f8 1)));rw[e1];refine JJ λhq=>?_;refine JG (I:=λk=>QBP d L (QX d L.get L.n).1 k) (n0:=8) (λ_=>rfl) (λ_=>KS Yt) (by omega) (λk _=>Qz (KS Yt) 0 G _ hrd) (λk _=>(by decide:8<=448)) ?_ (Qga hq.1 hq.2.1 hc hq.2.2) (s0:=0) (Nat.zero_le _) ?_
  .rintro s e J ⟨_,rfl⟩;exact(by decide:8<=448)
  .rintro e J ⟨rfl,rfl⟩;exact⟨_,qmc,trivial,rfl,rfl⟩
def QFP:WF (Puz×(Rc Pt)×U8n×Unit):=λ|(d,(L,(u,_)))=>(decide (L.n<=L.c/\0<=u.n/\u.n<=255),.bool false true,[])
abbrev wbz(d:Puz):List Prop:=[(QO d).1.length<=(QO d).1.length,QB 2 (QO d).1.length (λi=>QA.enc ((QO d).1.getD i (Lay.mk (0:Int) (0:Int)))) λi=>QA.enc ((QO d).1.getD i (Lay.mk (0:Int) (0:Int)))]
theorem Qc3(L:(Rc Pt))(u:U8n):Kg (mkS prog K4) { hnd (mkS prog K4) 1 with loop:=skL d L u.n } f8 (QZ.vals 0 ((d,L,u,()):Puz×(Rc Pt)×U8n×Unit)) (QZ.blks 0 ((d,L,u, ()):Puz×(Rc Pt)×U8n×Unit)) 8 = .need (decide (d.ps.n<=d.ps.n)&&(true&&true)&&true) (.need (!!KR d (9:Int)||!KR d (9:Int)) (.need (!!KR d (9:Int)||!KR d (9:Int)) (.need (KR d (9:Int)||!KR d (9:Int)) (.bnd (KR d (9:Int)||decide ((L.1:Int)>20)) (λ(x0:Bool)=>.need (!!x0||decide (d.ps.n<=d.ps.n)&&true&&decide (d.ps.n<=1000)&&!x0) (.need (!!x0||!x0) (.need (x0||!x0) (.bnd (x0||!d.ok) (λ(x1:Bool)=>.br (x1) (.leaf (.bool true true) ([])) (.need (decide (d.ps.n<=d.ps.n)&&true&&decide (d.ps.n<=1000)) (.ak (([d.ok=true,0=0,L.1=L.1,Cap.lit L.3=Cap.lit L.3,u.n=u.n,0=0,0=0,(QO d).2.2.1=(QO d).2.2.1,(QO d).2.2.2=(QO d).2.2.2,0=0,2=2,Cap.lit 2=Cap.lit 2,(2:Int)=2,(0:Int)=0,0=0,(QO d).1.length=(QO d).1.length,cO=cO,0=0,(QO d).2.1.length=(QO d).2.1.length,cO=cO]++wbz d++[(QO d).2.1.length<=(QO d).2.1.length,QB 2 (QO d).2.1.length (λi=>QA.enc ((QO d).2.1.getD i (Lay.mk (0:Int) (0:Int)))) λi=>QA.enc ((QO d).2.1.getD i (Lay.mk (0:Int) (0:Int)))])++waa d++([cO=cO]++wad d++[L.1<=L.1,QB 3 L.1 (λi=>QA.enc ((d,L,u,()).snd.fst.2 i)) λi=>QA.enc (L.2 i)])) (.asm (True) (.all (λ(g2:Nat->Value)=>.need (true&&(decide (d.ps.n<=d.ps.n)&&(decide (L.1<=L.1)&&true)&&decide (d.ps.n<=1000/\L.1<=1000/\L.1<=L.3))) (.br ((QX d (λi=>L.2 (i+0)) L.1).2 != 0) (.need (!(QX d (λi=>L.2 (i+0)) L.1).1==0||(QX d (λi=>L.2 (i+0)) L.1).1==0) (.need (!(QX d (λi=>L.2 (i+0)) L.1).1==0||(QX d (λi=>L.2 (i+0)) L.1).1==0) (.need (!((QX d (λi=>L.2 (i+0)) L.1).1==0&&!(QX d (λi=>L.2 (i+0)) L.1).2==2)||(QX d (λi=>L.2 (i+0)) L.1).1==0&&!(QX d (λi=>L.2 (i+0)) L.1).2==2) (.need (!(QX d (λi=>L.2 (i+0)) L.1).1==0||(QX d (λi=>L.2 (i+0)) L.1).1==0&&((QX d (λi=>L.2 (i+0)) L.1).2==2||(QX d (λi=>L.2 (i+0)) L.1).1==0&&!(QX d (λi=>L.2 (i+0)) L.1).2==2)) (.bnd ((QX d (λi=>L.2 (i+0)) L.1).2==2||(QX d (λi=>L.2 (i+0)) L.1).2==5) (λ(x3:Bool)=>.need (!(QX d (λi=>L.2 (i+0)) L.1).1==0||(QX d (λi=>L.2 (i+0)) L.1).1==0) (.need (!((QX d (λi=>L.2 (i+0)) L.1).1==0&&!x3)||(QX d (λi=>L.2 (i+0)) L.1).1==0&&!x3) (.need (!((QX d (λi=>L.2 (i+0)) L.1).1==0&&!x3)||(QX d (λi=>L.2 (i+0)) L.1).1==0&&!x3) (.need (!((QX d (λi=>L.2 (i+0)) L.1).1==0&&!x3&&(QX d (λi=>L.2 (i+0)) L.1).2==4)||(QX d (λi=>L.2 (i+0)) L.1).1==0&&!x3&&(QX d (λi=>L.2 (i+0)) L.1).2==4) (.need (!((QX d (λi=>L.2 (i+0)) L.1).1==0&&!x3)||(QX d (λi=>L.2 (i+0)) L.1).1==0&&!x3&&(!(QX d (λi=>L.2 (i+0)) L.1).2==4||(QX d (λi=>L.2 (i+0)) L.1).1==0&&!x3&&(QX d (λi=>L.2 (i+0)) L.1).2==4)) (.bnd ((QX d (λi=>L.2 (i+0)) L.1).2==4&&(QO d).2.2.1==0) (λ(x4:Bool)=>.need (!(QX d (λi=>L.2 (i+0)) L.1).1==0||(QX d (λi=>L.2 (i+0)) L.1).1==0&&(x3||(QX d (λi=>L.2 (i+0)) L.1).1==0&&!x3)) (.bnd (x3||x4) (λ(x5:Bool)=>.need (!(QX d (λi=>L.2 (i+0)) L.1).1==0||(QX d (λi=>L.2 (i+0)) L.1).1==0) (.bnd ((QX d (λi=>L.2 (i+0)) L.1).1==0&&x5) (λ(x6:Bool)=>.need (!x6||x6) (.bnd (x6||false) (λ(x7:Bool)=>.leaf (.bool false x7) ([]))))))))))))))))))) (.need (!!decide ((QX d (λi=>L.2 (i+0)) L.1).1<0)||!decide ((QX d (λi=>L.2 (i+0)) L.1).1<0)) (.need (!!decide ((QX d (λi=>L.2 (i+0)) L.1).1<0)||!decide ((QX d (λi=>L.2 (i+0)) L.1).1<0)&&!decide ((QX d (λi=>L.2 (i+0)) L.1).1<0)) (.need (decide ((QX d (λi=>L.2 (i+0)) L.1).1<0)||!decide ((QX d (λi=>L.2 (i+0)) L.1).1<0)) (.bnd (decide ((QX d (λi=>L.2 (i+0)) L.1).1<0)||decide ((QX d (λi=>L.2 (i+0)) L.1).1>(L.1:Int))) (λ(x8:Bool)=>.need (!!x8||!x8) (.need (x8||!x8) (.bnd (x8||(QO d).2.2.1==0) (λ(x9:Bool)=>.br (x9) (.leaf (.bool true false) ([])) (.ak ([d.ok=true/\L.1<=20/\(QX d L.2 L.1).2=0,0=0,L.1=L.1,Cap.lit L.3=Cap.lit L.3,0=0,0=0,(QX d (λi=>L.2 (i+0)) L.1).1=(QX d L.2 L.1).1,(L.1:Int)=(L.1:Int),(0:Int)=0]++waa d++([cO=cO]++wad d++[L.1<=L.1,QB 3 L.1 (λi=>QA.enc (L.2 i)) λi=>QA.enc (L.2 i)])) (.asm (True) (.all (λ(g10:Nat->Value)=>.leaf (.bool true true) ([])))))))))))))))))))))))))))):=by kernel_rfl
theorem QZ7:JL (mkS prog K4) (Qn f8) 8 QFP (λx_=>{ hnd (mkS prog K4) 1 with loop:=skL x_.1 x_.2.1 x_.2.2.1.n }):=by
 refine⟨?_⟩;rintro⟨d,⟨L,⟨u,⟨⟩⟩⟩⟩ hp G h1 h2;exact QXb d L u.n (qdt hp).1 (qdt hp).2 G h1 h2
theorem Qcc:JH (mkS prog K4) f8 8 QFP (λx_=>{ hnd (mkS prog K4) 1 with loop:=skL x_.1 x_.2.1 x_.2.2.1.n }):=by
 refine⟨?_⟩;rintro⟨d,⟨L,⟨u,⟨⟩⟩⟩⟩ hp;refine⟨⟨rfl,by simp[QFP],rfl⟩,⟨?_⟩⟩
 rw[Qc3 d L u];simp only[QFP]at hp;have hc:=(qdt hp).1;have n1:∀ b:Bool,(!!b || !b)=true:=λb=>by cases b<;>rfl
 have n2:∀ b:Bool,(b || !b)=true:=λb=>by cases b<;>rfl
 have n6:∀ a:Bool,(!!a || !a && !a)=true:=λa=>by cases a<;>rfl
 have n7:∀ a:Bool,(!a||a)=true:=λa=>by cases a<;>rfl
 have n9:∀ a b:Bool,(!a||a&&(b||a && !b))=true:=λa b=>by cases a<;>cases b<;>rfl
 have na:∀ c f:Bool,(!c||c&&(!f||c&&f))=true:=λc f=>by cases c<;>cases f<;>rfl
 have n0:(!!(KR d 9||decide ((L.n:Int)>20))||decide (d.ps.n<=d.ps.n)&&true&&decide (d.ps.n<=1000) && !(KR d 9||decide ((L.n:Int)>20)))=true:=by
  cases hx:KR d 9||decide ((L.n:Int)>20)with
  | true=>rfl
  | false=>
   have hg:=(Bool.or_eq_false_iff.1 hx).1;have:¬ ((d.ps.n:Int)>14):=λh=>by rw[KR,qde h]at hg;cases hg
   rw[qde (qlr _),qde (show d.ps.n<=1000 by omega)];rfl
 iterate 4 (refine QG ?_ ?_;rotate_left)
 refine Jc λz0 y0=>?_;obtain rfl:z0=(KR d 9||decide ((L.n:Int)>20)):=y0.trans (rfl)
 iterate 3 (refine QG ?_ ?_;rotate_left)
 refine Jc λz1 y1=>?_;obtain rfl:z1=((KR d 9||decide ((L.n:Int)>20)) || !d.ok):=y1.trans (rfl)
 refine QE ?_ ?_<;>intro b0
 .exact KN rfl rfl
 have hg:=Bool.or_eq_false_iff.1 b0;have ho:d.ok=true:=by simpa using hg.2
 have h20:L.n<=20:=by
  have:=qdf (Bool.or_eq_false_iff.1 hg.1).2;omega
 have hf:=QQh ho;obtain⟨hd,hpos,h9⟩:=JW (JU ho);refine QG ?_ ?_;rotate_left
 iterate 39 refine Qt (by first|exact tv|exact ho|exact⟨ho,h20,h0⟩|with_reducible exact qRr|exact qRr|exact rfl) ?_
 refine Qk λa0=>?_;refine Ql λg0=>?_;refine QG ?_ ?_;rotate_left;refine QE (λb1=>?_) (λb1=>?_);have q:((QX d L.get L.n).2 != 0)=true:=b1;have he:=QcH ho h20 (by simpa using q)
 iterate 4 (refine QG ?_ ?_;rotate_left)
 refine Jc λz2 y2=>?_;obtain rfl:z2=((QX d L.get L.n).2==2||(QX d L.get L.n).2==5):=y2.trans (rfl)
 iterate 5 (refine QG ?_ ?_;rotate_left)
 refine Jc λz3 y3=>?_;obtain rfl:z3=((QX d L.get L.n).2==4&&(QO d).2.2.1==0):=y3.trans (rfl);refine QG ?_ ?_;rotate_left;refine Jc λz4 y4=>?_
 obtain rfl:z4=true:=y4.trans (by
   show(((QX d L.get L.n).2==2||(QX d L.get L.n).2==5)||((QX d L.get L.n).2==4&&(QO d).2.2.1==0))=true
   rcases he.2 with h|h|⟨h,h'⟩
   .rw[h];rfl
   .rw[h];rfl
   .rw[h,hf.none h'];rfl
)
 refine QG ?_ ?_;rotate_left;refine Jc λz5 y5=>?_
 obtain rfl:z5=true:=y5.trans (by
   show((QX d L.get L.n).1==0&&true)=true;rw[he.1];rfl
)
 refine QG ?_ ?_;rotate_left;refine Jc λz6 y6=>?_;obtain rfl:z6=true:=y6.trans (rfl)
 .exact KN rfl rfl
 have h0:(QX d L.get L.n).2=0:=by
  have q:((QX d L.get L.n).2 != 0)=false:=b1;simpa using q
 have hp:=QQn ho h20 (qlr _) h0
 iterate 3 (refine QG ?_ ?_;rotate_left)
 refine Jc λz7 y7=>?_
 obtain rfl:z7=false:=y7.trans (by
   show(decide ((QX d L.get L.n).1<0)||decide ((QX d L.get L.n).1>(L.n:Int)))=false
   rw[decide_eq_false (by omega),decide_eq_false (by omega)];rfl
)
 iterate 2 (refine QG ?_ ?_;rotate_left)
 refine Jc λz8 y8=>?_
 obtain rfl:z8=false:=y8.trans (by
   show(false||(QO d).2.2.1==0)=false
   rw[Bool.false_or,beq_eq_false_iff_ne];exact hf.some hp.2.2.2
)
 refine QE ?_ ?_<;>intro b2
 .cases b2
 iterate 24 refine Qt (by first|exact tv|exact ho|exact⟨ho,h20,h0⟩|with_reducible exact qRr|exact qRr|exact rfl) ?_
 refine Qk λa1=>?_;refine Ql λg1=>?_
 .exact KN rfl rfl
 all_goals first|rfl|(rw[qde (qlr _)];rfl)|exact n0|exact n1 _|exact n2 _|exact n6 _|exact n7 _|exact n9 _ _|exact na _ _|(rw[qde (qlr _),qde (qlr _),qde (show d.ps.n<=1000/\L.n<=1000/\L.n<=L.c by omega)];rfl)|(rw[qde (qlr _),qde (show d.ps.n<=1000 by omega)];rfl)
