/- - -/
import Derived.Test.YtekbmehgcofnkaaGreatJzp
import Derived.Test.YtekbmehgcofnkaaGreatJzq
set_option linter.all false
noncomputable section
open Go.Proofs.Tryz
open Go.IntKind (i64)
set_option maxRecDepth 100000
namespace Go.Proofs.YtekbmehgcofnkaaGreat
open Go.SX Go.SX.Told
structure QAx where
 n:Int
instance : QA QAx where
  ks := [.int .u16]
  enc p _ := p.n
  dec f := ⟨f 0⟩
  ok _ := rfl
def wAt(w:Rw QAx)(i:Nat):Int:=i64.wrap (w.get ((i:Int).tmod (w.n:Int)).toNat).n
structure QCO (w:Rw QAx):Prop where
 n:0<w.n
 v:∀ i,i<w.n->0<=(w.get i).n/\(w.get i).n<=65535
theorem QCO.idx{w:Rw QAx}(h:QCO w)(i:Nat):0<=(i:Int).tmod (w.n:Int)/\(i:Int).tmod (w.n:Int)<(w.n:Int):=by
 have:=h.n;exact⟨Int.tmod_nonneg _ (by omega),Int.tmod_lt_of_pos _ (by omega)⟩
theorem QCO.at_{w:Rw QAx}(h:QCO w)(i:Nat):0<=wAt w i/\wAt w i<=65535:=by
 obtain⟨h1,h2⟩:=h.idx i;have:=h.v ((i:Int).tmod (w.n:Int)).toNat (by omega)
 unfold wAt;rw[w64 (by omega) (by omega)]
 exact this
open Go Go.SX Go.SX.Told
theorem QMO{p q:Nat->Bool}:∀{m k:Nat},(∀ i,k<=i->i<k+m->p i=q i)->QR p m k=QR q m k
 | 0,_,_=>rfl
 | m+1,k,h=>by
  simp only[QR];rw[h k (qlr _) (by omega),QMO (m:=m) (k:=k+1) λi h1 h2=>h i (by omega) (by omega)]
def rkL(L:List Lay):RkL:=⟨L.length,λi=>L.getD i ⟨0,0⟩⟩
theorem QaY(L:List Lay){i:Nat}(hi:i<=L.length)(x:Lay):(QR (rmQ ⟨i,λk=>L.getD k ⟨0,0⟩⟩ x) i 0).isNone = !Vh (L.take i) x:=by
 have e:∀ k (h:k<i),rmQ ⟨i,λk=>L.getD k ⟨0,0⟩⟩ x k=((L[k]'(by omega)).piece==x.piece):=λk h=>by
  show((L.getD k ⟨0,0⟩:Lay).piece==x.piece)=_;rw[K8 (by omega)]
 cases hf:QR (rmQ ⟨i,λk=>L.getD k ⟨0,0⟩⟩ x) i 0 with
 | some k=>
  obtain⟨_,h2,h3,_⟩:=QHd hf;rw[e k (by omega)]at h3
  have:Vh (L.take i) x=true:=List.any_eq_true.2 ⟨L[k]'(by omega),List.mem_take_iff_getElem.2 ⟨k,by omega,rfl⟩,h3⟩
  rw[this];rfl
 | none=>
  have:Vh (L.take i) x=false:=List.any_eq_false.2 λy hy=>by
   obtain⟨k,hk,rfl⟩:=List.mem_take_iff_getElem.1 hy;have:=qS hf k (Nat.zero_le _) (by omega)
   rw[e k (by omega)]at this
   rw[this];decide
  rw[this];rfl
variable {d d':Puz}{s l:Int}{x y:Lay}{σ:Nat->Nat}{p a b:Nat}
theorem Qa5(hd:KB d){n:Nat}(hn:n<=1000)(x:Lay):(QR (JK d x (rmW d n)) 4 0).isNone=YP d n x:=by
 have h1:=hd.w1;have h2:=hd.wn;have h3:=hd.n;have h4:=hd.h1;have h5:=hd.hn;have hr:=QBv hd n;unfold Qi at hr;have wr:i64.wrap ((n:Int).tdiv d.wide)=(n:Int).tdiv d.wide:=w64 (by omega) (by omega)
 have ww:i64.wrap (d.wide-1)=d.wide-1:=w64 (by omega) (by omega)
 have wh:i64.wrap (d.high-1)=d.high-1:=w64 (by omega) (by omega)
 unfold YP;rw[QMO];intro i _ hi;unfold JK Kr KR;congr 1
 match i,hi with
 | 0,_=>show(i64.wrap ((n:Int).tdiv d.wide)==0)=_;rw[wr];rfl
 | 1,_=>show((n:Int).tmod d.wide==i64.wrap (d.wide-1))=_;rw[ww];rfl
 | 2,_=>show(i64.wrap ((n:Int).tdiv d.wide)==i64.wrap (d.high-1))=_;rw[wr,wh];rfl
 | 3,_=>rfl
 | i+4,hi=>omega
theorem QB5{p q:Lay}(hp:Q0 d p)(hq:Q0 d q)(hne:p.piece≠q.piece){t:Int}(hs:0<=s)(ht:0<=t):Ve (QI d) p q s t=(KG d.pK (sdR d p s) (sdR d q t)).1:=by
 have h1:=QSH hp hs;have h2:=QSH hq ht;unfold Ve;rw[QBf,if_pos ⟨hp.p.1,hp.p.2,h1.1,h1.2,hq.p.1,hq.p.2,h2.1,h2.2,hne⟩];rfl
theorem QLv(hd:KB d){L:List Lay}(hL:∀ y∈L,Q0 d y){i:Nat}(hi:i<=L.length)(hl:L.length<=1000)(hx:Q0 d x):rmV d ⟨i,λk=>L.getD k ⟨0,0⟩⟩ x=(!Vh (L.take i) x&&Q3 d (QI d) (L.take i) x):=by
 have h1:=hd.w1;have h2:=hd.wn;have h3:=hd.n;have hlen:(L.take i).length=i:=by rw[List.length_take];omega
 have hr:=QBv hd i;unfold Qi at hr;have wr:i64.wrap ((i:Int).tdiv d.wide)=(i:Int).tdiv d.wide:=w64 (by omega) (by omega)
 have wu:i64.wrap ((i:Int)-d.wide)=(i:Int)-d.wide:=w64 (by omega) (by omega)
 have wl:i64.wrap ((i:Int)-1)=(i:Int)-1:=w64 (by omega) (by omega)
 unfold rmV Q3;simp only;rw[QaY L hi,Qa5 hd (by omega),hlen,wr,wu,wl]
 cases hu:Vh (L.take i) x with
 | true=>rfl
 | false=>
  have hat:∀ k:Int,0<=k->k<i->atL (L.take i) k=(L.getD k.toNat ⟨0,0⟩:Lay)/\Q0 d (L.getD k.toNat ⟨0,0⟩)/\(L.getD k.toNat ⟨0,0⟩:Lay).piece≠x.piece:=by
   intro k h0 hk;have hkl:k.toNat<L.length:=by omega
   have e1:atL (L.take i) k=L[k.toNat]:=by
    unfold atL;rw[K8 (by rw[hlen];omega),List.getElem_take]
   rw[K8 hkl];refine⟨e1,hL _ (List.getElem_mem hkl),λe=>?_⟩;have:=List.any_eq_false.1 hu L[k.toNat] (List.mem_take_iff_getElem.2 ⟨k.toNat,by omega,rfl⟩)
   exact this (beq_iff_eq.2 e)
  have er:(decide ((i:Int).tdiv d.wide>0))=decide (0<Qi d i):=rfl
  have e2:(!decide ((i:Int).tdiv d.wide>0) || !((KG d.pK (sdR d (L.getD ((i:Int)-d.wide).toNat ⟨0,0⟩) 2) (sdR d x 0)).1==0))=(!decide (0<Qi d i) || !(Ve (QI d) (atL (L.take i) ((i:Int)-d.wide)) x 2 0==0)):=by
   rw[er];cases hrow:decide (0<Qi d i)with
   | false=>rfl
   | true=>
    have hp:=QB8 hd (qdt hrow);obtain⟨q1,q2,q3⟩:=hat ((i:Int)-d.wide) (by omega) (by omega)
    rw[q1,QB5 q2 hx q3 (by decide) (by decide)]
  have e3:((i:Int).tmod d.wide==0||(KG d.pK (sdR d (L.getD ((i:Int)-1).toNat ⟨0,0⟩) 1) (sdR d x 3)).1 != 0)=(Qy d i==0||Ve (QI d) (atL (L.take i) ((i:Int)-1)) x 1 3 != 0):=by
   show(Qy d i==0||_)=_
   cases hcol:Qy d i==0 with
   | true=>rfl
   | false=>
    have hp:=Gk hcol;obtain⟨q1,q2,q3⟩:=hat ((i:Int)-1) (by omega) (by omega)
    rw[q1,QB5 q2 hx q3 (by decide) (by decide)]
  rw[e2,e3]
theorem QIO(hn:d.ps.n<=1000):rsA d x=true/\rsC d x=true↔x∈Zh d:=by
 have ht:=QOZ d x.piece;constructor
 .rintro⟨h1,h2⟩;have hi:=QPs hn h1 h2;obtain⟨⟨p1,p2⟩,t1,t2⟩:=hi;unfold rsC Qu at h2;have h2:=qdt h2;rw[w64 (by omega) (by omega)]at h2
  refine zg.2 ⟨x.piece.toNat,x.turn.toNat,by omega,?_,?_⟩
  .unfold turnN;rw[Int.toNat_of_nonneg p1];omega
  .obtain⟨p,t⟩:=x;simp only at p1 t1;rw[Int.toNat_of_nonneg p1,Int.toNat_of_nonneg t1]
 .intro h;obtain⟨p,t,hp,ht2,rfl⟩:=zg.1 h;unfold turnN at ht2;simp only at ht;unfold rsA rsC Qu;simp only;rw[qdE,qdE,w64 (by omega) (by omega),w64 (by omega) (by omega)]
  omega
theorem QdV(hd:KB d){L:List Lay}(hl:L.length<=1000):Vn d (rkL L)=true↔L∈Ke d (QI d):=by
 have hn:=hd.n;rw[Zb];unfold Vn;rw[qbA,Bool.not_eq_true',bne_eq_false_iff_eq];have get:∀ i (h:i<L.length),(rkL L).get i=L[i]:=λi h=>K8 h;constructor
 .rintro⟨h1,h2⟩;have h1:(L.length:Int)=d.ps.n:=h1;have hno:QR (VQ d (rkL L)) L.length 0=none:=Option.isNone_iff_eq_none.1 h2
  have hb:∀ i (h:i<L.length),(rsA d L[i]=true/\rsC d L[i]=true)/\rmV d ⟨i,λk=>L.getD k ⟨0,0⟩⟩ L[i]=true:=by
   intro i h;have:=qS hno i (Nat.zero_le _) (by omega)
   unfold VQ at this;rw[get i h,Bool.or_eq_false_iff,Bool.or_eq_false_iff,Bool.not_eq_false',Bool.not_eq_false',Bool.not_eq_false']at this;exact⟨⟨this.1,this.2.1⟩,this.2.2⟩
  have hL:∀ y∈L,Q0 d y:=by
   intro y hy;obtain⟨i,hi,rfl⟩:=List.mem_iff_getElem.1 hy;exact QNF ((QIO hn).1 (hb i hi).1)
  refine⟨by omega,λi hi=>⟨(QIO hn).1 (hb i hi).1,?_⟩⟩
  have:=(hb i hi).2;rw[QLv hd hL (Nat.le_of_lt hi) hl (hL _ (List.getElem_mem hi)),qbA,Bool.not_eq_true']at this;exact this
 .intro h
  have hL:∀ y∈L,Q0 d y:=by
   intro y hy;obtain⟨i,hi,rfl⟩:=List.mem_iff_getElem.1 hy;exact h.lay hi
  refine⟨by show(L.length:Int)=d.ps.n;rw[h.len],?_⟩
  rw[Option.isNone_iff_eq_none];refine QCJ λi _ hi=>?_;have hi:i<L.length:=by have:i<0+L.length:=hi;omega
  have hs:=h.st i hi;have hr:=(QIO hn).2 hs.1;unfold VQ;rw[get i hi,hr.1,hr.2]
  have:rmV d ⟨i,(rkL L).get⟩ L[i]=true:=by
   show rmV d ⟨i,λk=>L.getD k ⟨0,0⟩⟩ L[i]=true;rw[QLv hd hL (Nat.le_of_lt hi) hl (hL _ (List.getElem_mem hi)),hs.2.1,hs.2.2];rfl
  rw[this];rfl
def ltP(x y:Lay):Prop:=QT7 x y=true
theorem QJO:ltP x y↔x.piece<y.piece∨x.piece=y.piece/\x.turn<y.turn:=by
 unfold ltP QT7;rw[qbO,qbA,qdE,qdE,beq_iff_eq]
theorem Qci(d:Puz):(Zh d).Pairwise ltP:=by
 unfold Zh;rw[List.pairwise_flatMap];refine⟨λp _=>?_,List.Pairwise.imp (R:=λa b=>a<b) (λ{p p'} hp x hx y hy=>?_) (List.pairwise_lt_range)⟩
 .rw[List.pairwise_map];refine List.Pairwise.imp ?_ (List.pairwise_lt_range (n:=turnN d p));intro t t' ht;exact QJO.2 (.inr ⟨rfl,show(t:Int)<t' by omega⟩)
 .obtain⟨t,_,rfl⟩:=List.mem_map.1 hx;obtain⟨t',_,rfl⟩:=List.mem_map.1 hy;have hp:p<p':=hp;exact QJO.2 (.inl (by show(p:Int)<p';omega))
theorem QZQ(d:Puz)(E:ECt):(Ke d E).Pairwise (QFl ltP):=QNf _ _ _ (λ_=>Qci d) _ _
structure Mor (d d':Puz) (σ:Nat->Nat):Prop where
 n:d'.ps.n=d.ps.n
 wide:d'.wide=d.wide
 high:d'.high=d.high
 turn:d'.turn=d.turn
 lt:∀ p,p<d.ps.n->σ p<d.ps.n
 inj:∀ p q,p<d.ps.n->q<d.ps.n->σ p=σ q->p=q
 pos:∀ p,p<d.ps.n->(0<σ p↔0<p)
 kind:∀ p,p<d.ps.n->∀ s,(Kq (d'.ps.get (σ p)) s).kind=(Kq (d.ps.get p) s).kind
 fit:∀ p q,p<d.ps.n->q<d.ps.n->∀ s t,(KG d.pK (Kq (d.ps.get p) s) (Kq (d.ps.get q) t)).1≠0->(KG d'.pK (Kq (d'.ps.get (σ p)) s) (Kq (d'.ps.get (σ q)) t)).1≠0
def mvL(σ:Nat->Nat)(x:Lay):Lay:=⟨(σ x.piece.toNat:Nat),x.turn⟩
theorem Mor.layB(m:Mor d d' σ)(h:Q0 d x):Q0 d' (mvL σ x):=by
 have h1:=h.p;have h2:=m.lt x.piece.toNat (by omega)
 have h3:=m.n;exact⟨⟨by show(0:Int)<=(σ x.piece.toNat:Nat);omega,by show((σ x.piece.toNat:Nat):Int)<_;omega⟩,h.t⟩
theorem Mor.ne(m:Mor d d' σ)(hx:Q0 d x)(hy:Q0 d y)(h:x.piece≠y.piece):(mvL σ x).piece≠(mvL σ y).piece:=by
 have h1:=hx.p;have h2:=hy.p;intro e;have e:((σ x.piece.toNat:Nat):Int)=(σ y.piece.toNat:Nat):=e;have:=m.inj _ _ (by omega) (by omega) (show σ x.piece.toNat=σ y.piece.toNat by omega)
 omega
theorem Mor.sd(m:Mor d d' σ)(hx:Q0 d x)(hy:Q0 d y){t:Int}(h:(KG d.pK (sdR d x s) (sdR d y t)).1≠0):(KG d'.pK (sdR d' (mvL σ x) s) (sdR d' (mvL σ y) t)).1≠0:=by
 have h1:=hx.p;have h2:=hy.p;exact m.fit _ _ (by omega) (by omega) _ _ h
theorem Mor.turnN{d d':Puz}{σ:Nat->Nat}(m:Mor d d' σ){p:Nat}(hp:p<d.ps.n):turnN d' (σ p)=turnN d p:=by
 have:decide ((0:Int)<(σ p:Nat))=decide ((0:Int)<(p:Nat)):=by
  have:=m.pos p hp
  by_cases h:0<p
  .rw[qde (by omega),qde (by omega)]
  .rw[decide_eq_false (by omega),decide_eq_false (by omega)]
 unfold Go.Proofs.YtekbmehgcofnkaaGreat.turnN tnV;rw[m.turn,this]
theorem Mor.sol(m:Mor d d' σ)(hd:KB d){l:List Lay}(h:VX d (QI d) l):VX d' (QI d') (l.map (mvL σ)):=by
 refine⟨by rw[List.length_map,h.len,m.n],λi hi=>?_⟩
 have hil:i<l.length:=by rw[List.length_map]at hi;exact hi
 have hB:∀ k (hk:k<l.length),Q0 d l[k]:=λk hk=>h.lay hk;have e:(l.map (mvL σ))[i]=mvL σ l[i]:=List.getElem_map ..;have et:(l.map (mvL σ)).take i=(l.take i).map (mvL σ):=List.map_take.symm;obtain⟨h1,h2,h3⟩:=h.st i hil;rw[e,et];refine⟨?_,?_,?_⟩
 .obtain⟨p,t,hp,ht,q⟩:=zg.1 h1;rw[q];exact zg.2 ⟨σ p,t,by rw[m.n];exact m.lt p hp,by rw[m.turnN hp];exact ht,rfl⟩
 .cases hu:Vh ((l.take i).map (mvL σ)) (mvL σ l[i])with
  | false=>rfl
  | true=>
   unfold Vh at hu;obtain⟨y,hy,ey⟩:=List.any_eq_true.1 hu;obtain⟨z,hz,rfl⟩:=List.mem_map.1 hy;obtain⟨k,hk,rfl⟩:=List.mem_take_iff_getElem.1 hz;exact absurd (beq_iff_eq.1 ey) (m.ne (hB k (by omega)) (hB i hil) (h.ne (by omega) hil (by omega)))
 .have hlen:(l.take i).length=i:=by rw[List.length_take];omega
  have fitK:∀(k:Nat) (hk:k<i) (s t:Int),0<=s->0<=t->Ve (QI d) (l[k]'(by omega)) l[i] s t≠0->Ve (QI d') (mvL σ (l[k]'(by omega))) (mvL σ l[i]) s t≠0:=by
   intro k hk s t hs ht hm;have n1:=h.ne (i:=k) (k:=i) (by omega) hil (by omega)
   rw[QB5 (hB k (by omega)) (hB i hil) n1 hs ht]at hm
   rw[QB5 (m.layB (hB k (by omega))) (m.layB (hB i hil)) (m.ne (hB k (by omega)) (hB i hil) n1) hs ht]
   exact m.sd (hB k (by omega)) (hB i hil) hm
  have at1:∀(k:Nat) (hk:k<i) (z:Int),z=k->atL (l.take i) z=l[k]'(by omega):=by
   intro k hk z hz;subst hz;unfold atL;rw[Int.toNat_natCast,K8 (by rw[hlen];exact hk),List.getElem_take]
  have at2:∀(k:Nat) (hk:k<i) (z:Int),z=k->atL ((l.take i).map (mvL σ)) z=mvL σ (l[k]'(by omega)):=by
   intro k hk z hz;subst hz;unfold atL;rw[Int.toNat_natCast,K8 (by rw[List.length_map,hlen];exact hk),List.getElem_map,List.getElem_take]
  have er:Qi d' i=Qi d i:=by unfold Qi;rw[m.wide]
  have ec:Qy d' i=Qy d i:=by unfold Qy;rw[m.wide]
  unfold Q3 at h3 ⊢;rw[hlen,qbA,qbA]at h3;rw[List.length_map,hlen,qbA,qbA,er,ec,m.wide];obtain⟨a1,a2,a3⟩:=h3;refine⟨?_,?_,?_⟩
  .have hp:=(hB i hil).p
   have:Kr d' i (mvL σ l[i])=Kr d i l[i]:=by
    funext s;unfold Kr
    have e1:QV d' i s=QV d i s:=by
     match s with
     | 0=>show(Qi d' i==0)=(Qi d i==0);rw[er]
     | 1=>show(Qy d' i==d'.wide-1)=(Qy d i==d.wide-1);rw[ec,m.wide]
     | 2=>show(Qi d' i==d'.high-1)=(Qi d i==d.high-1);rw[er,m.high]
     | s+3=>show(Qy d' i==0)=(Qy d i==0);rw[ec]
    have e2:KR d' (mvL σ l[i]).piece (onS (mvL σ l[i]) s)=KR d l[i].piece (onS l[i] s):=by
     unfold KR;show((Kq (d'.ps.get (σ l[i].piece.toNat)) (onS l[i] s).toNat).kind==0)=_;rw[m.kind _ (by omega)]
    rw[e1,e2]
   unfold YP at a1 ⊢;rw[this];exact a1
  .cases hrow:decide (0<Qi d i)with
   | false=>rfl
   | true=>
    rw[hrow]at a2;have hw:=hd.w1;have hp:=QB8 hd (qdt hrow);have a2:Ve (QI d) (atL (l.take i) ((i:Int)-d.wide)) l[i] 2 0≠0:=by simpa using a2
    rw[at1 ((i:Int)-d.wide).toNat (by omega) _ (by omega)]at a2
    rw[at2 ((i:Int)-d.wide).toNat (by omega) _ (by omega)]
    simpa using fitK ((i:Int)-d.wide).toNat (by omega) 2 0 (by decide) (by decide) a2
  .cases hcol:Qy d i==0 with
   | true=>rfl
   | false=>
    rw[hcol]at a3;have hp:=Gk hcol;have a3:Ve (QI d) (atL (l.take i) ((i:Int)-1)) l[i] 1 3≠0:=by simpa using a3
    rw[at1 (i-1) (by omega) _ (by omega)]at a3
    rw[at2 (i-1) (by omega) _ (by omega)]
    simpa using fitK (i-1) (by omega) 1 3 (by decide) (by decide) a3
theorem QWZ(d:Puz)(E:ECt):(Ke d E).Nodup:=(QZQ d E).imp λh=>QZ4 (λx hx=>by have:=QJO.1 hx;omega) h
theorem Mor.list_inj(m:Mor d d' σ){a b:List Lay}(ha:VX d (QI d) a)(hb:VX d (QI d) b)(e:a.map (mvL σ)=b.map (mvL σ)):a=b:=by
 have hlen:a.length=b.length:=by rw[ha.len,hb.len]
 refine List.ext_getElem hlen λi h1 h2=>?_;have e1:(a.map (mvL σ))[i]'(by rw[List.length_map];exact h1)=(b.map (mvL σ))[i]'(by rw[List.length_map];exact h2):=by simp only[e]
 rw[List.getElem_map,List.getElem_map]at e1;have hp:=(ha.lay h1).p;have hq:=(hb.lay h2).p;have e2:(mvL σ a[i]).piece=(mvL σ b[i]).piece:=by rw[e1]
 have e3:(mvL σ a[i]).turn=(mvL σ b[i]).turn:=by rw[e1]
 have e2:((σ a[i].piece.toNat:Nat):Int)=(σ b[i].piece.toNat:Nat):=e2;have e4:=m.inj _ _ (by omega) (by omega) (show σ a[i].piece.toNat=σ b[i].piece.toNat by omega)
 have e5:a[i].piece=b[i].piece:=by omega
 have e3:a[i].turn=b[i].turn:=e3;cases ha':a[i];cases hb':b[i];rw[ha',hb']at e5 e3;simp only at e5 e3;rw[e5,e3]
theorem Mor.sols(m:Mor d d' σ)(hd:KB d):(Ke d (QI d)).length<=(Ke d' (QI d')).length:=by
 have hn:((Ke d (QI d)).map (List.map (mvL σ))).Nodup:=by
  unfold List.Nodup;rw[List.pairwise_map];exact(QWZ d (QI d)).imp_of_mem λha hb hne e=>hne (m.list_inj (Zb.1 ha) (Zb.1 hb) e)
 have:=hn.length_le_of_subset (l₂:=Ke d' (QI d')) λx hx=>by
  obtain⟨l,hl,rfl⟩:=List.mem_map.1 hx;exact Zb.2 (m.sol hd (Zb.1 hl))
 rw[List.length_map]at this;exact this
theorem Mor.can(m:Mor d d' σ)(hd:KB d){c:Nat}(hp:p<d.ps.n)(hc:c<d.ps.n)(h:Xb d (QI d) p c=true):Xb d' (QI d') (σ p:Nat) c=true:=by
 obtain⟨l,hl,e⟩:=(QPA hc).1 h;refine(QPA (by rw[m.n];exact hc)).2 ⟨_,m.sol hd hl,?_⟩
 have hcl:c<l.length:=by rw[hl.len];exact hc
 rw[K8 hcl]at e;rw[K8 (by rw[List.length_map];exact hcl),List.getElem_map]
 show((σ l[c].piece.toNat:Nat):Int)=(σ p:Nat);rw[e,Int.toNat_natCast]
def mvJ(σ:Nat->Nat)(x:Jn):Jn:=cond (decide (σ x.a.toNat<σ x.b.toNat)) ⟨(σ x.a.toNat:Nat),x.i,(σ x.b.toNat:Nat),x.j⟩ ⟨(σ x.b.toNat:Nat),x.j,(σ x.a.toNat:Nat),x.i⟩
theorem Mor.join(m:Mor d d' σ){x:Jn}(h:x∈JB d 1):mvJ σ x∈JB d' 1:=by
 obtain⟨p,i,q,j,hp,hi,hq,hj,hx,rfl⟩:=jN.1 h;unfold isJ at hx;rw[qbA,qdE,qdE]at hx;have hf:meF d' (d'.ps.get (σ p)) (d'.ps.get (σ q)) i j≠0:=m.fit p q hp hq i j (λe=>by have:=hx.2;unfold meF at this;omega)
 have hne:σ p≠σ q:=λe=>by have:=m.inj p q hp hq e;omega
 unfold mvJ;show cond (decide (σ ((p:Int).toNat)<σ ((q:Int).toNat))) _ _∈_;rw[Int.toNat_natCast,Int.toNat_natCast]
 by_cases hlt:σ p<σ q
 .rw[qde hlt];refine jN.2 ⟨σ p,i,σ q,j,by rw[m.n];exact m.lt p hp,hi,by rw[m.n];exact m.lt q hq,hj,?_,rfl⟩
  unfold isJ;rw[qde hlt,qde (QKj hf)];rfl
 .rw[decide_eq_false hlt];refine jN.2 ⟨σ q,j,σ p,i,by rw[m.n];exact m.lt q hq,hj,by rw[m.n];exact m.lt p hp,hi,?_,rfl⟩
  unfold isJ;rw[Qgh]at hf;rw[qde (show σ q<σ p by omega),qde (QKj hf)];rfl
theorem QA5(σ:Nat->Nat)(p i q j:Nat):mvJ σ ⟨p,i,q,j⟩=cond (decide (σ p<σ q)) ⟨(σ p:Nat),i,(σ q:Nat),j⟩ ⟨(σ q:Nat),j,(σ p:Nat),i⟩:=rfl
theorem Mor.join_inj(m:Mor d d' σ){x y:Jn}(hx:x∈JB d 1)(hy:y∈JB d 1)(e:mvJ σ x=mvJ σ y):x=y:=by
 obtain⟨p,i,q,j,hp,hi,hq,hj,h1,rfl⟩:=jN.1 hx;obtain⟨p',i',q',j',hp',hi',hq',hj',h2,rfl⟩:=jN.1 hy;unfold isJ at h1 h2;rw[qbA,qdE]at h1 h2;have i1:=m.inj p p' hp hp';have i2:=m.inj q q' hq hq';have i3:=m.inj p q' hp hq';have i4:=m.inj q p' hq hp';rw[QA5,QA5]at e
 by_cases hlt:σ p<σ q<;>by_cases hlt':σ p'<σ q'
 .rw[qde hlt,qde hlt']at e;simp only[cond_true,Jn.mk.injEq]at e;simp only[Jn.mk.injEq];have:=i1 (by omega);have:=i2 (by omega);omega
 .rw[qde hlt,decide_eq_false hlt']at e;simp only[cond_true,cond_false,Jn.mk.injEq]at e;have:=i3 (by omega);have:=i4 (by omega);omega
 .rw[decide_eq_false hlt,qde hlt']at e;simp only[cond_true,cond_false,Jn.mk.injEq]at e;have:=i3 (by omega);have:=i4 (by omega);omega
 .rw[decide_eq_false hlt,decide_eq_false hlt']at e;simp only[cond_false,Jn.mk.injEq]at e;simp only[Jn.mk.injEq];have:=i1 (by omega);have:=i2 (by omega);omega
theorem Mor.joins(m:Mor d d' σ):(JB d 1).length<=(JB d' 1).length:=by
 have hn:((JB d 1).map (mvJ σ)).Nodup:=by
  unfold List.Nodup;rw[List.pairwise_map];exact(QOX d 1).imp_of_mem λha hb hne e=>hne (m.join_inj ha hb e)
 have:=hn.length_le_of_subset (l₂:=JB d' 1) λx hx=>by
  obtain⟨y,hy,rfl⟩:=List.mem_map.1 hx;exact m.join hy
 rw[List.length_map]at this;exact this
theorem QON{P Q:Int}(a b:Int)(h:P≠Q)(h2:σ P.toNat≠σ Q.toNat):mvJ σ (cond (decide (Q<P)) ⟨Q,a,P,b⟩ ⟨P,b,Q,a⟩)=cond (decide (((σ Q.toNat:Nat):Int)<(σ P.toNat:Nat))) ⟨(σ Q.toNat:Nat),a,(σ P.toNat:Nat),b⟩ ⟨(σ P.toNat:Nat),b,(σ Q.toNat:Nat),a⟩:=by
 by_cases h1:Q<P<;>by_cases h3:σ Q.toNat<σ P.toNat
 .rw[qde h1,qde (show((σ Q.toNat:Nat):Int)<(σ P.toNat:Nat) by omega)]
  unfold mvJ;simp only[cond_true];rw[qde h3];rfl
 .rw[qde h1,decide_eq_false (show ¬ ((σ Q.toNat:Nat):Int)<(σ P.toNat:Nat) by omega)]
  unfold mvJ;simp only[cond_true];rw[decide_eq_false h3]
 .rw[decide_eq_false h1,qde (show((σ Q.toNat:Nat):Int)<(σ P.toNat:Nat) by omega)]
  unfold mvJ;simp only[cond_false];rw[decide_eq_false (show ¬ σ P.toNat<σ Q.toNat by omega)];rfl
 .rw[decide_eq_false h1,decide_eq_false (show ¬ ((σ Q.toNat:Nat):Int)<(σ P.toNat:Nat) by omega)]
  unfold mvJ;simp only[cond_false];rw[qde (show σ P.toNat<σ Q.toNat by omega)];rfl
theorem Mor.met(m:Mor d d' σ)(hd:KB d)(hd':KB d'){l:List Lay}(h:VX d (QI d) l){x:Jn}(hx:x∈ZM d l):mvJ σ x∈ZM d' (l.map (mvL σ)):=by
 have hn:=hd.n;have hl:=h.len;have hB:∀ k (hk:k<l.length),Q0 d l[k]:=λk hk=>h.lay hk;unfold ZM at hx ⊢;rw[List.mem_flatMap]at hx ⊢;obtain⟨c,hc,hx⟩:=hx;have hc:=List.mem_range.1 hc;rw[QPB hd (by omega) hc]at hx
 have hc':c<(l.map (mvL σ)).length:=by rw[List.length_map];exact hc
 refine⟨c,List.mem_range.2 hc',?_⟩;rw[QPB hd' (by rw[List.length_map];omega) hc',List.length_map,m.wide]
 have neS:∀(o:Nat) (ho:o<l.length),c≠o->l[c].piece≠l[o].piece/\σ l[c].piece.toNat≠σ l[o].piece.toNat:=by
  intro o ho hco;have n1:=h.ne hc ho hco;refine⟨n1,λe=>?_⟩;have p1:=(hB c hc).p;have p2:=(hB o ho).p;have:=m.inj _ _ (by omega) (by omega) e
  omega
 rcases hx with ⟨h1,h2,rfl⟩|⟨h2,rfl⟩
 .refine .inl ⟨h1,h2,?_⟩;have ho:c+1<l.length:=by omega
  rw[QNj hc ho (x:=(c:Int)+1) (by omega),QNj hc' (by rw[List.length_map];exact ho) (x:=(c:Int)+1) (by omega),List.getElem_map,List.getElem_map]
  obtain⟨n1,n2⟩:=neS (c+1) ho (by omega)
  exact QON _ _ n1 n2
 .refine .inr ⟨h2,?_⟩;have hw:=hd.w1;have ho:(c+d.wide.toNat)<l.length:=by omega
  rw[QLu hc ho (x:=(c:Int)+d.wide) (by omega),QLu hc' (by rw[List.length_map];exact ho) (x:=(c:Int)+d.wide) (by omega),List.getElem_map,List.getElem_map]
  obtain⟨n1,n2⟩:=neS (c+d.wide.toNat) ho (by omega)
  exact QON _ _ n1 n2
theorem Qgb(inv:∀ p,p<d.ps.n->σ (σ p)=p){x:Jn}(h:x∈JB d 1):mvJ σ (mvJ σ x)=x:=by
 obtain⟨p,i,q,j,hp,hi,hq,hj,hx,rfl⟩:=jN.1 h;unfold isJ at hx;rw[qbA,qdE]at hx;rw[QA5]
 by_cases hlt:σ p<σ q
 .rw[qde hlt,cond_true,QA5,inv p hp,inv q hq,qde hx.1];rfl
 .rw[decide_eq_false hlt,cond_false,QA5,inv p hp,inv q hq,decide_eq_false (show ¬ q<p by omega)];rfl
theorem Mor.bad(m:Mor d d' σ)(m':Mor d' d σ)(hd:KB d)(hd':KB d')(inv:∀ p,p<d.ps.n->σ (σ p)=p):(Yp d).length<=(Yp d').length:=by
 have hn:((Yp d).map (mvJ σ)).Nodup:=by
  unfold List.Nodup;rw[List.pairwise_map];exact(QYe d).imp_of_mem λha hb hne e=>hne (m.join_inj (QCU ha) (QCU hb) e)
 have:=hn.length_le_of_subset (l₂:=Yp d') λx hx=>by
  obtain⟨y,hy,rfl⟩:=List.mem_map.1 hx;refine List.mem_filter.2 ⟨m.join (QCU hy),?_⟩;rw[Bool.not_eq_true',List.any_eq_false];intro l' hl' hj;have hj:=Hx.1 hj;have hs:=Zb.1 hl';have h2:=m'.met hd' hd hs hj;rw[Qgb inv (QCU hy)]at h2;have h3:=Qdo (Zb.2 (m'.sol hd' hs)) h2;rw[Hx.2 hy]at h3;cases h3
 rw[List.length_map]at this;exact this
def roP(p:Qf)(s l:Int):Qf:=⟨p.length,s,l,p.dK⟩
def roD(d:Puz)(s l:Int):Puz:=⟨roP d.pK s l,d.wide,d.high,d.turn,d.ps⟩
theorem QQd{p:Qf}(h:p.ok=true)(hs:0<=s/\s<=500)(hl:0<=l/\l<=500):(roP p s l).ok=true:=by
 unfold Qf.ok at h ⊢;simp only[qbA]at h ⊢;exact⟨⟨⟨h.1.1.1,qde hs⟩,qde hl⟩,h.2⟩
theorem QSj{p:Qf}(hs:p.aK<=s)(hl:p.oK<=l){t h:Edge}(hv:XF p t h≠0):XF (roP p s l) t h≠0:=by
 have ha:∀{sl sh lo hi lo' hi' dh:Int},lo'<=lo->hi<=hi'->Ki sl sh lo hi dh=true->Ki sl sh lo' hi' dh=true:=by
  intro sl sh lo hi lo' hi' dh h1 h2 h3;unfold Ki at h3 ⊢;rw[qbA,qdE,qdE]at h3 ⊢;omega
 have hp:∀{sl sh lo hi lo' hi' dl:Int},lo'<=lo->hi<=hi'->Qx sl sh lo hi dl=true->Qx sl sh lo' hi' dl=true:=by
  intro sl sh lo hi lo' hi' dl h1 h2 h3;unfold Qx at h3 ⊢;rw[qbA,qdE,qdE]at h3 ⊢;omega
 have h1:∀ i,alw p t h i=true->alw (roP p s l) t h i=true:=by
  intro i
  match i with
  | 0=>exact ha (show -s <= -p.aK by omega) hs
  | 1=>exact ha (Int.le_refl 0) hl
  | i+2=>exact ha (Int.le_refl 0) hl
 have h2:∀ i,may p t h i=true->may (roP p s l) t h i=true:=by
  intro i
  match i with
  | 0=>exact hp (show -s <= -p.aK by omega) hs
  | 1=>exact hp (Int.le_refl 0) hl
  | i+2=>exact hp (Int.le_refl 0) hl
 rw[QAz]at hv ⊢
 by_cases q1:(alw p t h 0&&(alw p t h 1&&alw p t h 2))=true
 .simp only[qbA]at q1;rw[if_pos (by simp only[qbA];exact⟨h1 0 q1.1,h1 1 q1.2.1,h1 2 q1.2.2⟩)]
  decide
 .rw[if_neg q1]at hv
  by_cases q2:(may p t h 0&&(may p t h 1&&may p t h 2))=true
  .simp only[qbA]at q2;split
   .decide
   .rw[if_pos (by simp only[qbA];exact⟨h2 0 q2.1,h2 1 q2.2.1,h2 2 q2.2.2⟩)]
    decide
  .rw[if_neg q2]at hv;exact absurd rfl hv
theorem QYm{p:Qf}(hs:p.aK<=s/\s<=500)(hl:p.oK<=l/\l<=500){a b:Edge}(h:(KG p a b).1≠0):(KG (roP p s l) a b).1≠0:=by
 unfold KG at h ⊢
 by_cases q:p.ok=true/\a.ok=true/\b.ok=true
 .have hk:=Qf.ok_iff.1 q.1;rw[if_pos q]at h;rw[if_pos ⟨QQd q.1 (by omega) (by omega),q.2⟩]
  have h:Va p a b≠0:=h;show Va (roP p s l) a b≠0;unfold Va at h ⊢;split at h
  .rename_i k2;rw[if_pos k2];split at h
   .rename_i k1;rw[if_pos k1];exact QSj hs.1 hl.1 h
   .exact absurd rfl h
  .rename_i k2;rw[if_neg k2];split at h
   .rename_i k1;rw[if_pos k1];exact QSj hs.1 hl.1 h
   .exact absurd rfl h
 .rw[if_neg q]at h;exact absurd rfl h
theorem Qdz(ho:d.ok=true)(hs:0<=s/\s<=500)(hl:0<=l/\l<=500):(roD d s l).ok=true:=by
 unfold Puz.ok at ho ⊢;rw[qbA]at ho ⊢;refine⟨ho.1,?_⟩;have hn:QR (Js d) d.ps.n 0=none:=by simpa using ho.2
 rw[Option.isNone_iff_eq_none];refine QCJ λi h1 h2=>?_;have:=qS hn i h1 h2;simp only[Js,Bool.not_eq_false',qbA]at this ⊢;exact⟨QQd this.1 hs hl,this.2⟩
theorem QaL(hs:d.pK.aK<=s/\s<=500)(hl:d.pK.oK<=l/\l<=500):Mor d (roD d s l) id:=
 ⟨rfl,rfl,rfl,rfl,λ_ h=>h,λ_ _ _ _ h=>h,λ_ _=>Iff.rfl,λ_ _ _=>rfl,λ_ _ _ _ _ _ h=>QYm hs hl h⟩
theorem QZi{l:List Lay}(h:VX d (QI d) l):l.map (mvL id)=l:=by
 refine List.ext_getElem (by rw[List.length_map]) λi h1 h2=>?_
 rw[List.getElem_map];have hp:=(h.lay h2).p;unfold mvL;cases e:l[i];rw[e]at hp;simp only[id]at hp ⊢;rw[Int.toNat_of_nonneg hp.1]
def swP(a b p:Nat):Nat:=if p=a then b else if p=b then a else p
def swD(d:Puz)(a b:Nat):Puz:=⟨d.pK,d.wide,d.high,d.turn,⟨d.ps.n,λi=>d.ps.get (swP a b i)⟩⟩
theorem Ho(a b p:Nat):swP a b (swP a b p)=p:=by
 unfold swP
 repeat' split
 all_goals omega
theorem QIR{n:Nat}(ha:a<n)(hb:b<n)(hp:p<n):swP a b p<n:=by
 unfold swP
 repeat' split
 all_goals omega
theorem QMv(ha:0<a)(hb:0<b):0<swP a b p↔0<p:=by
 unfold swP
 repeat' split
 all_goals omega
theorem QQP(ha:0<a/\a<d.ps.n)(hb:0<b/\b<d.ps.n):Mor d (swD d a b) (swP a b)/\Mor (swD d a b) d (swP a b):=by
 have inj:∀ p q,swP a b p=swP a b q->p=q:=λp q h=>by rw[<-Ho a b p,h,Ho]
 have get:∀ p,(swD d a b).ps.get (swP a b p)=d.ps.get p:=λp=>by show d.ps.get (swP a b (swP a b p))=_;rw[Ho]
 constructor
 .refine⟨rfl,rfl,rfl,rfl,λp h=>QIR ha.2 hb.2 h,λp q _ _ h=>inj p q h,λp _=>QMv ha.1 hb.1,λp _ s=>by rw[get],λp q _ _ s t h=>?_⟩
  rw[get,get];exact h
 .exact⟨rfl,rfl,rfl,rfl,λp h=>QIR ha.2 hb.2 h,λp q _ _ h=>inj p q h,λp _=>QMv ha.1 hb.1,λp _ s=>rfl,λp q _ _ s t h=>h⟩
theorem QEp(ho:d.ok=true)(ha:a<d.ps.n)(hb:b<d.ps.n):(swD d a b).ok=true:=by
 unfold Puz.ok at ho ⊢;rw[qbA]at ho ⊢;refine⟨ho.1,?_⟩;have hn:QR (Js d) d.ps.n 0=none:=by simpa using ho.2
 rw[Option.isNone_iff_eq_none];refine QCJ λi h1 h2=>?_;have h2:i<d.ps.n:=by have:i<0+d.ps.n:=h2;omega
 have:=qS hn (swP a b i) (Nat.zero_le _) (by have:=QIR ha hb h2;omega)
 simp only[Js,Bool.not_eq_false',qbA]at this ⊢;exact this
theorem QbG(ho:d.ok=true)(ha:0<a/\a<d.ps.n)(hb:0<b/\b<d.ps.n){c:Nat}(hc:c<d.ps.n):Xb (swD d a b) (QI (swD d a b)) (b:Nat) c=Xb d (QI d) (a:Nat) c:=by
 have hd:=(V6 (Vz ho)).1;have hd':=(V6 (Vz (QEp ho ha.2 hb.2))).1;obtain⟨m,m'⟩:=QQP ha hb;have e1:swP a b a=b:=by unfold swP;rw[if_pos rfl]
 have e2:swP a b b=a:=by
  unfold swP;split
  .assumption
  .rw[if_pos rfl]
 have h1:=λh=>m'.can hd' (p:=b) (c:=c) hb.2 hc h;have h2:=λh=>m.can hd (p:=a) (c:=c) ha.2 hc h;rw[e2]at h1;rw[e1]at h2;exact Bool.eq_iff_iff.2 ⟨h1,h2⟩
theorem QWv(ho:d.ok=true)(ha:0<a/\a<d.ps.n)(hb:0<b/\b<d.ps.n):V4 (swD d a b) b=V4 d a:=by
 have ho':=QEp ho ha.2 hb.2;have hn:(swD d a b).ps.n=d.ps.n:=rfl
 have hbits:YW (Xb (swD d a b) (QI (swD d a b)) (b:Nat)) (swD d a b).ps.n=YW (Xb d (QI d) (a:Nat)) d.ps.n:=by
  rw[hn];refine Nat.eq_of_testBit_eq λi=>?_;rw[QGw,QGw]
  by_cases hi:i<d.ps.n
  .rw[QbG ho ha hb hi]
  .rw[decide_eq_false hi,Bool.false_and,Bool.false_and]
 have w1:=QPg ho' (p:=b) (by rw[hn];exact hb.2)
 have w2:=QPg ho (p:=a) ha.2;rw[hbits]at w1;rw[w1,w2]
theorem QXp(ho:d.ok=true)(ha:0<a/\a<d.ps.n)(hb:0<b/\b<d.ps.n):(Ke (swD d a b) (QI (swD d a b))).length=(Ke d (QI d)).length/\(JB (swD d a b) 1).length=(JB d 1).length/\(Yp (swD d a b)).length=(Yp d).length:=by
 have hd:=(V6 (Vz ho)).1;have hd':=(V6 (Vz (QEp ho ha.2 hb.2))).1;obtain⟨m,m'⟩:=QQP ha hb;exact⟨Nat.le_antisymm (m'.sols hd') (m.sols hd),Nat.le_antisymm m'.joins m.joins,Nat.le_antisymm (m'.bad m hd' hd λp _=>Ho a b p) (m.bad m' hd hd' λp _=>Ho a b p)⟩
end Go.Proofs.YtekbmehgcofnkaaGreat
namespace Go.SX
open Go Go.RowKit Go.Proofs.YtekbmehgcofnkaaGreat
def jK(fc:FC):FC:=λargs nid _=>fc args nid (XX (AV.idsFromL 0 args) [])
variable {P:Program}{f:FuncId}
theorem Gm{fc:FC}(h:QQ P f fc):QQ P f (jK fc):=
 ⟨h.1,λargs nid _ r w lk blks eff hH ha hv he hp=>h.2 args nid (XX (AV.idsFromL 0 args) []) r w lk blks eff hH ha hv he hp⟩
end Go.SX
namespace Go.Proofs.YtekbmehgcofnkaaGreat
open Go.SX
def QRI:Tab:=QZ (QZ QOd 16 QJb) 40 (jK QHj)
theorem QW8:Qc QRI:=(QWg.add Qda).add (Gm QJa)
open Go.SX Go.SX.Told
structure U8m where
 n:Int
instance : Enc U8m where
  enc x := .int false .u8 x.n
  dec v := match v with
    | .int _ .u8 n => some ⟨n⟩
    | _ => none
  ok v x h := by
    split at h <;> (try (cases h; done))
    simp only[qsI]at h; subst h; exact⟨λ_=>rfl,rfl⟩
def QFf:List AV->Bool
 | [.slz 0 _ _ _]=>true
 | [_]=>false
 | _::l=>QFf l
 | []=>false
def zA(fc gc:FC):FC:=λargs nid all=>match args with
 | .agg l::_=>(match QFf l with
  | true=>fc args nid all
  | false=>gc args nid all)
 | _=>([],λ_=>none)
variable {P:Program}{f:FuncId}{β:Type}
theorem QEB{A B:FC}(hA:QQ P f A)(hB:QQ P f B):QQ P f (zA A B):=by
 refine⟨hA.1,λargs nid all r w lk blks eff hH ha hv he hp=>?_⟩;unfold zA at hv he;split at he<;>(try (cases he;done))
 rename_i l _;simp only at hv;cases hd:QFf l with
 | true=>
  rw[hd]at hv he;exact hA.2 _ nid all r w lk blks eff hH ha hv he hp
 | false=>
  rw[hd]at hv he;exact hB.2 _ nid all r w lk blks eff hH ha hv he hp
def AtD[QX β](args:List AV)(h:List (Nat×Blk))(D:Puz)(y:β):Prop:=∃ p,p=true/\(QX.dec args (Go.SX.look h):Option (Bool×(Puz×β)))=some (p,(D,y))
def atD[QX β](F:WF (Puz×β))(pb:List Prop->Bool)(D:Puz):FC:=λargs nid all=>(all,λblks=>match (QX.dec args (Go.SX.look (VC Blk.ro all blks)):Option (Bool×(Puz×β)))with
 | some (_,(_,y))=>some ⟨false,pb [AtD args (VC Blk.ro all blks) D y,(F (D,y)).1=true],(F (D,y)).2.1.mapId (·+nid),(F (D,y)).2.2.map λq=>(q.1+nid,q.2.mapId (·+nid))⟩
 | none=>none)
theorem QEQ[QX β]{F:WF (Puz×β)}(h:QQ P f (wFC F))(D:Puz):QQ P f (atD F QO D):=by
 refine⟨h.1,λargs nid all r w lk blks eff hH ha hv he hp=>?_⟩;simp only[atD]at hv he;cases hd:(QX.dec args (Go.SX.look (VC Blk.ro all blks)):Option (Bool×(Puz×β)))with
 | none=>rw[hd]at he;cases he
 | some q=>
  obtain⟨p,d0,y⟩:=q;rw[hd]at he;simp only[qsI]at he;subst he;obtain⟨⟨p',hp',e⟩,hF,_⟩:=Q9.1 hp;rw[hd]at e;simp only[qsI,qpI]at e;obtain⟨rfl,rfl,_⟩:=e;refine h.2 _ nid all r w lk blks ⟨false,p&&(F (d0,y)).1,(F (d0,y)).2.1.mapId (·+nid),(F (d0,y)).2.2.map λq=>(q.1+nid,q.2.mapId (·+nid))⟩ hH ha hv ?_ ?_
  .simp only[wFC,hd]
  .show(p&&(F (d0,y)).1)=true;rw[hp',hF];rfl
def QAL(pb:List Prop->Bool)(D:Puz):Tab:=QZ (QZ (QZ (QZ (QZ QRI 24 (jK (zA QJ5 (atD XE pb D)))) 40 (jK (zA QHj (atD QFj pb D)))) 43 (jK (zA QHH (atD QHm pb D)))) 17 (jK (zA QJI (atD Yx pb D)))) 27 (jK QKv)
theorem QRU(D:Puz):Qc (QAL QO D):=((((QW8.add (Gm (QEB QFv (QEQ QFv D)))).add (Gm (QEB QJa (QEQ QJa D)))).add (Gm (QEB QIQ (QEQ QIQ D)))).add (Gm (QEB QF4 (QEQ QF4 D)))).add (Gm QYY)
abbrev QCl(d:Puz):List AV:=(List.append (waC d) ([.bool false d.turn,.slz 1232 0 (0+d.ps.n) cO]))
abbrev QQr(b:U8m)(d:Puz):List AV:=((Enc.enc ((d.ps.get (i64.wrap ((1:Int)+(i64.wrap b.n).tmod (i64.wrap ((d.ps.n:Int)-1)))).toNat):QT)).cells)
abbrev QEl(a:U8m)(b:U8m)(d:Puz):List (Nat×Blk):=[(1232,.rowz false 70 kE (0+d.ps.n) λi=>bif decide (i=(i64.wrap ((1:Int)+(i64.wrap b.n).tmod (i64.wrap ((d.ps.n:Int)-1)))).toNat)then KL ((Enc.enc ((d.ps.get (i64.wrap ((1:Int)+(i64.wrap a.n).tmod (i64.wrap ((d.ps.n:Int)-1)))).toNat):QT)).cells) 0 (bif decide ((i64.wrap ((1:Int)+(i64.wrap b.n).tmod (i64.wrap ((d.ps.n:Int)-1)))).toNat=(i64.wrap ((1:Int)+(i64.wrap a.n).tmod (i64.wrap ((d.ps.n:Int)-1)))).toNat)then KL (QQr b d) 0 (KH 0 (λx x_1=>(0:Int)) (λi=>QA.enc (d.ps.get i)) (i64.wrap ((1:Int)+(i64.wrap a.n).tmod (i64.wrap ((d.ps.n:Int)-1)))).toNat)else KH 0 (λx x_1=>(0:Int)) (λi=>QA.enc (d.ps.get i)) (i64.wrap ((1:Int)+(i64.wrap b.n).tmod (i64.wrap ((d.ps.n:Int)-1)))).toNat)else bif decide (i=(i64.wrap ((1:Int)+(i64.wrap a.n).tmod (i64.wrap ((d.ps.n:Int)-1)))).toNat)then KL (QQr b d) 0 (KH 0 (λx x_1=>(0:Int)) (λi=>QA.enc (d.ps.get i)) (i64.wrap ((1:Int)+(i64.wrap a.n).tmod (i64.wrap ((d.ps.n:Int)-1)))).toNat)else KH 0 (λx x_1=>(0:Int)) (λi=>QA.enc (d.ps.get i)) i)]
theorem QUz(pb:List Prop->Bool)(D:Puz)(d:Puz)(a b c:U8m):Kf (mkS prog (QAL pb D)) (hnd (mkS prog (QAL pb D)) 1) f13 (QX.vals 0 ((d,a,b,c,()):Puz×U8m×U8m×U8m×Unit)) (QX.blks 0 ((d,a,b,c,()):Puz×U8m×U8m×U8m×Unit)) 8 = .need (decide (d.ps.n<=d.ps.n)&&(true&&true)&&true) (.need (!!VB d (6:Int)||decide (d.ps.n<=d.ps.n)&&true&&decide (d.ps.n<=1000)&&!VB d (6:Int)) (.need (!!VB d (6:Int)||!VB d (6:Int)) (.need (VB d (6:Int)||!VB d (6:Int)) (.bnd (VB d (6:Int)||!d.ok) (λ(x0:Bool)=>.br (x0) (.leaf (.bool true true) ([])) (.need (decide (d.ps.n<=d.ps.n)&&true&&decide (d.ps.n<=1000)) (.need (decide (d.ps.n<=d.ps.n)&&true&&decide (d.ps.n<=1000)) (.need (decide (d.ps.n<=d.ps.n)&&true&&decide (d.ps.n<=1000)) (.need (!!(Kn d).2.2 != 0||!(Kn d).2.2 != 0) (.need ((Kn d).2.2 != 0||!(Kn d).2.2 != 0) (.bnd ((Kn d).2.2 != 0||(XN d).2 != 0) (λ(x1:Bool)=>.br (x1) (.leaf (.bool true false) ([])) (.need (decide (d.ps.n<=d.ps.n)&&true&&decide (d.ps.n<=1000)) (.need (decide (d.ps.n<=d.ps.n)&&true&&decide (d.ps.n<=1000)) (.need (!(QY d).2.2.2==0||(QY d).2.2.2==0) (.need (!(QY d).2.2.2==0||(QY d).2.2.2==0) (.need (!((QY d).2.2.2==0&&!(QY (Puz.mk (Qf.mk d.pK.length (min (500:Int) (i64.wrap (d.pK.aK+(i64.wrap c.n).tmod (16:Int)))) (min (500:Int) (i64.wrap (d.pK.oK+i64.wrap ((i64.wrap c.n).tdiv (16:Int))))) d.pK.dK) d.wide d.high d.turn d.ps)).2.2.2 != 0)||(QY d).2.2.2==0&&!(QY (Puz.mk (Qf.mk d.pK.length (min (500:Int) (i64.wrap (d.pK.aK+(i64.wrap c.n).tmod (16:Int)))) (min (500:Int) (i64.wrap (d.pK.oK+i64.wrap ((i64.wrap c.n).tdiv (16:Int))))) d.pK.dK) d.wide d.high d.turn d.ps)).2.2.2 != 0&&((QY d).2.2.2==0&&!(QY (Puz.mk (Qf.mk d.pK.length (min (500:Int) (i64.wrap (d.pK.aK+(i64.wrap c.n).tmod (16:Int)))) (min (500:Int) (i64.wrap (d.pK.oK+i64.wrap ((i64.wrap c.n).tdiv (16:Int))))) d.pK.dK) d.wide d.high d.turn d.ps)).2.2.2 != 0)) (.need (!(QY d).2.2.2==0||(QY d).2.2.2==0&&((QY (Puz.mk (Qf.mk d.pK.length (min (500:Int) (i64.wrap (d.pK.aK+(i64.wrap c.n).tmod (16:Int)))) (min (500:Int) (i64.wrap (d.pK.oK+i64.wrap ((i64.wrap c.n).tdiv (16:Int))))) d.pK.dK) d.wide d.high d.turn d.ps)).2.2.2 != 0||(QY d).2.2.2==0&&!(QY (Puz.mk (Qf.mk d.pK.length (min (500:Int) (i64.wrap (d.pK.aK+(i64.wrap c.n).tmod (16:Int)))) (min (500:Int) (i64.wrap (d.pK.oK+i64.wrap ((i64.wrap c.n).tdiv (16:Int))))) d.pK.dK) d.wide d.high d.turn d.ps)).2.2.2 != 0)) (.bnd ((QY (Puz.mk (Qf.mk d.pK.length (min (500:Int) (i64.wrap (d.pK.aK+(i64.wrap c.n).tmod (16:Int)))) (min (500:Int) (i64.wrap (d.pK.oK+i64.wrap ((i64.wrap c.n).tdiv (16:Int))))) d.pK.dK) d.wide d.high d.turn d.ps)).2.2.2 != 0||decide ((QY (Puz.mk (Qf.mk d.pK.length (min (500:Int) (i64.wrap (d.pK.aK+(i64.wrap c.n).tmod (16:Int)))) (min (500:Int) (i64.wrap (d.pK.oK+i64.wrap ((i64.wrap c.n).tdiv (16:Int))))) d.pK.dK) d.wide d.high d.turn d.ps)).2.2.1<(QY d).2.2.1)) (λ(x2:Bool)=>.need (!(QY d).2.2.2==0||(QY d).2.2.2==0) (.need (!((QY d).2.2.2==0&&!x2)||decide (d.ps.n<=d.ps.n)&&(decide ((QY d).1.length<=(QY d).1.length)&&true)&&decide (d.ps.n<=1000/\(QY d).1.length<=1000/\(1:Int)<=d.wide/\d.wide<=1000)&&((QY d).2.2.2==0&&!x2&&((QY d).2.2.2==0&&!x2))) (.need (!((QY d).2.2.2==0&&!x2)||(QY d).2.2.2==0&&!x2) (.need (!(QY d).2.2.2==0||(QY d).2.2.2==0&&(x2||(QY d).2.2.2==0&&!x2)) (.bnd (x2||!Vn (Puz.mk (Qf.mk d.pK.length (min (500:Int) (i64.wrap (d.pK.aK+(i64.wrap c.n).tmod (16:Int)))) (min (500:Int) (i64.wrap (d.pK.oK+i64.wrap ((i64.wrap c.n).tdiv (16:Int))))) d.pK.dK) d.wide d.high d.turn d.ps) (RkL.mk (QY d).1.length λi=>(QY d).1.getD i (Lay.mk (0:Int) (0:Int)))) (λ(x3:Bool)=>.need (!(QY d).2.2.2==0||(QY d).2.2.2==0) (.need (!((QY d).2.2.2==0&&!x3)||(QY d).2.2.2==0&&!x3) (.need (!((QY d).2.2.2==0&&!x3)||(QY d).2.2.2==0&&!x3) (.need (!((QY d).2.2.2==0&&!x3&&decide ((QY d).2.2.1>1))||decide (d.ps.n<=d.ps.n)&&(decide ((QY d).2.1.length<=(QY d).2.1.length)&&true)&&decide (d.ps.n<=1000/\(QY d).2.1.length<=1000/\(1:Int)<=d.wide/\d.wide<=1000)&&((QY d).2.2.2==0&&!x3&&decide ((QY d).2.2.1>1)&&((QY d).2.2.2==0&&!x3&&decide ((QY d).2.2.1>1)))) (.need (!((QY d).2.2.2==0&&!x3&&decide ((QY d).2.2.1>1))||(QY d).2.2.2==0&&!x3&&decide ((QY d).2.2.1>1)) (.need (!((QY d).2.2.2==0&&!x3)||(QY d).2.2.2==0&&!x3&&(!decide ((QY d).2.2.1>1)||(QY d).2.2.2==0&&!x3&&decide ((QY d).2.2.1>1))) (.bnd (decide ((QY d).2.2.1>1)&&!Vn (Puz.mk (Qf.mk d.pK.length (min (500:Int) (i64.wrap (d.pK.aK+(i64.wrap c.n).tmod (16:Int)))) (min (500:Int) (i64.wrap (d.pK.oK+i64.wrap ((i64.wrap c.n).tdiv (16:Int))))) d.pK.dK) d.wide d.high d.turn d.ps) (RkL.mk (QY d).2.1.length λi=>(QY d).2.1.getD i (Lay.mk (0:Int) (0:Int)))) (λ(x4:Bool)=>.need (!(QY d).2.2.2==0||(QY d).2.2.2==0&&(x3||(QY d).2.2.2==0&&!x3)) (.bnd (x3||x4) (λ(x5:Bool)=>.need (!(QY d).2.2.2==0||(QY d).2.2.2==0) (.bnd ((QY d).2.2.2==0&&x5) (λ(x6:Bool)=>.need (!!x6||!x6) (.need (x6||!x6) (.bnd (x6||(Kn (Puz.mk (Qf.mk d.pK.length (min (500:Int) (i64.wrap (d.pK.aK+(i64.wrap c.n).tmod (16:Int)))) (min (500:Int) (i64.wrap (d.pK.oK+i64.wrap ((i64.wrap c.n).tdiv (16:Int))))) d.pK.dK) d.wide d.high d.turn d.ps)).2.2 != 0) (λ(x7:Bool)=>.need (!!x7||!x7) (.need (!!x7||!x7) (.need (!!x7||!x7&&!x7) (.need (x7||!x7) (.bnd (x7||decide ((↑(Kn (Puz.mk (Qf.mk d.pK.length (min (500:Int) (i64.wrap (d.pK.aK+(i64.wrap c.n).tmod (16:Int)))) (min (500:Int) (i64.wrap (d.pK.oK+i64.wrap ((i64.wrap c.n).tdiv (16:Int))))) d.pK.dK) d.wide d.high d.turn d.ps)).2.1.length:Int)<(↑(Kn d).2.1.length:Int))) (λ(x8:Bool)=>.br (x8) (.leaf (.bool true false) ([])) (.br (decide ((d.ps.n:Int)<3)) (.leaf (.bool true true) ([])) (.need (!decide (i64.wrap ((d.ps.n:Int)-1)=0)) (.need (!decide (i64.wrap ((d.ps.n:Int)-1)=0)) (.need (true&&(decide (d.ps.n<=d.ps.n)&&decide ((0+d.ps.n+(0+d.ps.n) / 4+192)*224<=281474976710656/\0+d.ps.n<=9223372036854775807))) (.need (decide ((0:Int)<=i64.wrap ((1:Int)+(i64.wrap b.n).tmod (i64.wrap ((d.ps.n:Int)-1)))/\i64.wrap ((1:Int)+(i64.wrap b.n).tmod (i64.wrap ((d.ps.n:Int)-1)))<(d.ps.n:Int))&&decide (d.ps.n<=d.ps.n)) (.need (decide ((i64.wrap ((1:Int)+(i64.wrap b.n).tmod (i64.wrap ((d.ps.n:Int)-1)))).toNat<d.ps.n)) (.need (decide ((0:Int)<=i64.wrap ((1:Int)+(i64.wrap a.n).tmod (i64.wrap ((d.ps.n:Int)-1)))/\i64.wrap ((1:Int)+(i64.wrap a.n).tmod (i64.wrap ((d.ps.n:Int)-1)))<(d.ps.n:Int))&&decide (d.ps.n<=d.ps.n)) (.need (decide ((i64.wrap ((1:Int)+(i64.wrap a.n).tmod (i64.wrap ((d.ps.n:Int)-1)))).toNat<d.ps.n)) (.need (decide ((0:Int)<=i64.wrap ((1:Int)+(i64.wrap a.n).tmod (i64.wrap ((d.ps.n:Int)-1)))/\i64.wrap ((1:Int)+(i64.wrap a.n).tmod (i64.wrap ((d.ps.n:Int)-1)))<(↑(0+d.ps.n):Int))&&decide (0+d.ps.n<=0+d.ps.n)) (.need (decide ((i64.wrap ((1:Int)+(i64.wrap a.n).tmod (i64.wrap ((d.ps.n:Int)-1)))).toNat<0+d.ps.n)) (.need (decide ((0:Int)<=i64.wrap ((1:Int)+(i64.wrap b.n).tmod (i64.wrap ((d.ps.n:Int)-1)))/\i64.wrap ((1:Int)+(i64.wrap b.n).tmod (i64.wrap ((d.ps.n:Int)-1)))<(↑(0+d.ps.n):Int))&&decide (0+d.ps.n<=0+d.ps.n)) (.need (decide ((i64.wrap ((1:Int)+(i64.wrap b.n).tmod (i64.wrap ((d.ps.n:Int)-1)))).toNat<0+d.ps.n)) (.need (pb ([AtD [.agg (QCl d)] (QEl a b d) D PUnit.unit,decide (D.ps.n<=1000)=true])) (.need (pb ([AtD [.agg (QCl d)] (QEl a b d) D PUnit.unit,decide (D.ps.n<=1000)=true])) (.need (pb ([AtD [.agg (QCl d)] (QEl a b d) D PUnit.unit,decide (D.ps.n<=1000)=true])) (.need (decide (d.ps.n<=d.ps.n)&&(true&&true)&&decide (d.ps.n<=1000)) (.need (pb ([AtD [.agg (QCl d),vi (i64.wrap ((1:Int)+(i64.wrap b.n).tmod (i64.wrap ((d.ps.n:Int)-1))))] (QEl a b d) D (i64.wrap ((1:Int)+(i64.wrap b.n).tmod (i64.wrap ((d.ps.n:Int)-1))),PUnit.unit),decide (D.ps.n<=1000)=true])) (.need (!(QY D).2.2.1==(QY d).2.2.1||(QY D).2.2.1==(QY d).2.2.1&&(QY D).2.2.1==(QY d).2.2.1) (.need (!(QY D).2.2.1==(QY d).2.2.1||(QY D).2.2.1==(QY d).2.2.1) (.bnd ((QY D).2.2.1==(QY d).2.2.1&&(QY D).2.2.2==(QY d).2.2.2) (λ(x9:Bool)=>.need (!x9||x9) (.need (!x9||x9) (.need (!x9||x9&&x9) (.need (!x9||x9) (.bnd (x9&&(↑(Kn D).2.1.length:Int)==(↑(Kn d).2.1.length:Int)) (λ(x10:Bool)=>.need (!x10||x10) (.need (!x10||x10) (.bnd (x10&&(Kn D).2.2==0) (λ(x11:Bool)=>.need (!x11||x11) (.need (!x11||x11) (.need (!x11||x11&&x11) (.need (!x11||x11) (.bnd (x11&&(↑(XN D).1.length:Int)==(↑(XN d).1.length:Int)) (λ(x12:Bool)=>.need (!x12||x12) (.need (!x12||x12) (.bnd (x12&&(XN D).2==0) (λ(x13:Bool)=>.need (!x13||x13&&x13) (.need (!x13||x13) (.bnd (x13&&(V4 d (i64.wrap ((1:Int)+(i64.wrap a.n).tmod (i64.wrap ((d.ps.n:Int)-1))))).1==(V4 D (i64.wrap ((1:Int)+(i64.wrap b.n).tmod (i64.wrap ((d.ps.n:Int)-1))))).1) (λ(x14:Bool)=>.need (!x14||x14&&x14) (.need (!x14||x14) (.bnd (x14&&(V4 d (i64.wrap ((1:Int)+(i64.wrap a.n).tmod (i64.wrap ((d.ps.n:Int)-1))))).2==(V4 D (i64.wrap ((1:Int)+(i64.wrap b.n).tmod (i64.wrap ((d.ps.n:Int)-1))))).2) (λ(x15:Bool)=>.need (!x15||x15) (.bnd (x15||false) (λ(x16:Bool)=>.leaf (.bool false x16) ([])))))))))))))))))))))))))))))))))))))))))))))))))))))))))))))))))))))))))))))))))))))))))):=by kernel_rfl
open Go Go.SX Go.SX.Told
variable {d:Puz}{A B a b:Nat}{g:Nat->Nat->Int}{s l:Int}
theorem QPR(hg:∀ i,(QA.dec (g i):QT)=d.ps.get (swP A B i)):(⟨⟨d.pK.length,d.pK.aK,d.pK.oK,⟨d.pK.dK.lo,d.pK.dK.hi⟩⟩,d.wide,d.high,d.turn,⟨0+d.ps.n,λi=>(QA.dec (g i):QT)⟩⟩:Puz)=swD d A B:=by
 have e:(λi=>(QA.dec (g i):QT))=λi=>d.ps.get (swP A B i):=funext hg;unfold swD;rw[Nat.zero_add,e]
theorem QXf{o:Bool}{ty:TypeId}(hg:∀ i,(QA.dec (g i):QT)=d.ps.get (swP A B i)):AtD (β:=Unit) [.agg [.int false .i64 d.pK.length,.int false .i64 d.pK.aK,.int false .i64 d.pK.oK,.int false .i64 d.pK.dK.lo,.int false .i64 d.pK.dK.hi,.int false .i64 d.wide,.int false .i64 d.high,.bool false d.turn,.slz 1232 0 (0+d.ps.n) (.of 0)]] [(1232,.rowz o ty (QA.ks (α:=QT)) (0+d.ps.n) g)] (swD d A B) ():=
 ⟨decide (0+d.ps.n+0<=0+d.ps.n)&&true,by simp,congrArg (λD=>some (decide (0+d.ps.n+0<=0+d.ps.n)&&true,(D,()))) (QPR hg)⟩
theorem Qhu{m:Int}{o:Bool}{ty:TypeId}(hg:∀ i,(QA.dec (g i):QT)=d.ps.get (swP A B i)):AtD (β:=Int×Unit) [.agg [.int false .i64 d.pK.length,.int false .i64 d.pK.aK,.int false .i64 d.pK.oK,.int false .i64 d.pK.dK.lo,.int false .i64 d.pK.dK.hi,.int false .i64 d.wide,.int false .i64 d.high,.bool false d.turn,.slz 1232 0 (0+d.ps.n) (.of 0)],.int false .i64 m] [(1232,.rowz o ty (QA.ks (α:=QT)) (0+d.ps.n) g)] (swD d A B) (m,()):=
 ⟨decide (0+d.ps.n+0<=0+d.ps.n)&&(true&&true),by simp,congrArg (λD=>some (decide (0+d.ps.n+0<=0+d.ps.n)&&(true&&true),(D,(m,())))) (QPR hg)⟩
theorem QS6(p:QT)(h:Nat->Int):(QA.dec (KL [.int false .i64 p.up.kind,.int false .i64 p.up.at_.lo,.int false .i64 p.up.at_.hi,.int false .i64 p.up.wide.lo,.int false .i64 p.up.wide.hi,.int false .i64 p.up.deep.lo,.int false .i64 p.up.deep.hi,.int false .i64 p.right.kind,.int false .i64 p.right.at_.lo,.int false .i64 p.right.at_.hi,.int false .i64 p.right.wide.lo,.int false .i64 p.right.wide.hi,.int false .i64 p.right.deep.lo,.int false .i64 p.right.deep.hi,.int false .i64 p.down.kind,.int false .i64 p.down.at_.lo,.int false .i64 p.down.at_.hi,.int false .i64 p.down.wide.lo,.int false .i64 p.down.wide.hi,.int false .i64 p.down.deep.lo,.int false .i64 p.down.deep.hi,.int false .i64 p.left.kind,.int false .i64 p.left.at_.lo,.int false .i64 p.left.at_.hi,.int false .i64 p.left.wide.lo,.int false .i64 p.left.wide.hi,.int false .i64 p.left.deep.lo,.int false .i64 p.left.deep.hi] 0 h):QT)=p:=rfl
def moG(d:Puz)(A B:Nat):Nat->Nat->Int:=λi=>bif decide (i=B)then KL [.int false .i64 (d.ps.get A).up.kind,.int false .i64 (d.ps.get A).up.at_.lo,.int false .i64 (d.ps.get A).up.at_.hi,.int false .i64 (d.ps.get A).up.wide.lo,.int false .i64 (d.ps.get A).up.wide.hi,.int false .i64 (d.ps.get A).up.deep.lo,.int false .i64 (d.ps.get A).up.deep.hi,.int false .i64 (d.ps.get A).right.kind,.int false .i64 (d.ps.get A).right.at_.lo,.int false .i64 (d.ps.get A).right.at_.hi,.int false .i64 (d.ps.get A).right.wide.lo,.int false .i64 (d.ps.get A).right.wide.hi,.int false .i64 (d.ps.get A).right.deep.lo,.int false .i64 (d.ps.get A).right.deep.hi,.int false .i64 (d.ps.get A).down.kind,.int false .i64 (d.ps.get A).down.at_.lo,.int false .i64 (d.ps.get A).down.at_.hi,.int false .i64 (d.ps.get A).down.wide.lo,.int false .i64 (d.ps.get A).down.wide.hi,.int false .i64 (d.ps.get A).down.deep.lo,.int false .i64 (d.ps.get A).down.deep.hi,.int false .i64 (d.ps.get A).left.kind,.int false .i64 (d.ps.get A).left.at_.lo,.int false .i64 (d.ps.get A).left.at_.hi,.int false .i64 (d.ps.get A).left.wide.lo,.int false .i64 (d.ps.get A).left.wide.hi,.int false .i64 (d.ps.get A).left.deep.lo,.int false .i64 (d.ps.get A).left.deep.hi] 0 (bif decide (B=A)then KL [.int false .i64 (d.ps.get B).up.kind,.int false .i64 (d.ps.get B).up.at_.lo,.int false .i64 (d.ps.get B).up.at_.hi,.int false .i64 (d.ps.get B).up.wide.lo,.int false .i64 (d.ps.get B).up.wide.hi,.int false .i64 (d.ps.get B).up.deep.lo,.int false .i64 (d.ps.get B).up.deep.hi,.int false .i64 (d.ps.get B).right.kind,.int false .i64 (d.ps.get B).right.at_.lo,.int false .i64 (d.ps.get B).right.at_.hi,.int false .i64 (d.ps.get B).right.wide.lo,.int false .i64 (d.ps.get B).right.wide.hi,.int false .i64 (d.ps.get B).right.deep.lo,.int false .i64 (d.ps.get B).right.deep.hi,.int false .i64 (d.ps.get B).down.kind,.int false .i64 (d.ps.get B).down.at_.lo,.int false .i64 (d.ps.get B).down.at_.hi,.int false .i64 (d.ps.get B).down.wide.lo,.int false .i64 (d.ps.get B).down.wide.hi,.int false .i64 (d.ps.get B).down.deep.lo,.int false .i64 (d.ps.get B).down.deep.hi,.int false .i64 (d.ps.get B).left.kind,.int false .i64 (d.ps.get B).left.at_.lo,.int false .i64 (d.ps.get B).left.at_.hi,.int false .i64 (d.ps.get B).left.wide.lo,.int false .i64 (d.ps.get B).left.wide.hi,.int false .i64 (d.ps.get B).left.deep.lo,.int false .i64 (d.ps.get B).left.deep.hi] 0 (KH 0 (λ_ _=>0) (λi=>QA.enc (d.ps.get i)) A)else KH 0 (λ_ _=>0) (λi=>QA.enc (d.ps.get i)) B)else bif decide (i=A)then KL [.int false .i64 (d.ps.get B).up.kind,.int false .i64 (d.ps.get B).up.at_.lo,.int false .i64 (d.ps.get B).up.at_.hi,.int false .i64 (d.ps.get B).up.wide.lo,.int false .i64 (d.ps.get B).up.wide.hi,.int false .i64 (d.ps.get B).up.deep.lo,.int false .i64 (d.ps.get B).up.deep.hi,.int false .i64 (d.ps.get B).right.kind,.int false .i64 (d.ps.get B).right.at_.lo,.int false .i64 (d.ps.get B).right.at_.hi,.int false .i64 (d.ps.get B).right.wide.lo,.int false .i64 (d.ps.get B).right.wide.hi,.int false .i64 (d.ps.get B).right.deep.lo,.int false .i64 (d.ps.get B).right.deep.hi,.int false .i64 (d.ps.get B).down.kind,.int false .i64 (d.ps.get B).down.at_.lo,.int false .i64 (d.ps.get B).down.at_.hi,.int false .i64 (d.ps.get B).down.wide.lo,.int false .i64 (d.ps.get B).down.wide.hi,.int false .i64 (d.ps.get B).down.deep.lo,.int false .i64 (d.ps.get B).down.deep.hi,.int false .i64 (d.ps.get B).left.kind,.int false .i64 (d.ps.get B).left.at_.lo,.int false .i64 (d.ps.get B).left.at_.hi,.int false .i64 (d.ps.get B).left.wide.lo,.int false .i64 (d.ps.get B).left.wide.hi,.int false .i64 (d.ps.get B).left.deep.lo,.int false .i64 (d.ps.get B).left.deep.hi] 0 (KH 0 (λ_ _=>0) (λi=>QA.enc (d.ps.get i)) A)else KH 0 (λ_ _=>0) (λi=>QA.enc (d.ps.get i)) i
theorem QTK(d:Puz)(A B i:Nat):(QA.dec (moG d A B i):QT)=d.ps.get (swP A B i):=by
 have cA:∀ h,(QA.dec (KL [.int false .i64 (d.ps.get A).up.kind,.int false .i64 (d.ps.get A).up.at_.lo,.int false .i64 (d.ps.get A).up.at_.hi,.int false .i64 (d.ps.get A).up.wide.lo,.int false .i64 (d.ps.get A).up.wide.hi,.int false .i64 (d.ps.get A).up.deep.lo,.int false .i64 (d.ps.get A).up.deep.hi,.int false .i64 (d.ps.get A).right.kind,.int false .i64 (d.ps.get A).right.at_.lo,.int false .i64 (d.ps.get A).right.at_.hi,.int false .i64 (d.ps.get A).right.wide.lo,.int false .i64 (d.ps.get A).right.wide.hi,.int false .i64 (d.ps.get A).right.deep.lo,.int false .i64 (d.ps.get A).right.deep.hi,.int false .i64 (d.ps.get A).down.kind,.int false .i64 (d.ps.get A).down.at_.lo,.int false .i64 (d.ps.get A).down.at_.hi,.int false .i64 (d.ps.get A).down.wide.lo,.int false .i64 (d.ps.get A).down.wide.hi,.int false .i64 (d.ps.get A).down.deep.lo,.int false .i64 (d.ps.get A).down.deep.hi,.int false .i64 (d.ps.get A).left.kind,.int false .i64 (d.ps.get A).left.at_.lo,.int false .i64 (d.ps.get A).left.at_.hi,.int false .i64 (d.ps.get A).left.wide.lo,.int false .i64 (d.ps.get A).left.wide.hi,.int false .i64 (d.ps.get A).left.deep.lo,.int false .i64 (d.ps.get A).left.deep.hi] 0 h):QT)=d.ps.get A:=λh=>QS6 _ h
 have cB:∀ h,(QA.dec (KL [.int false .i64 (d.ps.get B).up.kind,.int false .i64 (d.ps.get B).up.at_.lo,.int false .i64 (d.ps.get B).up.at_.hi,.int false .i64 (d.ps.get B).up.wide.lo,.int false .i64 (d.ps.get B).up.wide.hi,.int false .i64 (d.ps.get B).up.deep.lo,.int false .i64 (d.ps.get B).up.deep.hi,.int false .i64 (d.ps.get B).right.kind,.int false .i64 (d.ps.get B).right.at_.lo,.int false .i64 (d.ps.get B).right.at_.hi,.int false .i64 (d.ps.get B).right.wide.lo,.int false .i64 (d.ps.get B).right.wide.hi,.int false .i64 (d.ps.get B).right.deep.lo,.int false .i64 (d.ps.get B).right.deep.hi,.int false .i64 (d.ps.get B).down.kind,.int false .i64 (d.ps.get B).down.at_.lo,.int false .i64 (d.ps.get B).down.at_.hi,.int false .i64 (d.ps.get B).down.wide.lo,.int false .i64 (d.ps.get B).down.wide.hi,.int false .i64 (d.ps.get B).down.deep.lo,.int false .i64 (d.ps.get B).down.deep.hi,.int false .i64 (d.ps.get B).left.kind,.int false .i64 (d.ps.get B).left.at_.lo,.int false .i64 (d.ps.get B).left.at_.hi,.int false .i64 (d.ps.get B).left.wide.lo,.int false .i64 (d.ps.get B).left.wide.hi,.int false .i64 (d.ps.get B).left.deep.lo,.int false .i64 (d.ps.get B).left.deep.hi] 0 h):QT)=d.ps.get B:=λh=>QS6 _ h
 have cJ:(QA.dec (KH 0 (λ_ _=>0) (λi=>QA.enc (d.ps.get i)) i):QT)=d.ps.get i:=by
  have e:KH 0 (λ_ _=>0) (λi=>QA.enc (d.ps.get i)) i=QA.enc (d.ps.get i):=funext λj=>by rw[Xw,if_neg (Nat.not_lt_zero _),Nat.sub_zero]
  rw[e];rfl
 unfold moG swP
 by_cases h1:i=B
 .rw[qde h1,cond_true,cA]
  by_cases h2:i=A
  .rw[if_pos h2,<-h1,h2]
  .rw[if_neg h2,if_pos h1]
 .rw[decide_eq_false h1,cond_false]
  by_cases h2:i=A
  .rw[qde h2,cond_true,cB,if_pos h2]
  .rw[decide_eq_false h2,cond_false,cJ,if_neg h2,if_neg h1]
def moA(d:Puz)(a:Int):Int:=i64.wrap (1+(i64.wrap a).tmod (i64.wrap ((d.ps.n:Int)-1)))
theorem QKa{a:Int}(hn:3<=d.ps.n)(h9:d.ps.n<=9)(ha:0<=a/\a<=255):1<=moA d a/\moA d a<d.ps.n:=by
 unfold moA;rw[w64 (n:=a) (by omega) (by omega),w64 (n:=(d.ps.n:Int)-1) (by omega) (by omega)]
 have h1:=Int.tmod_nonneg ((d.ps.n:Int)-1) ha.1;have h2:=Int.tmod_lt_of_pos a (show(0:Int)<(d.ps.n:Int)-1 by omega)
 rw[w64 (by omega) (by omega)]
 omega
def moS(d:Puz)(c:Int):Int:=min 500 (i64.wrap (d.pK.aK+(i64.wrap c).tmod 16))
def moL(d:Puz)(c:Int):Int:=min 500 (i64.wrap (d.pK.oK+i64.wrap ((i64.wrap c).tdiv 16)))
theorem Qbs{c:Int}(hp:d.pK.ok=true)(hc:0<=c/\c<=255):(d.pK.aK<=moS d c/\moS d c<=500)/\(d.pK.oK<=moL d c/\moL d c<=500):=by
 have h:=Qf.ok_iff.1 hp;have h1:=Int.tmod_nonneg 16 hc.1;have h2:=Int.tmod_lt_of_pos c (show(0:Int)<16 by decide)
 have h3:c.tdiv 16=c / 16:=Int.tdiv_eq_ediv_of_nonneg hc.1;unfold moS moL;rw[w64 (n:=c) (by omega) (by omega),w64 (n:=c.tdiv 16) (by omega) (by omega),w64 (by omega) (by omega),w64 (by omega) (by omega)]
 omega
theorem QQU(h:d.ok=true)(hp:0<d.ps.n):d.pK.ok=true:=by
 rw[Puz.ok,qbA]at h;have hn:QR (Js d) d.ps.n 0=none:=by simpa using h.2
 have hb:=qS hn 0 (Nat.zero_le _) (by omega)
 simp only[Js,Bool.not_eq_false',qbA]at hb;exact hb.1
def QE3(d R:Puz):Bool:=(QY R).2.2.2 != 0||decide ((QY R).2.2.1<(QY d).2.2.1)
def QAB(d R:Puz):Bool:=QE3 d R || !Vn R ⟨(QY d).1.length,λi=>(QY d).1.getD i ⟨0,0⟩⟩
def QAT(d R:Puz):Bool:=decide ((QY d).2.2.1>1) && !Vn R ⟨(QY d).2.1.length,λi=>(QY d).2.1.getD i ⟨0,0⟩⟩
theorem Qae(ho:d.ok=true)(hs:d.pK.aK<=s/\s<=500)(hl:d.pK.oK<=l/\l<=500):((QY d).2.2.2==0&&(QAB d (roD d s l)||QAT d (roD d s l)))=false/\(Kn (roD d s l)).2.2=0/\(Kn d).2.1.length<=(Kn (roD d s l)).2.1.length:=by
 obtain⟨hd,hpos,h9⟩:=V6 (Vz ho);have hk:=Qf.ok_iff.1 (QQU ho hpos);have ho':(roD d s l).ok=true:=Qdz ho (by omega) (by omega)
 have hd':=(V6 (Vz ho')).1;have m:=QaL (d:=d) hs hl;have ej:∀{d:Puz},d.ok=true->(Kn d).2.1=JB d 1/\(Kn d).2.2=0:=λh=>by unfold Kn;rw[h];exact⟨rfl,rfl⟩
 refine⟨?_,(ej ho').2,by rw[(ej ho).1,(ej ho').1];exact m.joins⟩
 have es:=Hw ho;have es':=Hw ho';have hlen:=m.sols hd;cases hS:Ke d (QI d)with
 | nil=>
  rw[hS]at es;rw[es];rfl
 | cons a S=>
  have hin:∀ x∈Ke d (QI d),Vn (roD d s l) (rkL x)=true:=λx hx=>by
   have hx:=Zb.1 hx;have h1:=m.sol hd hx;rw[QZi hx]at h1;refine(QdV hd' ?_).2 (Zb.2 h1);have:=hx.len;omega
  have hne:(Ke (roD d s l) (QI (roD d s l))).isEmpty=false:=by
   rw[hS]at hlen;cases q:Ke (roD d s l) (QI (roD d s l))with
   | nil=>rw[q]at hlen;exact absurd hlen (Nat.not_succ_le_zero _)
   | cons b T=>rfl
  rw[hne,cond_false]at es';rw[hS]at es hlen hin;have es:QY d=(a,(a::S).getD 1 [],((min (a::S).length 100:Nat):Int),0):=es
  have b1:QE3 d (roD d s l)=false:=by
   unfold QE3;rw[es',es];show(false||decide (((min (Ke (roD d s l) (QI (roD d s l))).length 100:Nat):Int)<((min (a::S).length 100:Nat):Int)))=false
   rw[Bool.false_or,decide_eq_false];omega
  have b2:QAB d (roD d s l)=false:=by
   unfold QAB;rw[b1,es];have:=hin a qmc;show(false || !Vn (roD d s l) (rkL a))=false
   rw[this];rfl
  have b3:QAT d (roD d s l)=false:=by
   unfold QAT;rw[es];cases S with
   | nil=>rfl
   | cons b S=>
    have:=hin b (List.mem_cons_of_mem _ qmc);show(_ && !Vn (roD d s l) (rkL b))=false;rw[this];exact Bool.and_false _
  rw[b2,b3,es];rfl
theorem QYW(ho:d.ok=true)(ha:0<a/\a<d.ps.n)(hb:0<b/\b<d.ps.n):(QY (swD d a b)).2.2.1=(QY d).2.2.1/\(QY (swD d a b)).2.2.2=(QY d).2.2.2/\(Kn (swD d a b)).2.1.length=(Kn d).2.1.length/\(Kn (swD d a b)).2.2=0/\(XN (swD d a b)).1.length=(XN d).1.length/\(XN (swD d a b)).2=0:=by
 have ho':=QEp ho ha.2 hb.2;obtain⟨h1,h2,h3⟩:=QXp ho ha hb;have es:=Hw ho;have es':=Hw ho';have ej:∀{d:Puz},d.ok=true->(Kn d).2.1=JB d 1/\(Kn d).2.2=0:=λh=>by unfold Kn;rw[h];exact⟨rfl,rfl⟩
 rw[(ej ho).1,(ej ho').1,(ej ho').2,QG1 ho,QG1 ho']
 have key:∀ S T:List (List Lay),S.length=T.length->(cond S.isEmpty (([]:List Lay),([]:List Lay),(0:Int),(4:Int)) (S.getD 0 [],S.getD 1 [],((min S.length 100:Nat):Int),0)).2.2=(cond T.isEmpty (([]:List Lay),([]:List Lay),(0:Int),(4:Int)) (T.getD 0 [],T.getD 1 [],((min T.length 100:Nat):Int),0)).2.2:=by
  intro S T h;cases S with
  | nil=>
   cases T with
   | nil=>rfl
   | cons y T=>cases h
  | cons x S=>
   cases T with
   | nil=>cases h
   | cons y T=>
    show(((min (x::S).length 100:Nat):Int),(0:Int))=(((min (y::T).length 100:Nat):Int),(0:Int));rw[h]
 have e:=key _ _ h1;rw[<-es,<-es']at e;exact⟨congrArg Prod.fst e,congrArg Prod.snd e,h2,rfl,h3,rfl⟩
def QJv(a b c:U8m):Bool:=decide ((0<=a.n/\a.n<=255)/\(0<=b.n/\b.n<=255)/\(0<=c.n/\c.n<=255))
def moF:WF (Puz×U8m×U8m×U8m×Unit):=λx=>(QJv x.2.1 x.2.2.1 x.2.2.2.1,.bool false true,[])
theorem Qgm(d:Puz)(a b c:U8m)(hp:QJv a b c=true):ZC (ZP 8 (AV.bool false true) []) (Kf (mkS prog (QAL QO (swD d (moA d a.n).toNat (moA d b.n).toNat))) (hnd (mkS prog (QAL QO (swD d (moA d a.n).toNat (moA d b.n).toNat))) 1) f13 (QX.vals 0 ((d,a,b,c,()):Puz×U8m×U8m×U8m×Unit)) (QX.blks 0 ((d,a,b,c,()):Puz×U8m×U8m×U8m×Unit)) 8):=by
 have hq:=qdt hp;have n1:∀ b:Bool,(!!b || !b)=true:=λb=>by cases b<;>rfl
 have n2:∀ b:Bool,(b || !b)=true:=λb=>by cases b<;>rfl
 have n6:∀ a:Bool,(!!a || !a && !a)=true:=λa=>by cases a<;>rfl
 have n7:∀ a:Bool,(!a||a)=true:=λa=>by cases a<;>rfl
 have n8:∀ t:Bool,(!t||t&&t)=true:=λt=>by cases t<;>rfl
 have n9:∀ a b:Bool,(!a||a&&(b||a && !b))=true:=λa b=>by cases a<;>cases b<;>rfl
 have na:∀ c f:Bool,(!c||c&&(!f||c&&f))=true:=λc f=>by cases c<;>cases f<;>rfl
 have nb:∀ K t:Bool,K=true->(!t||K&&(t&&t))=true:=λK t h=>by rw[h];cases t<;>rfl
 have n0:(!!VB d 6||decide (d.ps.n<=d.ps.n)&&true&&decide (d.ps.n<=1000) && !VB d 6)=true:=by
  cases hg:VB d 6 with
  | true=>rfl
  | false=>
   have:¬ ((d.ps.n:Int)>14):=λh=>by rw[VB,qde h]at hg;cases hg
   rw[qde (qlr _),qde (show d.ps.n<=1000 by omega)];rfl
 have et:=QUz QO (swD d (moA d a.n).toNat (moA d b.n).toNat) d a b c;refine Qe et ?_;clear et
 iterate 4 (refine QG ?_ ?_;rotate_left)
 refine Jr λz0 y0=>?_;obtain rfl:z0=(VB d 6 || !d.ok):=y0.trans (rfl)
 refine QE ?_ ?_<;>intro b0
 .exact KY rfl rfl
 have hg:VB d 6=false/\d.ok=true:=by simpa using b0
 have ho:=hg.2;obtain⟨hd,hpos,h9⟩:=V6 (Vz ho);have hw1:=hd.w1;have hw2:=hd.wn;have hpl:=(QQU ho hpos);obtain⟨hsl,hlo⟩:=Qbs (d:=d) (c:=c.n) hpl hq.2.2;obtain⟨r1,r2,r3⟩:=Qae ho hsl hlo
 have lx:(QY d).1.length<=1000/\(QY d).2.1.length<=1000:=by
  have es:=Hw ho
  have hl:∀ l∈Ke d (QI d),l.length<=1000:=λl hl=>by
   have:=(Zb.1 hl).len;omega
  cases hS:Ke d (QI d)with
  | nil=>rw[hS]at es;rw[es];exact⟨Nat.zero_le _,Nat.zero_le _⟩
  | cons x S=>
   rw[hS]at es hl;rw[es];refine⟨hl x qmc,?_⟩;cases S with
   | nil=>exact Nat.zero_le _
   | cons y S=>exact hl y (List.mem_cons_of_mem _ qmc)
 iterate 5 (refine QG ?_ ?_;rotate_left)
 refine Jr λz1 y1=>?_
 obtain rfl:z1=false:=y1.trans (by
   have e1:(Kn d).2.2=0:=by unfold Kn;rw[ho];rfl
   rw[e1,QG1 ho];rfl
)
 refine QE ?_ ?_<;>intro b1
 .cases b1
 iterate 6 (refine QG ?_ ?_;rotate_left)
 refine Jr λz2 y2=>?_;obtain rfl:z2=QE3 d (roD d (moS d c.n) (moL d c.n)):=y2.trans (rfl)
 iterate 4 (refine QG ?_ ?_;rotate_left)
 refine Jr λz3 y3=>?_;obtain rfl:z3=QAB d (roD d (moS d c.n) (moL d c.n)):=y3.trans (rfl)
 iterate 6 (refine QG ?_ ?_;rotate_left)
 refine Jr λz4 y4=>?_;obtain rfl:z4=QAT d (roD d (moS d c.n) (moL d c.n)):=y4.trans (rfl);refine QG ?_ ?_;rotate_left;refine Jr λz5 y5=>?_;obtain rfl:z5=(QAB d (roD d (moS d c.n) (moL d c.n))||QAT d (roD d (moS d c.n) (moL d c.n))):=y5.trans (rfl)
 refine QG ?_ ?_;rotate_left;refine Jr λz6 y6=>?_;obtain rfl:z6=false:=y6.trans (r1)
 iterate 2 (refine QG ?_ ?_;rotate_left)
 refine Jr λz7 y7=>?_
 obtain rfl:z7=false:=y7.trans (by
   show(false||(Kn (roD d (moS d c.n) (moL d c.n))).2.2 != 0)=false
   rw[r2];rfl
)
 iterate 4 (refine QG ?_ ?_;rotate_left)
 refine Jr λz8 y8=>?_
 obtain rfl:z8=false:=y8.trans (by
   show(false||decide (((Kn (roD d (moS d c.n) (moL d c.n))).2.1.length:Int)<((Kn d).2.1.length:Int)))=false
   rw[Bool.false_or,decide_eq_false];omega
)
 refine QE ?_ ?_<;>intro b2
 .cases b2
 refine QE ?_ ?_<;>intro b3
 .exact KY rfl rfl
 have hn3:3<=d.ps.n:=by have:=qdf b3;omega
 have hA:=QKa (d:=d) hn3 h9 hq.1;have hB:=QKa (d:=d) hn3 h9 hq.2.1;have hAn:0<(moA d a.n).toNat/\(moA d a.n).toNat<d.ps.n:=by omega
 have hBn:0<(moA d b.n).toNat/\(moA d b.n).toNat<d.ps.n:=by omega
 obtain⟨s1,s2,s3,s4,s5,s6⟩:=QYW ho hAn hBn;have sw:=QWv ho hAn hBn;rw[Int.toNat_of_nonneg (by omega),Int.toNat_of_nonneg (by omega)]at sw
 have hA':(1:Int)<=i64.wrap (1+(i64.wrap a.n).tmod (i64.wrap ((d.ps.n:Int)-1)))/\i64.wrap (1+(i64.wrap a.n).tmod (i64.wrap ((d.ps.n:Int)-1)))<d.ps.n:=hA;have hB':(1:Int)<=i64.wrap (1+(i64.wrap b.n).tmod (i64.wrap ((d.ps.n:Int)-1)))/\i64.wrap (1+(i64.wrap b.n).tmod (i64.wrap ((d.ps.n:Int)-1)))<d.ps.n:=hB
 have hw:(!decide (i64.wrap ((d.ps.n:Int)-1)=0))=true:=by
  rw[w64 (by omega) (by omega),decide_eq_false (by omega)];rfl
 have hsz:decide ((swD d (moA d a.n).toNat (moA d b.n).toNat).ps.n<=1000)=true:=qde (show d.ps.n<=1000 by omega)
 iterate 18 (refine QG ?_ ?_;rotate_left)
 refine Jr λz9 y9=>?_;obtain rfl:z9=true:=y9.trans (by rw[s1,s2,beq_self_eq_true,beq_self_eq_true];rfl)
 iterate 4 (refine QG ?_ ?_;rotate_left)
 refine Jr λz10 y10=>?_;obtain rfl:z10=true:=y10.trans (by rw[s3,beq_self_eq_true];rfl)
 iterate 2 (refine QG ?_ ?_;rotate_left)
 refine Jr λz11 y11=>?_;obtain rfl:z11=true:=y11.trans (by rw[s4];rfl)
 iterate 4 (refine QG ?_ ?_;rotate_left)
 refine Jr λz12 y12=>?_;obtain rfl:z12=true:=y12.trans (by rw[s5,beq_self_eq_true];rfl)
 iterate 2 (refine QG ?_ ?_;rotate_left)
 refine Jr λz13 y13=>?_;obtain rfl:z13=true:=y13.trans (by rw[s6];rfl)
 iterate 2 (refine QG ?_ ?_;rotate_left)
 refine Jr λz14 y14=>?_
 obtain rfl:z14=true:=y14.trans (by
   show(true&&(V4 d (moA d a.n)).1==(V4 (swD d (moA d a.n).toNat (moA d b.n).toNat) (moA d b.n)).1)=true;rw[sw,beq_self_eq_true];rfl
)
 iterate 2 (refine QG ?_ ?_;rotate_left)
 refine Jr λz15 y15=>?_
 obtain rfl:z15=true:=y15.trans (by
   show(true&&(V4 d (moA d a.n)).2==(V4 (swD d (moA d a.n).toNat (moA d b.n).toNat) (moA d b.n)).2)=true;rw[sw,beq_self_eq_true];rfl
)
 refine QG ?_ ?_;rotate_left;refine Jr λz16 y16=>?_;obtain rfl:z16=true:=y16.trans (rfl)
 .exact KY rfl rfl
 all_goals first|rfl|(rw[qde (qlr _)];rfl)|exact n0|exact hw|exact n1 _|exact n2 _|exact n6 _|exact n7 _|exact n8 _|exact n9 _ _|exact na _ _|exact nb _ _ (by simp only[qlr,decide_true,Bool.and_true,Bool.true_and,qbA,qdE];omega)|(rw[qde (qlr _),qde (show d.ps.n<=1000 by omega)];rfl)|exact Q9.2 ⟨QXf (QTK d _ _),hsz,trivial⟩|exact Q9.2 ⟨Qhu (QTK d _ _),hsz,trivial⟩|(simp only[Nat.zero_add,qlr,decide_true,Bool.and_true,Bool.true_and,qbA,qdE];omega)
