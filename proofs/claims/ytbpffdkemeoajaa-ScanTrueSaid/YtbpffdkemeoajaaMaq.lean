/- - -/
import Derived.Test.YtbpffdkemeoajaaMap
namespace Go.SX
open Go Go.RowKit Go.Proofs.Ytbpffdkemeoajaa
variable {ks:List CK}{n:Nat}{g g':Nat→Nat→Int}{r r':Nat→Loc}{w:World}{l l':Loc}{v:AV}{b:Blk}{G:Ctx}{st:St}{ids:List Nat}
theorem QNc(h:QC ks.length n g g'){i:Nat}(hi:i<n):Qf ks g i=Qf ks g' i:=
 WK ks 0 fun j hj=>QJR (h i hi) j hj
theorem zK(h1:l.nil=true→n=0)(h2:∀ i,i<n→l.foot l.blk)(h3:∀ i,i<n→∀ j v,(Qf ks g i)[j]? = some v→w.cell? ⟨l.blk,l.off+i*ks.length+j,none⟩=some (v.den r)):Jy w r' l ks.length n (Qf ks g):=by
 refine⟨h1,fun i hi=>⟨h2 i hi,ZU _ _ _,fun j v hv => ?_⟩⟩
 have hf:jT v=true:=by
  have:=V9 ks 0 (g i);rw[J4,List.all_eq_true]at this;exact this v (List.mem_of_getElem? hv)
 exact⟨hf,by rw[h3 i hi j v hv,J7 (p:=fun _=>false) (r:=r) (r':=r') (fun _ hf=>by cases hf) v (QD6 hf)]⟩
theorem QCZ{n':Nat}(h:Jy w r l ks.length n (Qf ks g))(hle:n'≤n)(hg:QC ks.length n' g g')(h1:l'.blk=l.blk)(h2:l'.off=l.off)(h3:l'.nil=true→l.nil=true)(h4:∀ k,l.foot k→l'.foot k):Jy w r' l' ks.length n' (Qf ks g'):=by
 refine zK (r:=r) (fun hn=>by have:=h.1 (h3 hn);omega) (fun i hi=>by rw[h1];exact h4 _ (h.2 i (by omega)).1) fun i hi j v hv => ?_
 rw[h1,h2];rw[←QNc hg hi]at hv;exact((h.2 i (by omega)).2.2 j v hv).2
theorem QJT{id:Nat}{ty:TypeId}{z:Nat}{g:Nat→List AV}(h:K8 r id w ty z n g):Jy w r (r id) z n g:=by
 refine⟨h.2.2.2.1,fun i hi => ?_⟩;have hn:=QAA h (by omega)
 refine⟨(h.2.2.1 _).2 ⟨hn,rfl⟩,(h.2.2.2.2.1 i hi).1,fun j v hv=>⟨?_,QAh h hi hv⟩⟩;have hf:=(h.2.2.2.2.1 i hi).2;rw[J4,List.all_eq_true]at hf;exact hf v (List.mem_of_getElem? hv)
theorem QD8{x y:List AV}(h:AV.denL r x=AV.denL r y){j:Nat}(hv:y[j]? = some v):∃ u,x[j]? = some u∧u.den r=v.den r:=by
 have e:=congrArg (fun l=>l[j]?) h;simp only[Q1,List.getElem?_map,hv,Option.map_some]at e;cases hu:x[j]? with
 | none=>rw[hu]at e;cases e
 | some u=>rw[hu]at e;exact⟨u,rfl,by simpa using e⟩
theorem QPy{id:Nat}{ty:TypeId}{l:List (List AV)}(h:QP r id w (.rowl ty ks.length l))(hg:QC4 ks l n g)(h1:l'.blk=(r id).blk)(h2:l'.off=(r id).off)(h3:l'.nil=false)(h4:l'.foot (r id).blk):Jy w r' l' ks.length n (Qf ks g):=by
 obtain⟨ho,hz,hlen,hcap,rest,hrest,hbk⟩:=h;refine zK (r:=r) (fun hn=>by rw[h3]at hn;cases hn) (fun i hi=>by rw[h1];exact h4) fun i hi j v hv => ?_
 have hx:=List.getElem?_eq_getElem (l:=l) (i:=i) (by have:=hg.1;omega)
 obtain⟨u,hu,hd⟩:=QD8 (hg.2 i hi _ hx r) hv;have hl0:=hlen _ (List.mem_of_getElem? hx);have hj:=(List.getElem?_eq_some_iff.1 hu).1;obtain⟨f1,f2⟩:=Wz ks.length l hlen i _ hx j (by omega)
 rw[h1,h2,ho,Nat.zero_add,X6 hbk,List.getElem?_append_left (by rw[Kq];exact f1),Q1,List.getElem?_map,f2,hu]
 simp only[Option.map_some,hd]
theorem QXx{k:IntKind}{z z':AV}{has has':Int→Bool}{g g':Int→AV}{es:List MapEntry}(h:Js r k z has g es)(e:KA z z' has has' g g'):Js r' k z' has' g' es:=by
 obtain⟨e1,e2,e3,e4⟩:=e;have c:∀ v:AV,v.all (fun _=>false)=true→v.den r=v.den r':=J7 (fun _ hf=>by cases hf)
 refine⟨h.keys,h.once,fun n=>(e4 n).2,e2,fun n hn => ?_,fun n hn => ?_⟩
 ·rw[←c _ (e4 n).2,←(e4 n).1 r];exact h.yes n (by rw[e3];exact hn)
 ·rw[←c _ (e4 n).2,←c _ e2,←(e4 n).1 r,←e1 r];exact h.no n (by rw[e3];exact hn)
theorem QZq{Q:List Pr}{hJ:List (Nat×Blk)}{p s:Nat}{c:Cv}{x:Pr}(hf:JL Q p=some ⟨x.p,s,c⟩){b':Blk}{ps:List Prop}(h:eqB Q c b b'=some ps)(ha:KJ ps)(hb:QP r s w b):
  QP (Q7 Q hJ r) p w b'∧(∀ k,Qh (Q7 Q hJ r) p b' k→Qh r s b k)∧(b'.own=true→b.own=true):=by
 have Ls:c = .same→Q7 Q hJ r p=r s:=by intro e;subst e;unfold Q7;rw[hf]
 have Ll:c = .lift→Q7 Q hJ r p=zM (r s):=by intro e;subst e;unfold Q7;rw[hf]
 unfold eqB at h;split at h
 ·
  split at h<;>(try (cases h;done))
  rename_i c0 z0 t0;have L:=Ls rfl;have z0:=Nat.eq_of_beq_eq_true z0;have t0:=Nat.eq_of_beq_eq_true t0;subst z0 t0;refine⟨?_,?_,id⟩
  ·simp only[QP]at hb ⊢;rw[L,←eqL_den r _ _ _ h ha];exact hb
  ·intro k hk;have hk:k=(Q7 Q hJ r p).blk:=hk;rw[L]at hk;exact hk
 ·split at h<;>(try (cases h;done))
  rename_i c0 z0 t0;have L:=Ls rfl;have z0:=Nat.eq_of_beq_eq_true z0;have t0:=Nat.eq_of_beq_eq_true t0;subst z0 t0;refine⟨?_,?_,fun h=>by cases h⟩
  ·simp only[QP]at hb ⊢;rw[L,←eqL_den r _ _ _ h ha];exact hb
  ·intro k hk;have hk:k=(Q7 Q hJ r p).blk:=hk;rw[L]at hk;exact hk
 ·split at h<;>(try (cases h;done))
  rename_i c0 z0 t0;have L:=Ls rfl;have z0:=Nat.eq_of_beq_eq_true z0;have t0:=Nat.eq_of_beq_eq_true t0;subst z0 t0;refine⟨?_,?_,fun h=>by cases h⟩
  ·simp only[QP]at hb ⊢;rw[L,←eqL_den r _ _ _ h ha];exact hb
  ·intro k hk;have hk:k=(Q7 Q hJ r p).blk:=hk;rw[L]at hk;exact hk
 ·
  split at h<;>(try (cases h;done))
  rename_i c0 z0 t0;have L:=Ls rfl;have z0:=Nat.eq_of_beq_eq_true z0;have t0:=Nat.eq_of_beq_eq_true t0;subst z0 t0;obtain⟨e1,e2,e3⟩:=QJc (hJ:=hJ) r _ _ _ h ha;refine⟨?_,?_,id⟩
  ·simp only[QP]at hb ⊢;rw[L,←e1,←e2];exact⟨hb.1,hb.2.1,e3 _ hb.2.2.1,hb.2.2.2⟩
  ·intro k hk;have hk:k=(Q7 Q hJ r p).blk:=hk;rw[L]at hk;exact hk
 ·
  split at h<;>(try (cases h;done))
  rename_i c0 z0;simp only[qsI]at h;subst h;simp only[KJ,and_true]at ha;have L:=Ls rfl;have z0:=Nat.eq_of_beq_eq_true z0;subst z0;obtain⟨rfl,rfl⟩:=ha;refine⟨?_,?_,fun h=>by cases h⟩
  ·simp only[QP]at hb ⊢;rw[L];refine⟨hb.1,hb.2.1,fun i hi=>⟨(hb.2.2 i hi).1,fun j v hv => ?_⟩⟩;obtain⟨a1,a2⟩:=(hb.2.2 i hi).2 j v hv;exact⟨a1,by rw[a2,J7 (p:=fun _=>false) (r:=r) (r':=Q7 Q hJ r) (fun _ hf=>by cases hf) v a1]⟩
  ·intro k hk;have hk:k=(Q7 Q hJ r p).blk:=hk;rw[L]at hk;exact hk
 ·
  rename_i o t ks n g o' t' ks' n' g';split at h<;>(try (cases h;done))
  rename_i c0 z0 t0 ho;simp only[qsI]at h;subst h;simp only[KJ,and_true]at ha;have L:=Ls rfl;have z0:=Y8 z0;have t0:=Nat.eq_of_beq_eq_true t0;subst z0 t0;have hb0:K8 r s w t ks.length n (Qf ks g):=hb;refine⟨?_,fun k hk => ?_,fun h => ?_⟩
  ·show K8 (Q7 Q hJ r) p w t ks.length n' (Qf ks g');unfold K8;rw[L];have hb1:=hb0;obtain⟨h1,h2,h3,h4,h5,h6⟩:=hb0;refine⟨h1,h2,h3,fun hn=>by have:=h4 hn;omega,fun i hi=>⟨ZU _ _ _,V9 _ _ _⟩,fun hn => ?_⟩
   have hrow:=HL (QC9 hb1 hn) (k:=n') (by rw[Ja];exact ha.1)
   have hz:=QCv (n:=n') (get:=Qf ks g') hrow hn (fun k=>by rw[h3,hn];simp) (by rw[List.length_take,Ja];omega) (fun i x hx=>by
    have hi:=(List.getElem?_eq_some_iff.1 hx).1;simp only[List.length_take,Ja]at hi;rw[List.getElem?_take_of_lt (by omega)]at hx
    rw[ZA (by omega)]at hx
    simp only[qsI]at hx;subst hx;rw[QNc ha.2 (by omega)]) (fun i hi=>V9 _ _ _)
   obtain⟨k1,rest,k2,k3⟩:=hz.2.2.2.2.2 hn;exact⟨k1,rest,k2,by rw[k3,denL_congr (p:=fun _=>false) (r:=r) (r':=Q7 Q hJ r) (fun _ hf=>by cases hf) _ (Hy fun i hi=>X5 (l:=Qf ks g' i) (V9 _ _ _))]⟩
  ·have hk:(Q7 Q hJ r p).foot k:=hk;rw[L]at hk;exact hk
  ·simp only[Blk.own]at h ⊢;rw[h]at ho;simpa using ho
 ·
  rename_i o t ks n g ks' n' g';split at h<;>(try (cases h;done))
  rename_i c0 z0;simp only[qsI]at h;subst h;simp only[KJ,and_true]at ha;have L:=Ls rfl;have z0:=Y8 z0;subst z0;have hb0:K8 r s w t ks.length n (Qf ks g):=hb;refine⟨?_,fun k hk => ?_,fun h=>by cases h⟩
  ·simp only[QP];rw[L];exact⟨hb0.2.1,hb.lt rfl,QCZ (QJT hb0) ha.1 ha.2 rfl rfl id (fun _ h=>h)⟩
  ·have hk:(Q7 Q hJ r p).foot k:=hk;rw[L]at hk;exact hk
 ·
  split at h<;>(try (cases h;done))
  rename_i c0 z0;simp only[qsI]at h;subst h;simp only[KJ,and_true]at ha;have L:=Ls rfl;have z0:=Y8 z0;subst z0;refine⟨?_,fun k hk => ?_,fun h=>by cases h⟩
  ·simp only[QP];rw[L];exact⟨hb.1,hb.2.1,QCZ hb.2.2 ha.1 ha.2 rfl rfl id (fun _ h=>h)⟩
  ·have hk:(Q7 Q hJ r p).foot k:=hk;rw[L]at hk;exact hk
 ·
  rename_i o t ks n ln g o' t' ks' n' ln' g';split at h<;>(try (cases h;done))
  rename_i c0 z0 t0 ho;simp only[qsI]at h;subst h;simp only[KJ,and_true]at ha;have L:=Ls rfl;have z0:=Y8 z0;have t0:=Nat.eq_of_beq_eq_true t0;subst z0 t0;obtain⟨rfl,ha⟩:=ha;refine⟨?_,fun k hk => ?_,fun h => ?_⟩
  ·simp only[QP]at hb ⊢;rw[L];obtain⟨h1,h2,h3,inner,h4,h5,h6,h7⟩:=hb;refine⟨h1,h2,h3,inner,h4,h5,fun i hi => ?_,fun hn => ?_⟩
   ·obtain⟨a1,a2⟩:=ha i hi;obtain⟨c1,c2,c3⟩:=h6 i hi;rw[a1]at c3;exact⟨c1,c2,QCZ c3 (qlr _) a2 rfl rfl id (fun _ h=>h)⟩
   ·obtain⟨k1,rest,k2,k3⟩:=h7 hn;refine⟨k1,rest,k2,?_⟩;rw[k3];congr 3;apply congrArg (·++rest);apply List.map_congr_left;intro i hi;rw[(ha i (List.mem_range.1 hi)).1]
  ·have hk:(Q7 Q hJ r p).foot k:=hk;rw[L]at hk;exact hk
  ·simp only[Blk.own]at h ⊢;rw[h]at ho;simpa using ho
 ·
  rename_i t z l o' t' ks' n' g';split at h<;>(try (cases h;done))
  rename_i c0 z0 t0;simp only[qsI]at h;subst h;simp only[KJ,and_true]at ha;have L:=Ll rfl;have z0:=Nat.eq_of_beq_eq_true z0;have t0:=Nat.eq_of_beq_eq_true t0;subst z0 t0;refine⟨?_,fun k hk => ?_,fun _=>rfl⟩
  ·show K8 (Q7 Q hJ r) p w t ks'.length n' (Qf ks' g');unfold K8;rw[L];refine⟨hb.1,hb.2.1,fun k => ?_,fun hn=>(by cases hn),fun i hi=>⟨ZU _ _ _,V9 _ _ _⟩,fun _ => ?_⟩
   ·simp[zM]
   ·have hrow:=HL hb ha.1;obtain⟨k0,k1,k2,k3,rest,k4,k5⟩:=hrow;have hlen:(l.take n').length=n':=by rw[List.length_take];have:=ha.1;omega
    refine⟨by rw[hlen]at k3;exact k3,rest,by rw[hlen]at k4;exact k4,?_⟩
    show bk w (r s).blk=_;rw[k5]
    have e1:AV.denL r (l.take n').flatten=AV.denL r (Ki n' (Qf ks' g')).flatten:=by
     apply QCG;apply List.ext_getElem?;intro i;rw[List.getElem?_map,List.getElem?_map];rcases Nat.lt_or_ge i n' with hi|hi
     ·have hx:=List.getElem?_eq_getElem (l:=l) (i:=i) (by have:=ha.1;omega)
      rw[List.getElem?_take_of_lt hi,ZA hi,hx];simp only[Option.map_some,ha.2 i hi _ hx r]
     ·rw[List.getElem?_eq_none (by omega),List.getElem?_eq_none (by rw[Ja];exact hi)]
    rw[e1,denL_congr (p:=fun _=>false) (r:=r) (r':=Q7 Q hJ r) (fun _ hf=>by cases hf) _ (Hy fun i hi=>X5 (l:=Qf ks' g' i) (V9 _ _ _))]
  ·have hk:(Q7 Q hJ r p).foot k:=hk;rw[L]at hk;exact hk
 ·
  split at h<;>(try (cases h;done))
  rename_i c0 z0;simp only[qsI]at h;subst h;simp only[KJ,and_true]at ha;have L:=Ll rfl;have z0:=Nat.eq_of_beq_eq_true z0;subst z0;refine⟨?_,fun k hk => ?_,fun h=>by cases h⟩
  ·simp only[QP];rw[L];exact⟨hb.2.1,fun k hk=>hb.lt rfl k hk,QPy hb ha (l':=zM (r s)) rfl rfl rfl rfl⟩
  ·have hk:(Q7 Q hJ r p).foot k:=hk;rw[L]at hk;exact hk
 ·
  split at h<;>(try (cases h;done))
  rename_i c0 z0;simp only[qsI]at h;subst h;simp only[KJ,and_true]at ha;have L:=Ll rfl;have z0:=Nat.eq_of_beq_eq_true z0;subst z0;refine⟨?_,fun k hk => ?_,fun h=>by cases h⟩
  ·simp only[QP];rw[L];exact⟨hb.2.1,fun k hk=>hb.lt rfl k hk,QPy (hb.peel) ha (l':=zM (r s)) rfl rfl rfl rfl⟩
  ·have hk:(Q7 Q hJ r p).foot k:=hk;rw[L]at hk;exact hk
 ·
  rename_i z n g ks' n' g';split at h<;>(try (cases h;done))
  rename_i c0 z0;simp only[qsI]at h;subst h;simp only[KJ,and_true]at ha;have L:=Ll rfl;have z0:=Nat.eq_of_beq_eq_true z0;subst z0;refine⟨?_,fun k hk => ?_,fun h=>by cases h⟩
  ·simp only[QP]at hb ⊢;rw[L];refine⟨hb.1,fun k hk=>(by have hk:k=(r s).blk:=hk;rw[hk];exact hb.2.1),zK (r:=r) (fun hn=>(by cases hn)) (fun i hi=>rfl) fun i hi j v hv => ?_⟩
   obtain⟨u,hu,hd⟩:=QD8 (ha.2 i hi r) hv;obtain⟨_,b2⟩:=hb.2.2 i (by have:=ha.1;omega)
   show w.cell? ⟨(r s).blk,(r s).off+i*_+j,none⟩=_;rw[(b2 j u hu).2,hd]
  ·have hk:(Q7 Q hJ r p).foot k:=hk;rw[L]at hk;exact hk
 ·
  split at h<;>(try (cases h;done))
  simp only[qsI]at h;subst h;simp only[KJ,and_true]at ha;obtain⟨rfl,rfl⟩:=ha;have L:=Ls rfl;refine⟨?_,fun k hk => ?_,id⟩
  ·simp only[QP]at hb ⊢;rw[L];exact hb
  ·have hk:k=(Q7 Q hJ r p).blk:=hk;rw[L]at hk;exact hk
 ·
  split at h<;>(try (cases h;done))
  simp only[qsI]at h;subst h;simp only[KJ,and_true]at ha;obtain⟨rfl,m1,m2,m3⟩:=ha;have L:=Ls rfl;refine⟨?_,fun k hk => ?_,fun _=>rfl⟩
  ·simp only[QP]at hb ⊢;rw[L];exact⟨[],_,hb,⟨by simp,by simp,fun n=>(m3 n).2,m1,fun n hn=>(by rw[m2 n]at hn;cases hn),fun n _=>⟨rfl,(m3 n).1 _⟩⟩⟩
  ·have hk:k=(Q7 Q hJ r p).blk:=hk;rw[L]at hk;exact hk
 ·
  split at h<;>(try (cases h;done))
  rename_i c0 k0;have k0:=beq_iff_eq.1 k0;subst k0;simp only[qsI]at h;subst h;simp only[KJ,and_true]at ha;have L:=Ls rfl;refine⟨?_,fun k hk => ?_,fun _=>rfl⟩
  ·simp only[QP]at hb ⊢;rw[L];obtain⟨es,cl,h1,h2⟩:=hb;exact⟨es,cl,h1,QXx h2 ha⟩
  ·have hk:k=(Q7 Q hJ r p).blk:=hk;rw[L]at hk;exact hk
 ·
  split at h<;>(try (cases h;done))
  rename_i c0 qs hq;simp only[qsI]at h;subst h;simp only[KJ]at ha;obtain⟨rfl,rfl,rfl,rfl,rfl,ha⟩:=ha;have L:=Ls rfl;refine⟨?_,fun k hk => ?_,fun _=>rfl⟩
  ·simp only[QP]at hb ⊢;rw[L,←eqL_den r _ _ _ hq ha];exact hb
  ·have hk:k=(Q7 Q hJ r p).blk:=hk;rw[L]at hk;exact hk
 ·cases h
theorem QWa{Q:List Pr}{hJ:List (Nat×Blk)}{p:Nat}{b':Blk}{ps:List Prop}(h:eqG b'=some ps)(ha:KJ ps)(hl:Q7 Q hJ r p=Loc.none (zOf (some b'))):
  QP (Q7 Q hJ r) p w b'∧∀ k,¬ Qh (Q7 Q hJ r) p b' k:=by
 unfold eqG at h;split at h<;>(try (cases h;done))
 ·simp only[qsI]at h;subst h;simp only[KJ,and_true]at ha;subst ha;refine⟨?_,fun k hk => ?_⟩
  ·simp only[QP,K8,hl,Loc.none,zOf];refine⟨trivial,trivial,fun k=>by simp,fun _=>trivial,fun i hi=>by omega,fun h=>by cases h⟩
  ·have hk:(Q7 Q hJ r p).foot k:=hk;rw[hl]at hk;exact hk
 ·simp only[qsI]at h;subst h;simp only[KJ,and_true]at ha;subst ha;refine⟨?_,fun k hk => ?_⟩
  ·simp only[QP,hl,Loc.none,zOf];exact⟨trivial,fun k hk=>hk.elim,fun _=>rfl,fun i hi=>by omega⟩
  ·have hk:(Q7 Q hJ r p).foot k:=hk;rw[hl]at hk;exact hk
 ·simp only[qsI]at h;subst h;simp only[KJ,and_true]at ha;subst ha;refine⟨?_,fun k hk => ?_⟩
  ·simp only[QP,hl,Loc.none,zOf];exact⟨trivial,trivial,fun _=>trivial,fun _=>Loc.none 0,fun k=>⟨fun h=>h.elim,fun h=>by rcases h with ⟨h,_⟩|⟨i,hi,_⟩<;>first|(cases h;done)|omega⟩,fun k hk=>hk.elim,fun i hi=>by omega,fun h=>by cases h⟩
  ·have hk:(Q7 Q hJ r p).foot k:=hk;rw[hl]at hk;exact hk
theorem QK4:∀{Q:List Pr} {i:Nat} {x:Pr},JL Q i=some x→x.p=i
 | [],_,_,h=>by cases h
 | y::l,i,x,h=>by
  simp only[JL]at h;split at h
  ·rename_i hb;simp only[qsI]at h;subst h;exact Nat.eq_of_beq_eq_true hb
  ·exact QK4 h
theorem QQw:∀{Q:List Pr} {i:Nat} {x:Pr},JL Q i=some x→x∈Q
 | [],_,_,h=>by cases h
 | y::l,i,x,h=>by
  simp only[JL]at h;split at h
  ·simp only[qsI]at h;subst h;exact List.mem_cons_self
  ·exact List.mem_cons_of_mem _ (QQw h)
theorem QOG{n0:Nat}:∀{Q:List Pr},zs n0 Q=true→∀ x∈Q,x.p<n0→x.c = .same∧x.p=x.s
 | [],_,x,hx,_=>by cases hx
 | y::l,h,x,hx,hlt=>by
  simp only[zs,qbA]at h;rcases List.mem_cons.1 hx with rfl|hx
  ·have h1:=h.1;have e:Nat.blt x.p n0=true:=by rw[Nat.blt_eq];exact hlt
   rw[e]at h1;simp only at h1;split at h1
   ·rename_i hc;exact⟨hc,Nat.eq_of_beq_eq_true h1⟩
   ·cases h1
  ·exact QOG h.2 x hx hlt
theorem QFu{Q:List Pr}{h:List (Nat×Blk)}:∀{l:List (Nat×Blk)} {ps:List Prop},eqH Q h l=some ps→KJ ps→∀ p∈l,
  (∃ x,JL Q p.1=some x∧x.c = .ghost∧∃ qs,eqG p.2=some qs∧KJ qs)∨(∃ x b',JL Q p.1=some x∧x.c ≠ .ghost∧look h x.s=some b'∧∃ qs,eqB Q x.c b' p.2=some qs∧KJ qs)
 | [],_,_,_,p,hp=>by cases hp
 | (i,b)::l,ps,he,ha,p,hp=>by
  simp only[eqH]at he;split at he<;>(try (cases he;done))
  ·rename_i pp ss hf;split at he<;>(try (cases he;done))
   rename_i q1 q2 h1 h2;simp only[qsI]at he;subst he;obtain⟨a1,a2⟩:=jd.1 ha;rcases List.mem_cons.1 hp with rfl|hp
   ·exact .inl ⟨_,hf,rfl,q1,h1,a1⟩
   ·exact QFu h2 a2 p hp
  ·rename_i pp ss cc hng hf;split at he<;>(try (cases he;done))
   rename_i b' hb';split at he<;>(try (cases he;done))
   rename_i q1 q2 h1 h2;simp only[qsI]at he;subst he;obtain⟨a1,a2⟩:=jd.1 ha;rcases List.mem_cons.1 hp with rfl|hp
   ·exact .inr ⟨_,b',hf,fun e=>hng e,hb',q1,h1,a1⟩
   ·exact QFu h2 a2 p hp
theorem QIZ{Q:List Pr}:∀{l:List (Nat×Blk)},HB Q l=true→∀ p∈l,∀ p'∈l,p.1≠p'.1→∀ x x',JL Q p.1=some x→JL Q p'.1=some x'→x.c ≠ .ghost→x'.c ≠ .ghost→x.s≠x'.s
 | [],_,p,hp,_,_,_,_,_,_,_,_,_=>by cases hp
 | (i,b)::l,h,p,hp,p',hp',hne,x,x',hx,hx',g,g'=>by
  simp only[HB,qbA]at h
  have one:∀(i:Nat) (y:Pr),JL Q i=some y→y.c ≠ .ghost→(match JL Q i with
    | some ⟨_,s,c⟩=>l.all fun p=>match JL Q p.1 with
     | some ⟨_,s',c'⟩=>(match c,c' with
      | .ghost,_=>true
      | _,.ghost=>true
      | _,_ => !(Nat.beq s s'))
     | none=>false
    | none=>false)=true→∀ z∈l,∀ y',JL Q z.1=some y'→y'.c ≠ .ghost→y.s≠y'.s:=by
   intro i y hy hg h1 z hz y' hy' hg' e;rw[hy]at h1;simp only[List.all_eq_true]at h1;have:=h1 z hz;rw[hy']at this;obtain⟨_,s,c⟩:=y;obtain⟨_,s',c'⟩:=y';simp only at e hg hg' this;subst e;cases c<;>cases c'<;>simp_all
  rcases List.mem_cons.1 hp with rfl|hp<;>rcases List.mem_cons.1 hp' with rfl|hp'
  ·exact absurd rfl hne
  ·exact one i x hx g h.1 p' hp' x' hx' g'
  ·exact fun e=>one i x' hx' g' h.1 p hp x hx g e.symm
  ·exact QIZ h.2 p hp p' hp' hne x x' hx hx' g g'
theorem QIo{r r':Nat→Loc}{f:Nat→AV}:∀{live:List (Nat×AV)},AV.denL r (live.map fun p=>f p.1)=AV.denL r' (live.map (·.2))→∀ p∈live,(f p.1).den r=p.2.den r'
 | [],_,p,hp=>by cases hp
 | x::l,h,p,hp=>by
  simp only[List.map_cons,AV.denL,List.cons.injEq]at h;rcases List.mem_cons.1 hp with rfl|hp
  ·exact h.1
  ·exact QIo h.2 p hp
theorem Inv.subW{n0:Nat}{ls:List Nat}{J:JSt}{a:Act}(hI:Inv G st.tm.length r (QL st.tm) (look st.hp) a w)(hs:V3 n0 ls st.tm.length (ls.map (QL st.tm)) st.hp J)(hG:G.n≤n0):∃ g,Rep G J.nid (J.inst g) a w:=by
 obtain⟨ps0,hsub,hall⟩:=hs.eqs;unfold QK at hsub;simp only at hsub;generalize W7 n0 _ _ _ _=Q at hsub;split at hsub<;>(try (cases hsub;done))
 rename_i ps qs e1 e2 hck;simp only[qsI]at hsub;subst hsub;obtain⟨ha1,ha2⟩:=jd.1 hall;simp only[qbA]at hck;obtain⟨hsc,hinj,hlow,hnd,_⟩:=hck;unfold jB at hsc;simp only[List.all_eq_true,qbA,qdE]at hsc;have hz:ls.map (QL st.tm)=J.live.map (fun p=>QL st.tm p.1):=by rw[←hs.slots,List.map_map];rfl
 have hden:=eqL_den (hJ:=J.hp) r _ _ _ e1 ha1;rw[hz]at hden;have hsame:=QIo hden
 have hget:∀ t,QL (J.inst fun t=>a.tmps.getD t undef).tm t=if t<J.len then (match lkS J.live t with|some v=>v|none => .raw (a.tmps.getD t undef))else .tup []:=by
  intro t;have:=QAQ (fun t=>a.tmps.getD t undef) J.live J.len 0 t;rw[Nat.zero_add]at this;exact this
 have hblk:∀ id b,look J.hp id=some b→(QP (Q7 Q J.hp r) id w b∧∀ k,¬ Qh (Q7 Q J.hp r) id b k) ∨
   ∃ x b',JL Q id=some x∧x.c ≠ .ghost∧look st.hp x.s=some b'∧QP (Q7 Q J.hp r) id w b∧(∀ k,Qh (Q7 Q J.hp r) id b k→Qh r x.s b' k)∧(b.own=true→b'.own=true):=by
  intro id b hb;rcases QFu e2 ha2 _ (KM hb)with ⟨x,h1,h2,q1,h3,h4⟩|⟨x,b',h1,h2,h3,q1,h4,h5⟩
  ·refine .inl (QWa h3 h4 ?_);unfold Q7;rw[h1];obtain⟨_,s,c⟩:=x;simp only at h2;subst h2;simp only;rw[hb]
  ·have:=QZq (hJ:=J.hp) (r:=r) (w:=w) (x:=x) h1 h4 h5 (hI.rep _ _ h3);exact .inr ⟨x,b',h1,h2,h3,this.1,this.2.1,this.2.2⟩
 refine⟨fun t=>a.tmps.getD t undef,⟨Q7 Q J.hp r,?_⟩,?_⟩
 ·refine⟨?_,Dfr.none ?_,fun t => ?_,fun id b hb => ?_,fun id b hb=>Xz hb,fun id id' b b' hb hb' hne ho k hk hk' => ?_,fun id hid => ?_,hI.fr,fun id b hb ho k hk => ?_⟩
  ·rw[hI.size,hs.len];exact(QGk _ _ _ _).symm
  ·obtain⟨ds,d1,_,d3⟩:=hI.defers;cases ds with
   | nil=>exact d1
   | cons x ds=>exact(QAJ hnd (d3 x (by simp)).2.1).elim
  ·rw[hget];split
   ·split
    ·rename_i v hv;rw[hI.tm t];exact hsame _ (QAy hv)
    ·rfl
   ·rename_i hlt;rw[hI.tm t];have:QL st.tm t = .tup []:=by unfold QL;rw[List.getElem?_eq_none (by rw[hs.len];omega)];rfl
    rw[this];rfl
  ·rcases hblk id b hb with h1|⟨_,_,_,_,_,h1,_⟩
   ·exact h1.1
   ·exact h1
  ·rcases hblk id b hb with h1|⟨x,c,h1,h2,h3,_,h4,h5⟩
   ·exact h1.2 k hk
   ·rcases hblk id' b' hb' with g1|⟨x',c',g1,g2,g3,_,g4,_⟩
    ·exact g1.2 k hk'
    ·exact hI.sep _ _ c c' h3 g3 (QIZ hinj _ (KM hb) _ (KM hb') hne x x' h1 g1 h2 g2) (h5 ho) k (h4 k hk) (g4 k hk')
  ·rw[←hI.ext id hid];unfold Q7;cases hf:JL Q id with
   | none=>rfl
   | some x=>
    have hp:=QK4 hf;obtain⟨l1,l2⟩:=QOG hlow x (QQw hf) (by rw[hp];omega)
    obtain⟨p,s,c⟩:=x;simp only at hp l1 l2;subst l1;subst l2;subst hp;rfl
  ·rcases hblk id b hb with h1|⟨x,c,h1,h2,h3,_,h4,h5⟩
   ·exact absurd hk (h1.2 k)
   ·exact hI.own _ c h3 (h5 ho) k (h4 k hk)
 ·refine⟨fun t => ?_,fun id b hb=>(hsc.2 _ (KM hb)).1,fun id b hb=>(hsc.2 _ (KM hb)).2⟩;rw[hget];split
  ·split
   ·rename_i v hv;exact hsc.1 _ (QAy hv)
   ·rfl
  ·rfl
theorem Rep.subW{G:Ctx}{n n0:Nat}{ls:List Nat}{st:St}{J:JSt}{a:Act}{w:World}(h:Rep G n st a w)(hs:V3 n0 ls st.tm.length (ls.map (QL st.tm)) st.hp J)(hG:G.n≤n0):∃ g,Rep G J.nid (J.inst g) a w:=by
 obtain⟨⟨r,hI⟩,_⟩:=h;exact hI.subW hs hG
def HT(h:List (Nat×Blk)):List Nat→List (Nat×Blk)
 | []=>[]
 | i::l=>match look h i with
  | some b=>(i,b)::HT h l
  | none=>HT h l
theorem QEF{h:List (Nat×Blk)}:∀{l:List Nat} {id:Nat} {b:Blk},look (HT h l) id=some b→look h id=some b
 | [],_,_,e=>by cases e
 | i::l,id,b,e=>by
  simp only[HT]at e;split at e
  ·rename_i c hc;simp only[K3]at e;split at e
   ·rename_i hi;have hi:i=id:=by simpa using hi
    subst hi;rw[Xz hc]at e;simp only[if_true,qsI]at e;rw[←e];exact hc
   ·exact QEF e
  ·exact QEF e
def Jf(ids:List Nat)(vals:List AV)(h:List (Nat×Blk)):List (Nat×Blk):=HT h (GO 0 h 4 (Xi (AV.idsFromL 0 vals) ids))
theorem qn{vals:List AV}{h:List (Nat×Blk)}{id:Nat}(e:look (Jf ids vals h) id=some b):look h id=some b:=by
 unfold Jf at e;exact QEF e
def QVz:Ex→AV
 | .normal => .nilp
 | .exit id => .ptr id 0 0
 | .ret => .nili
def KS(ids:List Nat)(ls:Ex→List Nat)(e:Ex)(st:St):QD:=match V6 st.hp with
 | true => .leaf (.tup (QVz e :: .ptr st.tm.length 0 0::(ls e).map (QL st.tm))) (Jf ids ((ls e).map (QL st.tm)) st.hp)
 | false => .fail "deferred"
theorem QPY{ls:Ex→List Nat}{Cont:Nat→List AV→List (Nat×Blk)→Prop}{Out:Ex→Nat→List AV→List (Nat×Blk)→Prop}{e:Ex}(h:(KS ids ls e st).den (jx Cont Out)):
  V6 st.hp=true∧((e = .normal∧Cont st.tm.length ((ls e).map (QL st.tm)) (Jf ids ((ls e).map (QL st.tm)) st.hp))∨(e ≠ .normal∧Out e st.tm.length ((ls e).map (QL st.tm)) (Jf ids ((ls e).map (QL st.tm)) st.hp))):=by
 unfold KS at h;split at h
 ·rename_i hd;refine⟨hd,?_⟩;cases e with
  | normal=>exact .inl ⟨rfl,h⟩
  | exit id=>exact .inr ⟨by simp,h⟩
  | ret=>exact .inr ⟨by simp,h⟩
 ·exact h.elim
theorem Rep.near{a:Act}{h':List (Nat×Blk)}(hs:∀ id b,look h' id=some b→look st.hp id=some b)(hd:V6 st.hp=true)(h:Rep G n st a w):Rep G n { st with hp:=h' } a w:=by
 obtain⟨⟨r,hI⟩,hS⟩:=h;refine⟨⟨r,hI.size,Dfr.none ?_,hI.tm,fun id b hb=>hI.rep id b (hs id b hb),fun id b hb=>Xz hb,fun id id' b b' h1 h2=>hI.sep id id' b b' (hs _ _ h1) (hs _ _ h2),hI.ext,hI.fr,fun id b hb=>hI.own id b (hs id b hb)⟩,hS.tm,fun id b hb=>hS.out id b (hs id b hb),fun id b hb=>hS.blk id b (hs id b hb)⟩;obtain⟨ds,d1,_,d3⟩:=hI.defers;cases ds with
 | nil=>exact d1
 | cons x ds=>exact(QAJ hd (d3 x (by simp)).2.1).elim
section
variable {σ:Type} (I:σ→JSt) (pre:σ→Prop) (μ:σ→Nat) (R:σ→Ex→JSt→Prop) (n0:Nat) (ls:Ex→List Nat) (ids:List Nat)
def QOf(s:σ)(n:Nat)(vs:List AV)(h:List (Nat×Blk)):Prop:=∃ s',pre s'∧μ s'<μ s∧(∀ e J,R s' e J→R s e J)∧V3 n0 (ls .normal) n vs h (I s')
def QKh(s:σ)(e:Ex)(n:Nat)(vs:List AV)(h:List (Nat×Blk)):Prop:=∃ J,R s e J∧V3 n0 (ls e) n vs h J
structure Ji (E:Env) (H:σ→Hnd) (body:Code):Prop where
 round:∀ s g,pre s→XE (jx (QOf I pre μ R n0 ls s) (QKh R n0 ls s)) (exec E (H s) body ((I s).inst g) (KS ids ls))
variable {I pre μ R n0 ls ids}
theorem QMw{E:Env}(hE:E.Sound){H:σ→Hnd}{G:Ctx}(hG:G.n≤n0){body:Code}(hH:∀ s,pre s→KH E G (H s) body)(hn:∀ s,pre s→n0≤(I s).nid)(hR:∀ s e J,R s e J→n0≤J.nid)(hr:Ji I pre μ R n0 ls ids E H body){Q:Exit→Act→World→Prop}:∀(n:Nat) (s:σ) (g:Nat→Value) (a:Act) (w:World),μ s<n→pre s→Rep G (I s).nid ((I s).inst g) a w →
  (∀ e J g a' w',R s e J→n0≤J.nid→Rep G J.nid (J.inst g) a' w'→Q e.to a' w')→Code.roundsIn (FW G.rd) 0 E.P body Q n a w
 | 0,s,g,a,w,hm,_,_,_=>by omega
 | n+1,s,g,a,w,hm,hp,hrep,hQ=>by
  rw[roundsIn_succ];have hh:=hH s hp;have h0:=(hr.round s g hp).den;generalize H s=Hs at hh h0;have key:J5 E G body (exec E Hs body):=jM hE hh.call hh.yield body hh.loop;refine key ((I s).inst g) (KS ids ls) _ _ a w (Nat.le_trans hG (hn s hp)) h0 hrep ?_;intro e st' a' w' hn' hden hrep';obtain⟨hd,hden⟩:=QPY hden;have hnear:=Rep.near (h':=Jf ids ((ls e).map (QL st'.tm)) st'.hp) (fun id b hb=>qn hb) hd hrep';rcases hden with ⟨rfl,s',h1,h2,h3,h4⟩|⟨hne,J,h1,h2⟩
  ·obtain⟨g',hr'⟩:=Rep.subW hnear h4 hG;exact QMw hE hG hH hn hR hr n s' g' a' w' (by omega) h1 hr' (fun e J g a' w' hR=>hQ e J g a' w' (h3 e J hR))
  ·obtain⟨g',hr'⟩:=Rep.subW hnear h2 hG;have:=hQ e J g' a' w' h1 (hR _ _ _ h1) hr';cases e with
   | normal=>exact absurd rfl hne
   | exit id=>exact this
   | ret=>exact this
end
def QFt:List Prop→QD→QD
 | [],t=>t
 | p::l,t => .ask p (QFt l t)
theorem QHb{T:AV→List (Nat×Blk)→Prop}{t:QD}:∀{l:List Prop},(QFt l t).den T→KJ l∧t.den T
 | [],h=>⟨trivial,h⟩
 | p::l,h=>by
  obtain⟨h1,h2⟩:=h;obtain⟨h3,h4⟩:=QHb h2;exact⟨⟨h1,h3⟩,h4⟩
def QHP(K:Ex→St→QD):List (Prop×Ex×JSt)→QD
 | [] => .fail "no end"
 | [x] => .asm x.1 (.all fun g=>K x.2.1 (x.2.2.inst g))
 | x::y::l => .both (.asm x.1 (.all fun g=>K x.2.1 (x.2.2.inst g))) (QHP K (y::l))
theorem QEJ{K:Ex→St→QD}{T:AV→List (Nat×Blk)→Prop}:∀{l:List (Prop×Ex×JSt)},(QHP K l).den T→∀ x∈l,x.1→∀ g,(K x.2.1 (x.2.2.inst g)).den T
 | [],h,x,hx=>by cases hx
 | [y],h,x,hx=>by
  simp only[List.mem_singleton]at hx;subst hx;exact h
 | y::z::l,h,x,hx=>by
  obtain⟨h1,h2⟩:=h;rcases List.mem_cons.1 hx with rfl|hx
  ·exact h1
  ·exact QEJ h2 x hx
def KN(n0:Nat)(ids:List Nat)(J0:JSt)(X:List (Prop×Ex×JSt))(st:St)(K:Ex→St→QD):QD:=
 match Nat.beq st.tm.length J0.len&&V6 st.hp with
 | true=>(match QK n0 ((J0.live.map (·.1)).map (QL st.tm)) (Jf ids ((J0.live.map (·.1)).map (QL st.tm)) st.hp) J0 with
  | some ps=>QFt ps (QHP K X)
  | none => .fail "a loop's beginning")
 | false => .fail "a loop's slots"
theorem Ju{σ:Type}{I:σ→JSt}{pre:σ→Prop}{μ:σ→Nat}{R:σ→Ex→JSt→Prop}{n0:Nat}{ls:Ex→List Nat}{ids':List Nat}{E:Env}(hE:E.Sound){H:σ→Hnd}(hG:G.n≤n0){body:Code}(hH:∀ s,pre s→KH E G (H s) body)(hn:∀ s,pre s→n0≤(I s).nid)(hR:∀ s e J,R s e J→n0≤J.nid)(hr:Ji I pre μ R n0 ls ids E H body){s0:σ}(hp:pre s0){X:List (Prop×Ex×JSt)}(hX:∀ e J,R s0 e J→∃ x∈X,x.1∧x.2.1=e∧x.2.2=J):
  J5 E G (.loop body) (KN n0 ids' (I s0) X):=by
 intro st K T Q a w hn' h hrep hQ;unfold KN at h;split at h
 rotate_left
 ·exact h.elim
 rename_i hl;split at h
 rotate_left
 ·exact h.elim
 rename_i ps hps;simp only[qbA]at hl;have hlen:=Nat.eq_of_beq_eq_true hl.1;obtain⟨ha,hx⟩:=QHb h;have hnear:=Rep.near (h':=Jf ids' (((I s0).live.map (·.1)).map (QL st.tm)) st.hp) (fun id b hb=>qn hb) hl.2 hrep;have hso:V3 n0 ((I s0).live.map (·.1)) st.tm.length (((I s0).live.map (·.1)).map (QL st.tm)) (Jf ids' (((I s0).live.map (·.1)).map (QL st.tm)) st.hp) (I s0):={ slots:=rfl,len:=hlen,eqs:=⟨ps,hps,ha⟩ };obtain⟨g,hr'⟩:=Rep.subW hnear hso hG;refine wpIn_loop_rounds (μ s0+1) (QMw hE hG hH hn hR hr _ s0 g a w (Nat.lt_succ_self _) hp hr' ?_);intro e J g' a' w' hRe hnJ hrJ
 obtain⟨x,h1,h2,h3,h4⟩:=hX e J hRe;have:=QEJ hx x h1 h2 g';rw[h3,h4]at this;exact hQ e (J.inst g') a' w' (Nat.le_trans hG hnJ) this hrJ
def Blk.viewR(q:Nat→Nat):Blk→Blk→Prop
 | .cellsR z t l,.cellsR z' t' l'=>z=z'∧t=t'∧AV.sameRL q l l'
 | .rowlR _ z l,.arr z' n g=>z=z'∧n=l.length∧l.all (AV.allL fun _=>false)=true∧∀ i,i<n→l[i]? = some (g i)
 | .arr z n g,.arr z' n' g'=>z=z'∧n=n'∧g=g'
 | _,_=>False
def subW(q:Nat→Nat)(h:List (Nat×Blk)):List (Nat×Blk)→Prop
 | []=>True
 | (id,b)::l=>(∃ b',look h (q id)=some b'∧b'.viewR q b)∧subW q h l
def QAp(n:Nat)(args:List AV)(hp:List (Nat×Blk)):Bool:=AV.allL (·<n) args&&hp.all fun p=>decide (p.1<n)&&p.2.all (·<n) && !p.2.own
theorem QYH{q:Nat→Nat}{args':List AV}{hp':List (Nat×Blk)}(hs:QAp n args' hp'=true)(h:∀ p∈hp',QP (fun i=>r (q i)) p.1 w p.2):
  KW ⟨w,fun _=>False,n,fun i=>r (q i),none⟩ n (fun i=>r (q i)) hp' w∧AV.allL (·<n) args'=true:=by
 unfold QAp at hs;simp only[qbA,List.all_eq_true,qdE,Bool.not_eq_true']at hs;refine⟨⟨fun id b hb=>h _ (KM hb),fun id id' b b' hb _ _ ho => ?_,fun _ _=>rfl,Fr.refl _ _,fun id b hb ho => ?_,fun id b hb=>(hs.2 _ (KM hb)).1.1,fun id b hb=>(hs.2 _ (KM hb)).1.2⟩,hs.1⟩
 ·rw[(hs.2 _ (KM hb)).2]at ho;cases ho
 ·rw[(hs.2 _ (KM hb)).2]at ho;cases ho
class QA (α:Type) where
 ks:List CK
 enc:α→Nat→Int
 dec:(Nat→Int)→α
 ok:∀ f,cellsOf ks 0 (enc (dec f))=cellsOf ks 0 f
instance : QA Int where
  ks := [.int .i64]
  enc n _ := n
  dec f := f 0
  ok _ := rfl
instance : QA Bool where
  ks := [.bool]
  enc b _ := cond b 1 0
  dec f := decide (f 0 = 1)
  ok f := by
    simp only[cellsOf,mkC]
    by_cases h : f 0 = 1 <;> simp[h]
structure Rw (α:Type) where
 n:Nat
 get:Nat→α
def QVe(k:Nat)(v:AV)(u:List (Nat×Blk)):Prop:=v.all (fun i=>i==k)=true∧∀ q∈u,q.1=k∧q.2.own=false∧q.2.all (fun _=>false)=true
class Q3 (α:Type) where
 val:Nat→α→AV
 blk:Nat→α→List (Nat×Blk)
 dec:AV→(Nat→Option Blk)→Option (Bool×α)
 ok:∀ v lk p x,dec v lk=some (p,x)→p=true→(∀ k,QVe k (val k x) (blk k x))∧∀(r:Nat→Loc) (w:World),(∀ id b,lk id=some b→QP r id w b)→∃ l:Loc,∀(k:Nat) (r':Nat→Loc),r' k=l→(val k x).den r'=v.den r∧∀ q∈blk k x,QP r' q.1 w q.2
instance {α : Type} [Enc α] : Q3 α where
  val _ x := Enc.enc x
  blk _ _ := []
  dec v _ := match (Enc.dec v : Option α)with
    | some x => some (true,x)
    | none => none
  ok v lk p x h hp := by
    split at h <;> (try (cases h; done))
    rename_i y hy;simp only[qsI,qpI]at h;obtain⟨rfl,rfl⟩ := h;obtain⟨h1,h2⟩ := Enc.ok _ _ hy;exact⟨fun k => ⟨all_mono (fun _ hf => by cases hf) _ h2,by simp⟩,fun r w _ => ⟨Loc.none 0,fun k r' _ => ⟨by rw[J7 (p := fun _ => false) (r := r') (r' := r) (fun _ hf => by cases hf) _ h2,h1 r],by simp⟩⟩⟩
theorem QNh{m e:Nat}(h:Jy w r l ks.length n (Qf ks g))(hle:e+m≤n)(hg:∀ i,i<m→Qf ks g' i=Qf ks g (i+e))(h1:l'.blk=l.blk)(h2:l'.off=l.off+e*ks.length)(h3:l'.nil=true→l.nil=true)(h4:∀ k,l.foot k→l'.foot k):Jy w r' l' ks.length m (Qf ks g'):=by
 refine zK (r:=r) (fun hn=>by have:=h.1 (h3 hn);omega) (fun i hi=>by rw[h1];exact h4 _ (h.2 (i+e) (by omega)).1) fun i hi j v hv => ?_
 rw[hg i hi]at hv;have:=((h.2 (i+e) (by omega)).2.2 j v hv).2
 rw[h1,h2,Nat.add_assoc l.off,←Nat.add_mul,Nat.add_comm e i];exact this
def QHG(ks:List CK)(v:AV)(lk:Nat→Option Blk):Option (Bool×Nat×(Nat→Nat→Int)):=match v with
 | .slz id e m _=>(match lk id with
  | some (.rowz _ _ ks' n g)=>(match ksB ks' ks with
   | true=>some (decide (m+e≤n),m,fun i=>g (i+e))
   | false=>none)
  | some (.frz ks' n g)=>(match ksB ks' ks with
   | true=>some (decide (m+e≤n),m,fun i=>g (i+e))
   | false=>none)
  | _=>none)
 | .slice _ id e m _=>(match lk id with
  | some (.rowlR _ z l)=>(match Nat.beq z ks.length&&(l.all (XP ks)&&decide (e+m≤l.length))with
   | true=>some (true,m,fun i=>QR l 0 (i+e))
   | false=>none)
  | some (.cellsR z _ l)=>(match Nat.beq z ks.length&&((VS z (e+m) l).all (XP ks)&&decide ((e+m)*z≤l.length))with
   | true=>some (true,m,fun i=>QR (VS z (e+m) l) 0 (i+e))
   | false=>none)
  | some (.frz ks' n g)=>(match ksB ks' ks with
   | true=>some (decide (m+e≤n),m,fun i=>g (i+e))
   | false=>none)
  | _=>none)
 | .nils=>some (true,0,fun _ _=>0)
 | _=>none
theorem QIV(sz:Nat):∀(n:Nat) (l:List AV),n*sz≤l.length→VS sz n l=VS sz n (l.take (n*sz))
 | 0,_,_=>rfl
 | n+1,l,h=>by
  have e:(n+1)*sz=sz+n*sz:=by rw[Nat.add_mul];omega
  rw[VS,VS,List.take_take,Nat.min_eq_left (by omega),QIV sz n (l.drop sz) (by rw[List.length_drop];omega)]
  congr 2;rw[e,List.drop_take,Nat.add_sub_cancel_left]
theorem QW3{lk:Nat→Option Blk}{p:Bool}{m:Nat}(h:QHG ks v lk=some (p,m,g))(hp:p=true)(hg:∀ i,Qf ks g' i=Qf ks g i)(hb:∀ id b,lk id=some b→QP r id w b):
  ∃ l:Loc,∀(k:Nat) (r':Nat→Loc),r' k=l→(AV.slz k 0 m (.of 0)).den r'=v.den r∧QP r' k w (.frz ks m g'):=by
 unfold QHG at h;split at h
 ·rename_i id e mm cp
  have fin:∀(n:Nat) (g0:Nat→Nat→Int),e+mm≤n→(r id).esz=ks.length→(∀ k,(r id).foot k→k<w.heap.size)→Jy w r (r id) ks.length n (Qf ks g0)→(∀ i,Qf ks g' i=Qf ks g0 (i+e)) →
    ∃ l:Loc,∀(k:Nat) (r':Nat→Loc),r' k=l→(AV.slz k 0 mm (.of 0)).den r'=(AV.slz id e mm cp).den r∧QP r' k w (.frz ks mm g'):=by
   intro n g0 hle hez hft hR hgg;refine⟨{ r id with off:=(r id).off+e*(r id).esz,cap:=cp.den (r id).cap },fun k r' hr=>⟨?_,?_⟩⟩
   ·simp only[AV.den,hr,Loc.base,Loc.room,Cap.den];cases (r id).nil<;>simp
   ·simp only[QP];rw[hr];exact⟨hez,hft,QNh hR hle (fun i _=>hgg i) rfl (by rw[hez]) (fun h=>h) (fun _ h=>h)⟩
  split at h<;>(try (cases h;done))
  ·rename_i o ty ks' n g0 hlk;split at h<;>(try (cases h;done))
   rename_i hk;have:=Y8 hk;subst this;simp only[qsI,qpI]at h;obtain⟨rfl,rfl,rfl⟩:=h;have hbb:=hb _ _ hlk;have hb0:K8 r id w ty ks'.length n (Qf ks' g0):=hbb;exact fin n g0 (by have:=qdt hp;omega) hb0.2.1 (hbb.lt rfl) (QJT hb0) hg
  ·rename_i ks' n g0 hlk;split at h<;>(try (cases h;done))
   rename_i hk;have:=Y8 hk;subst this;simp only[qsI,qpI]at h;obtain⟨rfl,rfl,rfl⟩:=h;have hbb:=hb _ _ hlk;exact fin n g0 (by have:=qdt hp;omega) hbb.1 hbb.2.1 hbb.2.2 hg
 ·rename_i c id e mm cp
  have fin:∀(foot:Nat→Prop),(r id).esz=ks.length→(∀ k,foot k→k<w.heap.size)→(∀ l':Loc,l'.blk=(r id).blk→l'.off=(r id).off+e*(r id).esz→l'.nil=false→l'.foot=foot→Jy w r l' ks.length mm (Qf ks g')) →
    ∃ l:Loc,∀(k:Nat) (r':Nat→Loc),r' k=l→(AV.slz k 0 mm (.of 0)).den r'=(AV.slice c id e mm cp).den r∧QP r' k w (.frz ks mm g'):=by
   intro foot hez hft hR;refine⟨⟨(r id).blk,(r id).off+e*(r id).esz,(r id).esz,cp.den (r id).cap,false,none,foot⟩,fun k r' hr=>⟨?_,?_⟩⟩
   ·simp only[AV.den,hr,Loc.base,Loc.room,Cap.den];simp
   ·simp only[QP];rw[hr];refine⟨hez,hft,?_⟩
    exact QCZ (hR ⟨(r id).blk,(r id).off+e*(r id).esz,(r id).esz,cp.den (r id).cap,false,none,foot⟩ rfl rfl rfl rfl) (qlr _) (fun i _=>by
     have:∀(n j:Nat) (f:Nat→Int),eqF n j f f:=by
      intro n
      induction n with
      | zero=>intro _ _;trivial
      | succ n ih=>intro j f;exact⟨rfl,ih _ _⟩
     exact this _ _ _) rfl rfl (fun h=>h) (fun _ h=>h)
  have rows:∀(L:List (List AV)) (bl:List Value) (ty:TypeId),bk w (r id).blk=some (.cells bl.toArray ty (0,0))→(r id).off=0→(r id).esz=ks.length→L.all (XP ks)=true→e+mm≤L.length→(∀ i x j u,L[i]? = some x→x[j]? = some u→bl[i*ks.length+j]? = some (u.den r))→(∀ i,Qf ks g' i=Qf ks (QR L 0) (i+e)) →
    ∃ l:Loc,∀(k:Nat) (r':Nat→Loc),r' k=l→(AV.slz k 0 mm (.of 0)).den r'=(AV.slice c id e mm cp).den r∧QP r' k w (.frz ks mm g'):=by
   intro L bl ty hbk hoff hez hall hle hcell hgg;refine fin (fun k=>k=(r id).blk) hez (fun k hk=>by rw[hk];exact XL hbk) fun l' h1 h2 h3 h4 => ?_
   refine zK (r:=r) (fun hn=>by rw[h3]at hn;cases hn) (fun i hi=>by rw[h4,h1]) fun i hi j v hv => ?_
   rw[hgg i]at hv;have hx:=List.getElem?_eq_getElem (l:=L) (i:=i+e) (by omega)
   have hd:=QBx r L 0 (i+e) _ hall hx;rw[Nat.zero_add]at hd;obtain⟨u,hu,hd⟩:=QD8 hd.symm hv;rw[h1,h2,hoff,hez,Nat.zero_add,X6 hbk,←hd,←Nat.add_mul,Nat.add_comm e i];exact hcell _ _ _ _ hx hu
  split at h<;>(try (cases h;done))
  ·rename_i ty z l hlk;split at h<;>(try (cases h;done))
   rename_i hc;simp only[qbA,qdE]at hc;obtain⟨hz,hall,hle⟩:=hc;have hz:=Nat.eq_of_beq_eq_true hz;subst hz;simp only[qsI,qpI]at h;obtain⟨rfl,rfl,rfl⟩:=h;obtain⟨ho,hez,hlen,hcap,rest,hrest,hbk⟩:=hb _ _ hlk;refine rows l _ ty hbk ho hez hall hle (fun i x j u hx hu => ?_) hg;have hl0:=hlen _ (List.mem_of_getElem? hx);have hj:=(List.getElem?_eq_some_iff.1 hu).1;obtain⟨f1,f2⟩:=Wz ks.length l hlen i _ hx j (by omega)
   rw[List.getElem?_append_left (by rw[Kq];exact f1),Q1,List.getElem?_map,f2,hu];rfl
  ·rename_i z ty l hlk;split at h<;>(try (cases h;done))
   rename_i hc;simp only[qbA,qdE]at hc;obtain⟨hz,hall,hle⟩:=hc;have hz:=Nat.eq_of_beq_eq_true hz;subst hz;simp only[qsI,qpI]at h;obtain⟨rfl,rfl,rfl⟩:=h;obtain⟨ho,hez,hbk⟩:=hb _ _ hlk;obtain⟨c1,c2,c3⟩:=QAr ks.length (e+mm) (l.take ((e+mm)*ks.length)) (by rw[List.length_take];omega)
   rw[←QIV ks.length (e+mm) l hle]at c1 c2 c3;refine rows _ _ ty hbk ho hez hall (by rw[c3];exact qlr _) (fun i x j u hx hu => ?_) hg
   have hl0:=c2 _ (List.mem_of_getElem? hx);have hj:=(List.getElem?_eq_some_iff.1 hu).1;obtain⟨f1,f2⟩:=Wz ks.length _ c2 i _ hx j (by omega)
   rw[c1]at f1 f2;rw[List.length_take]at f1;rw[List.getElem?_take_of_lt (by omega)]at f2
   rw[Q1,List.getElem?_map,f2,hu];rfl
  ·rename_i ks' n g0 hlk;split at h<;>(try (cases h;done))
   rename_i hk;have:=Y8 hk;subst this;simp only[qsI,qpI]at h;obtain⟨rfl,rfl,rfl⟩:=h;have hbb:=hb _ _ hlk;have hle:e+mm≤n:=by have:=qdt hp;omega
   refine fin (r id).foot hbb.1 hbb.2.1 fun l' h1 h2 h3 h4 => ?_;exact QNh hbb.2.2 hle (fun i _=>hg i) h1 (by rw[h2,hbb.1]) (fun hn=>by rw[h3]at hn;cases hn) (fun k hk=>by rw[h4];exact hk)
 ·simp only[qsI,qpI]at h;obtain⟨rfl,rfl,rfl⟩:=h;refine⟨Loc.none ks.length,fun k r' hr=>⟨?_,?_⟩⟩
  ·simp only[AV.den,hr];rfl
  ·simp only[QP];rw[hr];exact⟨rfl,fun k hk=>hk.elim,fun _=>rfl,fun i hi=>by omega⟩
 ·cases h
instance {α : Type} [QA α] : Q3 (Rw α) where
  val k x := .slz k 0 x.n (.of 0)
  blk k x := [(k,.frz (QA.ks α) x.n fun i => QA.enc (x.get i))]
  dec v lk := match QHG (QA.ks α) v lk with
    | some (p,m,g) => some (p,⟨m,fun i => QA.dec (g i)⟩)
    | none => none
  ok v lk p x h hp := by
    split at h <;> (try (cases h; done))
    rename_i p' m g hd;simp only[qsI,qpI]at h;obtain⟨rfl,rfl⟩ := h;refine⟨fun k => ⟨by simp[AV.all],fun q hq => ?_⟩,fun r w hb => ?_⟩
    · simp only[List.mem_singleton]at hq; subst hq; exact⟨rfl,rfl,rfl⟩
    · obtain⟨l,hl⟩ := QW3 (g' := fun i => QA.enc (QA.dec (g i) : α)) hd hp (fun i => QA.ok (g i)) hb
      refine⟨l,fun k r' hr => ⟨(hl k r' hr).1,fun q hq => ?_⟩⟩;simp only[List.mem_singleton]at hq; subst hq; exact(hl k r' hr).2
class QX (α:Type) where
 len:Nat
 vals:Nat→α→List AV
 blks:Nat→α→List (Nat×Blk)
 dec:List AV→(Nat→Option Blk)→Option (Bool×α)
 ok:∀ vs lk p x,dec vs lk=some (p,x)→p=true→(∀ k,AV.allL (fun i=>decide (k≤i∧i<k+len)) (vals k x)=true∧∀ q∈blks k x,(k≤q.1∧q.1<k+len)∧q.2.own=false∧q.2.all (fun _=>false)=true) ∧
  ∀(r:Nat→Loc) (w:World),(∀ id b,lk id=some b→QP r id w b)→∃ L:Nat→Loc,∀(k:Nat) (r':Nat→Loc),(∀ i,i<len→r' (k+i)=L i)→AV.denL r' (vals k x)=AV.denL r vs∧∀ q∈blks k x,QP r' q.1 w q.2
instance : QX Unit where
  len := 0
  vals _ _ := []
  blks _ _ := []
  dec | [],_ => some (true,()) | _,_ => none
  ok vs lk p x h hp := by
    split at h <;> (try (cases h; done))
    exact⟨fun k => ⟨rfl,by simp⟩,fun r w _ => ⟨fun _ => Loc.none 0,fun k r' _ => ⟨rfl,by simp⟩⟩⟩
instance {α β : Type} [Q3 α] [QX β] : QX (α × β) where
  len := QX.len β + 1
  vals k x := Q3.val k x.1 :: QX.vals (k + 1) x.2
  blks k x := Q3.blk k x.1 ++ QX.blks (k + 1) x.2
  dec | v :: l,lk => (match Q3.dec v lk,QX.dec l lk with
        | some (p,a),some (q,b) => some (p && q,a,b)
        | _,_ => none)
      | _,_ => none
  ok vs lk p x h hp := by
    split at h <;> (try (cases h; done))
    split at h <;> (try (cases h; done))
    rename_i v l _ _ p a q b ha hb;simp only[qsI,qpI]at h;obtain⟨rfl,rfl⟩ := h;simp only[qbA]at hp;obtain⟨a1,a2⟩ := Q3.ok v lk p a ha hp.1;obtain⟨b1,b2⟩ := QX.ok l lk q b hb hp.2;refine⟨fun k => ⟨?_,fun z hz => ?_⟩,fun r w hw => ?_⟩
    · simp only[AV.allL,qbA]
      refine⟨all_mono (fun i hi => ?_) _ (a1 k).1,allL_mono (fun i hi => ?_) _ (b1 (k + 1)).1⟩
      · have : i = k := by simpa using hi
        subst this; simp
      · simp only[qdE]at hi ⊢; omega
    · rcases List.mem_append.1 hz with hz | hz
      · obtain⟨c1,c2,c3⟩ := (a1 k).2 z hz
        exact⟨by omega,c2,c3⟩
      · obtain⟨c1,c2,c3⟩ := (b1 (k + 1)).2 z hz
        exact⟨by omega,c2,c3⟩
    · obtain⟨l0,d1⟩ := a2 r w hw
      obtain⟨L,d2⟩ := b2 r w hw;refine⟨fun i => match i with | 0 => l0 | i + 1 => L i,fun k r' hr => ?_⟩
      have e1 := d1 k r' (by have := hr 0 (by omega); simpa using this)
      have e2 := d2 (k + 1) r' (fun i hi => by have := hr (i + 1) (by omega); rw[show k + 1 + i = k + (i + 1) by omega]; exact this)
      refine⟨by simp only[AV.denL,e1.1,e2.1],fun z hz => ?_⟩
      rcases List.mem_append.1 hz with hz | hz
      · exact e1.2 z hz
      · exact e2.2 z hz
abbrev WF(α:Type):=α→Bool×AV×List (Nat×Blk)
def wFC{α:Type}[QX α](F:WF α):FC:=fun args nid all=>(all,fun blks=>match QX.dec args (look (Vm Blk.ro all blks))with
 | some (p,x)=>some ⟨false,p&&(F x).1,(F x).2.1.mapId (·+nid),(F x).2.2.map fun q=>(q.1+nid,q.2.mapId (·+nid))⟩
 | none=>none)
def Km(N:Nat)(v:AV)(u:List (Nat×Blk)):JSt:=⟨1,[(0,v.mapId (·+N))],u.map (fun q=>(q.1+N,q.2.mapId (·+N))),N+8⟩
def QGu(v:AV)(h:List (Nat×Blk)):QD:=match V6 h with
 | true => .leaf v (Jf [] [v] h)
 | false => .fail "deferred"
def Kc(E:Env)(H:Hnd)(fn:Func)(args:List AV)(hp:List (Nat×Blk))(N:Nat):QD:=Vc E H fn args hp N fun v h _=>QGu v h
def XG(N:Nat)(v:AV)(u:List (Nat×Blk))(w:AV)(h:List (Nat×Blk)):Prop:=V3 N [0] 1 [w] h (Km N v u)
theorem QHa{q:Nat→Nat}{id id':Nat}(h:r' id'=r id){k:Nat}:Qh r' id' (b.mapId q) k↔Qh r id b k:=by
 cases b<;>simp only[Blk.mapId,Qh,h]
theorem QKv{N:Nat}{f:Blk→Blk}(hf:∀ b,(f b).live=b.live):∀{u:List (Nat×Blk)} {i:Nat} {b:Blk},look u i=some b→look (u.map fun q=>(q.1+N,f q.2)) (i+N)=some (f b)
 | [],_,_,h=>by cases h
 | (j,c)::u,i,b,h=>by
  simp only[List.map_cons,K3]at h ⊢
  by_cases hj:j=i
  ·subst hj;simp only[beq_self_eq_true,if_true,hf]at h ⊢;split at h
   ·rename_i hl;rw[if_pos hl];simp only[qsI]at h ⊢;rw[h]
   ·cases h
  ·have e1:(j==i)=false:=by simpa using hj
   have e2:(j+N==i+N)=false:=by simp;exact hj
   rw[e1]at h;rw[e2];simp only[Bool.false_eq_true,if_false]at h ⊢;exact QKv hf h
def G6:List (Nat×Blk)→Bool
 | []=>true
 | (i,b)::l=>b.live&&(l.all fun p => !(Nat.beq i p.1))&&G6 l
theorem QEo:∀{u:List (Nat×Blk)},G6 u=true→∀ p∈u,look u p.1=some p.2
 | [],_,p,hp=>by cases hp
 | (i,b)::l,h,p,hp=>by
  simp only[G6,qbA,List.all_eq_true]at h;rcases List.mem_cons.1 hp with rfl|hp
  ·simp[K3,h.1.1]
  ·have hne:(i==p.1)=false:=by
    have:=h.1.2 p hp;cases hb:Nat.beq i p.1 with
    | true=>rw[hb]at this;cases this
    | false=>
     simp only[beq_eq_false_iff_ne,ne_eq];intro e;subst e;simp at hb
   simp only[K3,hne,Bool.false_eq_true,if_false];exact QEo h.2 p hp
structure WOk (v:AV) (u:List (Nat×Blk)):Prop where
 val:v.all (·<8)=true
 new:∀ q∈u,q.1<8∧q.2.own=true∧q.2.all (·<8)=true
 dist:G6 u=true
structure Jr {α:Type} (E:Env) (c:Code) (N:Nat) (F:WF α) (H:α→Hnd):Prop where
 ok:∀ x,(F x).1=true→∀ G:Ctx,G.rd=none→G.n=N→KH E G (H x) c
structure Jo {α:Type} [QX α] (E:Env) (fn:Func) (N:Nat) (F:WF α) (H:α→Hnd):Prop where
 run:∀ x,(F x).1=true→WOk (F x).2.1 (F x).2.2∧XE (XG N (F x).2.1 (F x).2.2) (Kc E (H x) fn (QX.vals 0 x) (QX.blks 0 x) N)
theorem Jx{E:Env}(hE:E.Sound){f:FuncId}{fn:Func}{c:Code}(hf:E.P.funcs[f]? = some fn)(hb:fn.body=some c)(hgo:J3 E.P f=true){α:Type}[QX α]{N:Nat}(hN:QX.len α≤N){H:α→Hnd}{F:WF α}(hl:Jr E c N F H)(hF:Jo E fn N F H):QQ E.P f (wFC F):=by
 refine⟨hgo,fun args nid all r w lk blks eff hH _ hv he hp => ?_⟩;simp only[wFC]at hv he;split at he<;>(try (cases he;done))
 rename_i p x hd;simp only[qsI]at he;subst he;simp only[qbA]at hp;obtain⟨hp1,hp2⟩:=hp;obtain⟨hcl,harg⟩:=QX.ok _ _ _ _ hd hp1;obtain⟨hW,hden⟩:=hF.run x hp2
 have hlk:∀ id b,look (Vm Blk.ro all blks) id=some b→QP r id w b:=by
  intro id b hb;obtain⟨b0,k1,k2⟩:=vM hv _ (KM hb);have k2:b=b0.ro:=k2;rw[k2];exact(hH.rep _ b0 k1).ro
 obtain⟨L,hL⟩:=harg r w hlk;obtain⟨ha,hbl⟩:=hL 0 L (fun i _=>by rw[Nat.zero_add])
 obtain⟨hc1,hc2⟩:=hcl 0
 have hI:KW ⟨w,fun _=>False,N,L,none⟩ N L (QX.blks 0 x) w:=by
  refine⟨fun id b hb=>hbl _ (KM hb),fun id id' b b' hb _ _ ho => ?_,fun _ _=>rfl,Fr.refl _ _,fun id b hb ho => ?_,fun id b hb => ?_,fun id b hb => ?_⟩
  ·have:=(hc2 _ (KM hb)).2.1;simp only at this;rw[ho]at this;cases this
  ·have:=(hc2 _ (KM hb)).2.1;simp only at this;rw[ho]at this;cases this
  ·have:=(hc2 _ (KM hb)).1;simp only at this;omega
  ·exact Blk.all_mono (fun _ hf=>by cases hf) b (hc2 _ (KM hb)).2.2
 have hargs:AV.allL (·<N) (QX.vals 0 x)=true:=allL_mono (fun i hi=>by simp only[qdE]at hi ⊢;omega) _ hc1
 have hd0:=hden.den;unfold Kc at hd0;have:=vR hE hf hb (hl.ok x hp2 ⟨w,fun _=>False,N,L,none⟩ rfl rfl) rfl hI hargs hd0;rw[ha]at this;refine this.mono ?_;rintro e w' ⟨v,h',nid',r1,hT,rfl,hle,hI',hvn⟩;unfold QGu at hT;split at hT
 rotate_left
 ·exact hT.elim
 rename_i hnd;have hT:V3 N [0] 1 [v] (Jf [] [v] h') (Km N (F x).2.1 (F x).2.2):=hT;have hlkn:∀ id b,look (Jf [] [v] h') id=some b→look h' id=some b:=fun id b hb=>qn hb
 have hrep:Rep ⟨w,fun _=>False,N,L,none⟩ nid' ⟨[v],h',nid'⟩ { tmps := #[v.den r1],defers:=[] } w':=by
  refine hI'.toRep (tm:=[v]) (a:={ tmps := #[v.den r1],defers:=[] }) rfl (fun t => ?_) (fun t => ?_) (Dfr.none rfl)
  ·cases t with
   | zero=>rfl
   | succ t=>rfl
  ·cases t with
   | zero=>exact hvn
   | succ t=>rfl
 generalize hJ:Km N (F x).2.1 (F x).2.2=J at hT;generalize Jf [] [v] h'=hn at hT hlkn;have hnear:Rep ⟨w,fun _=>False,N,L,none⟩ nid' ⟨[v],hn,nid'⟩ { tmps := #[v.den r1],defers:=[] } w':=Rep.near (h':=hn) hlkn hnd hrep;have hso:V3 N [0] (⟨[v],hn,nid'⟩:St).tm.length ([0].map (QL (⟨[v],hn,nid'⟩:St).tm)) (⟨[v],hn,nid'⟩:St).hp J:=hT;obtain⟨g,⟨r2,hI2⟩,hS2⟩:=Rep.subW hnear hso (qlr N);subst hJ;have hval:v.den r1=((F x).2.1.mapId (·+N)).den r2:=hI2.tm 0;let rr:Nat→Loc:=fun j=>if inR nid j=true then r2 (j-nid+N)else r j
 have hnew:∀ i,i<8→rr (i+nid)=r2 (i+N):=by
  intro i hi;show(if _ then _ else _)=_
  rw[if_pos (by simp[inR];omega)]
  congr 1;omega
 have key:∀ i,decide (i<8)=true→rr (i+nid)=(fun j=>r2 (j+N)) i:=fun i hi=>hnew i (by simpa using hi)
 have hlook:∀ q∈(F x).2.2,look ((Km N (F x).2.1 (F x).2.2).inst g).hp (q.1+N)=some (q.2.mapId (·+N)):=by
  intro q hq;exact QKv (f:=fun b=>b.mapId (·+N)) (fun b=>Blk.mapId_live _ b) (QEo hW.dist q hq)
 have hft:∀ q∈(F x).2.2,∀ k,Qh rr (q.1+nid) (q.2.mapId (·+nid)) k↔Qh r2 (q.1+N) (q.2.mapId (·+N)) k:=by
  intro q hq k;rw[QHa (r:=fun j=>r2 (j+N)) (id:=q.1) (key q.1 (by have:=(hW.new q hq).1;simpa using this)),QHa (r:=fun j=>r2 (j+N)) (id:=q.1) rfl]
 refine⟨rr,?_,?_⟩
 ·rw[hval,Zv (p:=(·<8)) (r:=fun j=>r2 (j+N)) (r':=r2) (q:=(·+N)) (fun _ _=>rfl) _ hW.val,Zv (p:=(·<8)) (r:=fun j=>r2 (j+N)) (r':=rr) (q:=(·+nid)) key _ hW.val]
 ·refine⟨fun id hid => ?_,fun p hp => ?_,⟨hI'.fr.os,hI'.fr.tape,hI'.fr.output,hI'.fr.size,fun k hk _=>hI'.fr.block k hk (by simp)⟩,fun p hp hin hlv k hk => ?_,fun p hp hin => ?_,fun p hp q hq hin hin' hne ho hlv k hk hk' => ?_⟩
  ·show(if _ then _ else _)=_
   rw[if_neg (by rw[hid];simp)]
  ·obtain⟨q,hq,rfl⟩:=List.mem_map.1 hp;obtain⟨h8,_,hall⟩:=hW.new q hq;have hrep2:=hI2.rep _ _ (hlook q hq)
   have e1:QP (fun j=>r2 (j+N)) q.1 w' q.2:=by
    have:=Blk.mapId_back (p:=(·<8)) (q:=(·+N)) (r:=fun j=>r2 (j+N)) (r':=r2) (fun _ _=>rfl) (id:=q.1) (w:=w') rfl hall hrep2;exact this
   exact Blk.mapId_rep (p:=(·<8)) key (id:=q.1) (w:=w') (key q.1 (by simpa using h8)) hall e1
  ·obtain⟨q,hq,rfl⟩:=List.mem_map.1 hp;have hk2:=(hft q hq k).1 hk;rcases hI2.own _ _ (hlook q hq) (by rw[Blk.mapId_own];exact(hW.new q hq).2.1) k hk2 with h|h
   ·exact h.elim
   ·exact .inl h
  ·obtain⟨q,hq,rfl⟩:=List.mem_map.1 hp;have:=(hW.new q hq).1;simp[inR]at hin;omega
  ·obtain⟨q1,hq1,rfl⟩:=List.mem_map.1 hp;obtain⟨q2,hq2,rfl⟩:=List.mem_map.1 hq;exact hI2.sep _ _ _ _ (hlook q1 hq1) (hlook q2 hq2) (by simp only at hne;omega) (by rw[Blk.mapId_own];exact(hW.new q1 hq1).2.1) k ((hft q1 hq1 k).1 hk) ((hft q2 hq2 k).1 hk')
mutual
theorem QGG(Q:List Pr)(f:Nat→Nat):∀ u v:AV,u.same v→∃ ps,eqV Q u (v.mapId f)=some ps∧KJ ps
 | .int ..,v,h=>by
  cases v<;>simp only[AV.same]at h
  obtain⟨rfl,rfl⟩:=h;rename_i c k n c';exact⟨[n=n],by simp only[AV.mapId,eqV,QFC,beq_self_eq_true],rfl,trivial⟩
 | .bool ..,v,h=>by
  cases v<;>simp only[AV.same]at h
  subst h;exact⟨_,rfl,rfl,trivial⟩
 | .nilp,v,h=>by cases v<;>simp only[AV.same]at h;exact⟨_,rfl,trivial⟩
 | .nils,v,h=>by cases v<;>simp only[AV.same]at h;exact⟨_,rfl,trivial⟩
 | .nilm,v,h=>by cases v<;>simp only[AV.same]at h;exact⟨_,rfl,trivial⟩
 | .nilf,v,h=>by cases v<;>simp only[AV.same]at h;exact⟨_,rfl,trivial⟩
 | .nili,v,h=>by cases v<;>simp only[AV.same]at h;exact⟨_,rfl,trivial⟩
 | .str ..,v,h=>by
  cases v<;>simp only[AV.same]at h
  subst h;exact⟨_,rfl,rfl,trivial⟩
 | .ifc t u,v,h=>by
  cases v<;>simp only[AV.same]at h
  obtain⟨rfl,h⟩:=h;obtain⟨ps,h1,h2⟩:=QGG Q f u _ h;exact⟨(t=t)::ps,by simp only[AV.mapId,eqV];rw[h1],rfl,h2⟩
 | .agg l,v,h=>by
  cases v<;>simp only[AV.same]at h
  exact eqL_same Q f l _ h
 | .tup l,v,h=>by
  cases v<;>simp only[AV.same]at h
  exact eqL_same Q f l _ h
 | .ptr ..,v,h=>by cases v<;>simp only[AV.same]at h
 | .addr ..,v,h=>by cases v<;>simp only[AV.same]at h
 | .slice ..,v,h=>by cases v<;>simp only[AV.same]at h
 | .slz ..,v,h=>by cases v<;>simp only[AV.same]at h
 | .map ..,v,h=>by cases v<;>simp only[AV.same]at h
 | .yld ..,v,h=>by cases v<;>simp only[AV.same]at h
 | .fn ..,v,h=>by cases v<;>simp only[AV.same]at h
 | .raw ..,v,h=>by cases v<;>simp only[AV.same]at h
 | .opt ..,v,h=>by cases v<;>simp only[AV.same]at h
 | .mth ..,v,h=>by cases v<;>simp only[AV.same]at h
 | .alt ..,v,h=>by cases v<;>simp only[AV.same]at h
theorem eqL_same(Q:List Pr)(f:Nat→Nat):∀ u v:List AV,AV.sameL u v→∃ ps,eqL Q u (AV.mapIdL f v)=some ps∧KJ ps
 | [],v,h=>by cases v<;>simp only[AV.sameL]at h;exact⟨_,rfl,trivial⟩
 | x::l,v,h=>by
  cases v<;>simp only[AV.sameL]at h
  obtain⟨p1,a1,a2⟩:=QGG Q f x _ h.1;obtain⟨p2,b1,b2⟩:=eqL_same Q f l _ h.2;exact⟨p1++p2,by simp only[AV.mapIdL,eqL];rw[a1,b1],jd.2 ⟨a2,b2⟩⟩
end
mutual
theorem QGB(f:Nat→Nat):∀ u v:AV,u.same v→prV u (v.mapId f)=[]∧(v.mapId f).all (fun _=>false)=true
 | .int ..,v,h=>by cases v<;>simp only[AV.same]at h;exact⟨rfl,rfl⟩
 | .bool ..,v,h=>by cases v<;>simp only[AV.same]at h;exact⟨rfl,rfl⟩
 | .nilp,v,h=>by cases v<;>simp only[AV.same]at h;exact⟨rfl,rfl⟩
 | .nils,v,h=>by cases v<;>simp only[AV.same]at h;exact⟨rfl,rfl⟩
 | .nilm,v,h=>by cases v<;>simp only[AV.same]at h;exact⟨rfl,rfl⟩
 | .nilf,v,h=>by cases v<;>simp only[AV.same]at h;exact⟨rfl,rfl⟩
 | .nili,v,h=>by cases v<;>simp only[AV.same]at h;exact⟨rfl,rfl⟩
 | .str ..,v,h=>by cases v<;>simp only[AV.same]at h;exact⟨rfl,rfl⟩
 | .ifc t u,v,h=>by cases v<;>simp only[AV.same]at h;exact QGB f u _ h.2
 | .agg l,v,h=>by cases v<;>simp only[AV.same]at h;exact prL_same f l _ h
 | .tup l,v,h=>by cases v<;>simp only[AV.same]at h;exact prL_same f l _ h
 | .ptr ..,v,h=>by cases v<;>simp only[AV.same]at h
 | .addr ..,v,h=>by cases v<;>simp only[AV.same]at h
 | .slice ..,v,h=>by cases v<;>simp only[AV.same]at h
 | .slz ..,v,h=>by cases v<;>simp only[AV.same]at h
 | .map ..,v,h=>by cases v<;>simp only[AV.same]at h
 | .yld ..,v,h=>by cases v<;>simp only[AV.same]at h
 | .fn ..,v,h=>by cases v<;>simp only[AV.same]at h
 | .raw ..,v,h=>by cases v<;>simp only[AV.same]at h
 | .opt ..,v,h=>by cases v<;>simp only[AV.same]at h
 | .mth ..,v,h=>by cases v<;>simp only[AV.same]at h
 | .alt ..,v,h=>by cases v<;>simp only[AV.same]at h
theorem prL_same(f:Nat→Nat):∀ u v:List AV,AV.sameL u v→prL u (AV.mapIdL f v)=[]∧AV.allL (fun _=>false) (AV.mapIdL f v)=true
 | [],v,h=>by cases v<;>simp only[AV.sameL]at h;exact⟨rfl,rfl⟩
 | x::l,v,h=>by
  cases v<;>simp only[AV.sameL]at h
  obtain⟨a1,a2⟩:=QGB f x _ h.1;obtain⟨b1,b2⟩:=prL_same f l _ h.2;exact⟨by simp only[AV.mapIdL,prL];rw[a1,b1];rfl,by simp only[AV.mapIdL,AV.allL,a2,b2];rfl⟩
end
theorem JE{N:Nat}{u:AV}{h:List (Nat×Blk)}(hs:u.same v)(hd:V6 h=true):XG N v [] u h:=by
 refine{ slots:=rfl,len:=rfl,eqs := ?_ };obtain⟨p1,p2⟩:=QGB (·+N) u v hs;obtain⟨ps,e1,e2⟩:=QGG (W7 N [u] [v.mapId (·+N)] h []) (·+N) u v hs;refine⟨ps++[]++[],?_,by simpa using e2⟩
 have hsc:jB (Km N v [])=true:=by
  simp only[jB,Km,List.map_nil,List.all_cons,List.all_nil,Bool.and_true];exact all_mono (fun _ hf=>by cases hf) _ p2
 have hu:W7 N [u] [v.mapId (·+N)] h []=[]:=by
  simp only[W7,prL,p1,QCd,GH,QCm,List.flatMap_nil,List.append_nil]
 rw[hu]at e1;unfold QK;have hJ:(Km N v []).live.map (·.2)=[v.mapId (·+N)]:=rfl;have hH:(Km N v []).hp=[]:=rfl;rw[hJ,hH,hu];simp only[eqL,e1,eqH,hsc,HB,zs,hd,QEx,Bool.and_self]
end Go.SX
