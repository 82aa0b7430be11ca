/- - -/
import Derived.Test.YtekbmehgcofnkaaGreatVp
namespace Go.SX
open Go Go.RowKit Go.Proofs.YtekbmehgcofnkaaGreat
theorem QJg:∀{Q:List Pr} {i:Nat} {x:Pr},JI Q i=some x->x.p=i
 | [],_,_,h=>by cases h
 | y::l,i,x,h=>by
  simp only[JI]at h;split at h
  .rename_i hb;simp only[qsI]at h;subst h;exact qnb hb
  .exact QJg h
theorem QH0:∀{Q:List Pr} {i:Nat} {x:Pr},JI Q i=some x->x∈Q
 | [],_,_,h=>by cases h
 | y::l,i,x,h=>by
  simp only[JI]at h;split at h
  .simp only[qsI]at h;subst h;exact qmc
  .exact List.mem_cons_of_mem _ (QH0 h)
theorem QG0{n0:Nat}:∀{Q:List Pr},QBd n0 Q=true->∀ x∈Q,x.p<n0->x.c = .same/\x.p=x.s
 | [],_,x,hx,_=>by cases hx
 | y::l,h,x,hx,hlt=>by
  simp only[QBd,qbA]at h;rcases List.mem_cons.1 hx with rfl|hx
  .have h1:=h.1;have e:Nat.blt x.p n0=true:=by rw[Nat.blt_eq];exact hlt
   rw[e]at h1;simp only at h1;split at h1
   .rename_i hc;exact⟨hc,qnb h1⟩
   .cases h1
  .exact QG0 h.2 x hx hlt
theorem QFZ{Q:List Pr}{h:List (Nat×Blk)}:∀{l:List (Nat×Blk)} {ps:List Prop},eqH Q h l=some ps->Ka ps->∀ p∈l,
  (∃ x,JI Q p.1=some x/\x.c = .ghost/\∃ qs,eqG p.2=some qs/\Ka qs)∨(∃ x b',JI Q p.1=some x/\x.c ≠ .ghost/\look h x.s=some b'/\∃ qs,eqB Q x.c b' p.2=some qs/\Ka qs)
 | [],_,_,_,p,hp=>by cases hp
 | (i,b)::l,ps,he,ha,p,hp=>by
  simp only[eqH]at he;split at he<;>(try (cases he;done))
  .rename_i pp ss hf;split at he<;>(try (cases he;done))
   rename_i q1 q2 h1 h2;simp only[qsI]at he;subst he;obtain⟨a1,a2⟩:=jS.1 ha;rcases List.mem_cons.1 hp with rfl|hp
   .exact .inl ⟨_,hf,rfl,q1,h1,a1⟩
   .exact QFZ h2 a2 p hp
  .rename_i pp ss cc hng hf;split at he<;>(try (cases he;done))
   rename_i b' hb';split at he<;>(try (cases he;done))
   rename_i q1 q2 h1 h2;simp only[qsI]at he;subst he;obtain⟨a1,a2⟩:=jS.1 ha;rcases List.mem_cons.1 hp with rfl|hp
   .exact .inr ⟨_,b',hf,λe=>hng e,hb',q1,h1,a1⟩
   .exact QFZ h2 a2 p hp
theorem QHi{Q:List Pr}:∀{l:List (Nat×Blk)},QBq Q l=true->∀ p∈l,∀ p'∈l,p.1≠p'.1->∀ x x',JI Q p.1=some x->JI Q p'.1=some x'->x.c ≠ .ghost->x'.c ≠ .ghost->x.s≠x'.s
 | [],_,p,hp,_,_,_,_,_,_,_,_,_=>by cases hp
 | (i,b)::l,h,p,hp,p',hp',hne,x,x',hx,hx',g,g'=>by
  simp only[QBq,qbA]at h
  have one:∀(i:Nat) (y:Pr),JI Q i=some y->y.c ≠ .ghost->(match JI Q i with
    | some ⟨_,s,c⟩=>l.all λp=>match JI Q p.1 with
     | some ⟨_,s',c'⟩=>(match c,c' with
      | .ghost,_=>true
      | _,.ghost=>true
      | _,_ => !(Nat.beq s s'))
     | none=>false
    | none=>false)=true->∀ z∈l,∀ y',JI Q z.1=some y'->y'.c ≠ .ghost->y.s≠y'.s:=by
   intro i y hy hg h1 z hz y' hy' hg' e;rw[hy]at h1;simp only[List.all_eq_true]at h1;have:=h1 z hz;rw[hy']at this;obtain⟨_,s,c⟩:=y;obtain⟨_,s',c'⟩:=y';simp only at e hg hg' this;subst e;cases c<;>cases c'<;>simp_all
  rcases List.mem_cons.1 hp with rfl|hp<;>rcases List.mem_cons.1 hp' with rfl|hp'
  .exact absurd rfl hne
  .exact one i x hx g h.1 p' hp' x' hx' g'
  .exact λe=>one i x' hx' g' h.1 p hp x hx g e.symm
  .exact QHi h.2 p hp p' hp' hne x x' hx hx' g g'
theorem QHw{r r':Nat->Loc}{f:Nat->AV}:∀{live:List (Nat×AV)},AV.denL r (live.map λp=>f p.1)=AV.denL r' (live.map (·.2))->∀ p∈live,(f p.1).den r=p.2.den r'
 | [],_,p,hp=>by cases hp
 | x::l,h,p,hp=>by
  simp only[List.map_cons,AV.denL,List.cons.injEq]at h;rcases List.mem_cons.1 hp with rfl|hp
  .exact h.1
  .exact QHw h.2 p hp
variable {G:Ctx}{st:St}{w:World}{r:Nat->Loc}{ids:List Nat}{n:Nat}
theorem Inv.subW{n0:Nat}{ls:List Nat}{J:JSt}{a:Act}(hI:Inv G st.tm.length r (QJ st.tm) (look st.hp) a w)(hs:Jg n0 ls st.tm.length (ls.map (QJ st.tm)) st.hp J)(hG:G.n<=n0):∃ g,Rep G J.nid (J.inst g) a w:=by
 obtain⟨ps0,hsub,hall⟩:=hs.eqs;unfold QF at hsub;simp only at hsub;generalize Wx n0 _ _ _ _=Q at hsub;split at hsub<;>(try (cases hsub;done))
 rename_i ps qs e1 e2 hck;simp only[qsI]at hsub;subst hsub;obtain⟨ha1,ha2⟩:=jS.1 hall;simp only[qbA]at hck;obtain⟨hsc,hinj,hlow,hnd,_⟩:=hck;unfold qw at hsc;simp only[List.all_eq_true,qbA,qdE]at hsc;have hz:ls.map (QJ st.tm)=J.live.map (λp=>QJ st.tm p.1):=by rw[<-hs.slots,List.map_map];rfl
 have hden:=eqL_den (hJ:=J.hp) r _ _ _ e1 ha1;rw[hz]at hden;have hsame:=QHw hden
 have hget:∀ t,QJ (J.inst λt=>a.tmps.getD t undef).tm t=if t<J.len then (match lkS J.live t with|some v=>v|none => .raw (a.tmps.getD t undef))else .tup []:=by
  intro t;have:=QCR (λt=>a.tmps.getD t undef) J.live J.len 0 t;rw[Nat.zero_add]at this;exact this
 have hblk:∀ id b,look J.hp id=some b->(QN (Q8 Q J.hp r) id w b/\∀ k,¬ Qo (Q8 Q J.hp r) id b k) ∨
   ∃ x b',JI Q id=some x/\x.c ≠ .ghost/\look st.hp x.s=some b'/\QN (Q8 Q J.hp r) id w b/\(∀ k,Qo (Q8 Q J.hp r) id b k->Qo r x.s b' k)/\(b.own=true->b'.own=true):=by
  intro id b hb;rcases QFZ e2 ha2 _ (KK hb)with ⟨x,h1,h2,q1,h3,h4⟩|⟨x,b',h1,h2,h3,q1,h4,h5⟩
  .refine .inl (QUG h3 h4 ?_);unfold Q8;rw[h1];obtain⟨_,s,c⟩:=x;simp only at h2;subst h2;simp only;rw[hb]
  .have:=QRv (hJ:=J.hp) (r:=r) (w:=w) (x:=x) h1 h4 h5 (hI.rep _ _ h3);exact .inr ⟨x,b',h1,h2,h3,this.1,this.2.1,this.2.2⟩
 refine⟨λt=>a.tmps.getD t undef,⟨Q8 Q J.hp r,?_⟩,?_⟩
 .refine⟨?_,Dfr.none ?_,λt=>?_,λid b hb=>?_,λid b hb=>XQ hb,λid id' b b' hb hb' hne ho k hk hk'=>?_,λid hid=>?_,hI.fr,λid b hb ho k hk=>?_⟩
  .rw[hI.size,hs.len];exact(QFv _ _ _ _).symm
  .obtain⟨ds,d1,_,d3⟩:=hI.defers;cases ds with
   | nil=>exact d1
   | cons x ds=>
    obtain⟨_,_,_,hx,_⟩:=d3 x (by simp)
    exact(QGh hnd hx).elim
  .rw[hget];split
   .split
    .rename_i v hv;rw[hI.tm t];exact hsame _ (zE hv)
    .rfl
   .rename_i hlt;rw[hI.tm t];have:QJ st.tm t = .tup []:=by unfold QJ;rw[List.getElem?_eq_none (by rw[hs.len];omega)];rfl
    rw[this];rfl
  .rcases hblk id b hb with h1|⟨_,_,_,_,_,h1,_⟩
   .exact h1.1
   .exact h1
  .rcases hblk id b hb with h1|⟨x,c,h1,h2,h3,_,h4,h5⟩
   .exact h1.2 k hk
   .rcases hblk id' b' hb' with g1|⟨x',c',g1,g2,g3,_,g4,_⟩
    .exact g1.2 k hk'
    .exact hI.sep _ _ c c' h3 g3 (QHi hinj _ (KK hb) _ (KK hb') hne x x' h1 g1 h2 g2) (h5 ho) k (h4 k hk) (g4 k hk')
  .rw[<-hI.ext id hid];unfold Q8;cases hf:JI Q id with
   | none=>rfl
   | some x=>
    have hp:=QJg hf;obtain⟨l1,l2⟩:=QG0 hlow x (QH0 hf) (by rw[hp];omega)
    obtain⟨p,s,c⟩:=x;simp only at hp l1 l2;subst l1;subst l2;subst hp;rfl
  .rcases hblk id b hb with h1|⟨x,c,h1,h2,h3,_,h4,h5⟩
   .exact absurd hk (h1.2 k)
   .exact hI.own _ c h3 (h5 ho) k (h4 k hk)
 .refine⟨λt=>?_,λid b hb=>(hsc.2 _ (KK hb)).1,λid b hb=>(hsc.2 _ (KK hb)).2⟩;rw[hget];split
  .split
   .rename_i v hv;exact hsc.1 _ (zE hv)
   .rfl
  .rfl
theorem Rep.subW{G:Ctx}{n n0:Nat}{ls:List Nat}{st:St}{J:JSt}{a:Act}{w:World}(h:Rep G n st a w)(hs:Jg n0 ls st.tm.length (ls.map (QJ st.tm)) st.hp J)(hG:G.n<=n0):∃ g,Rep G J.nid (J.inst g) a w:=by
 obtain⟨⟨r,hI⟩,_⟩:=h;exact hI.subW hs hG
def QBp(h:List (Nat×Blk)):List Nat->List (Nat×Blk)
 | []=>[]
 | i::l=>match look h i with
  | some b=>(i,b)::QBp h l
  | none=>QBp h l
theorem QG6{h:List (Nat×Blk)}:∀{l:List Nat} {id:Nat} {b:Blk},look (QBp h l) id=some b->look h id=some b
 | [],_,_,e=>by cases e
 | i::l,id,b,e=>by
  simp only[QBp]at e;split at e
  .rename_i c hc;simp only[Kw]at e;split at e
   .rename_i hi;have hi:i=id:=by simpa using hi
    subst hi;rw[XQ hc]at e;simp only[if_true,qsI]at e;rw[<-e];exact hc
   .exact QG6 e
  .exact QG6 e
def K1(ids:List Nat)(vals:List AV)(h:List (Nat×Blk)):List (Nat×Blk):=QBp h (QCB 0 h 4 (Xn (AV.idsFromL 0 vals) ids))
theorem WV{vals:List AV}{h:List (Nat×Blk)}{id:Nat}{b:Blk}(e:look (K1 ids vals h) id=some b):look h id=some b:=by
 unfold K1 at e;exact QG6 e
def QPq:Ex->AV
 | .normal => .nilp
 | .exit id => .ptr id 0 0
 | .ret => .nili
def Q5(ids:List Nat)(ls:Ex->List Nat)(e:Ex)(st:St):QC:=match V8 st.hp with
 | true => .leaf (.tup (QPq e :: .ptr st.tm.length 0 0::(ls e).map (QJ st.tm))) (K1 ids ((ls e).map (QJ st.tm)) st.hp)
 | false => .fail "deferred"
theorem QOl{ls:Ex->List Nat}{Cont:Nat->List AV->List (Nat×Blk)->Prop}{Out:Ex->Nat->List AV->List (Nat×Blk)->Prop}{e:Ex}(h:(Q5 ids ls e st).den (q9 Cont Out)):
  V8 st.hp=true/\((e = .normal/\Cont st.tm.length ((ls e).map (QJ st.tm)) (K1 ids ((ls e).map (QJ st.tm)) st.hp))∨(e ≠ .normal/\Out e st.tm.length ((ls e).map (QJ st.tm)) (K1 ids ((ls e).map (QJ st.tm)) st.hp))):=by
 unfold Q5 at h;split at h
 .rename_i hd;refine⟨hd,?_⟩;cases e with
  | normal=>exact .inl ⟨rfl,h⟩
  | exit id=>exact .inr ⟨by simp,h⟩
  | ret=>exact .inr ⟨by simp,h⟩
 .exact h.elim
theorem Rep.near{a:Act}{h':List (Nat×Blk)}(hs:∀ id b,look h' id=some b->look st.hp id=some b)(hd:V8 st.hp=true)(h:Rep G n st a w):Rep G n { st with hp:=h' } a w:=by
 obtain⟨⟨r,hI⟩,hS⟩:=h;refine⟨⟨r,hI.size,Dfr.none ?_,hI.tm,λid b hb=>hI.rep id b (hs id b hb),λid b hb=>XQ hb,λid id' b b' h1 h2=>hI.sep id id' b b' (hs _ _ h1) (hs _ _ h2),hI.ext,hI.fr,λid b hb=>hI.own id b (hs id b hb)⟩,hS.tm,λid b hb=>hS.out id b (hs id b hb),λid b hb=>hS.blk id b (hs id b hb)⟩;obtain⟨ds,d1,_,d3⟩:=hI.defers;cases ds with
 | nil=>exact d1
 | cons x ds=>
  obtain⟨_,_,_,hx,_⟩:=d3 x (by simp)
  exact(QGh hd hx).elim
section
variable {σ:Type} (I:σ->JSt) (pre:σ->Prop) (μ:σ->Nat) (R:σ->Ex->JSt->Prop) (n0:Nat) (ls:Ex->List Nat) (ids:List Nat)
def QHB(s:σ)(n:Nat)(vs:List AV)(h:List (Nat×Blk)):Prop:=∃ s',pre s'/\μ s'<μ s/\(∀ e J,R s' e J->R s e J)/\Jg n0 (ls .normal) n vs h (I s')
def QHj(s:σ)(e:Ex)(n:Nat)(vs:List AV)(h:List (Nat×Blk)):Prop:=∃ J,R s e J/\Jg n0 (ls e) n vs h J
structure VH (E:Env) (H:σ->Hnd) (body:Code):Prop where
 round:∀ s g,pre s->Zn (q9 (QHB I pre μ R n0 ls s) (QHj R n0 ls s)) (exec E (H s) body ((I s).inst g) (Q5 ids ls))
variable {I pre μ R n0 ls ids}
theorem QHe{E:Env}(hE:E.Sound){H:σ->Hnd}{G:Ctx}(hG:G.n<=n0){body:Code}(hH:∀ s,pre s->Q0 E G (H s) body)(hn:∀ s,pre s->n0<=(I s).nid)(hR:∀ s e J,R s e J->n0<=J.nid)(hr:VH I pre μ R n0 ls ids E H body){Q:Exit->Act->World->Prop}:∀(n:Nat) (s:σ) (g:Nat->Value) (a:Act) (w:World),μ s<n->pre s->Rep G (I s).nid ((I s).inst g) a w ->
  (∀ e J g a' w',R s e J->n0<=J.nid->Rep G J.nid (J.inst g) a' w'->Q e.to a' w')->Code.roundsIn (FW G.rd) 0 E.P body Q n a w
 | 0,s,g,a,w,hm,_,_,_=>by omega
 | n+1,s,g,a,w,hm,hp,hrep,hQ=>by
  rw[roundsIn_succ];have hh:=hH s hp;have h0:=(hr.round s g hp).den;generalize H s=Hs at hh h0;have key:J5 E G body (exec E Hs body):=jE hE hh.call hh.yield body hh.loop;refine key ((I s).inst g) (Q5 ids ls) _ _ a w (Nat.le_trans hG (hn s hp)) h0 hrep ?_;intro e st' a' w' hn' hden hrep';obtain⟨hd,hden⟩:=QOl hden;have hnear:=Rep.near (h':=K1 ids ((ls e).map (QJ st'.tm)) st'.hp) (λid b hb=>WV hb) hd hrep';rcases hden with ⟨rfl,s',h1,h2,h3,h4⟩|⟨hne,J,h1,h2⟩
  .obtain⟨g',hr'⟩:=Rep.subW hnear h4 hG;exact QHe hE hG hH hn hR hr n s' g' a' w' (by omega) h1 hr' (λe J g a' w' hR=>hQ e J g a' w' (h3 e J hR))
  .obtain⟨g',hr'⟩:=Rep.subW hnear h2 hG;have:=hQ e J g' a' w' h1 (hR _ _ _ h1) hr';cases e with
   | normal=>exact absurd rfl hne
   | exit id=>exact this
   | ret=>exact this
end
def QB9:List Prop->QC->QC
 | [],t=>t
 | p::l,t => .ask p (QB9 l t)
theorem QBQ{T:AV->List (Nat×Blk)->Prop}{t:QC}:∀{l:List Prop},(QB9 l t).den T->Ka l/\t.den T
 | [],h=>⟨trivial,h⟩
 | p::l,h=>by
  obtain⟨h1,h2⟩:=h;obtain⟨h3,h4⟩:=QBQ h2;exact⟨⟨h1,h3⟩,h4⟩
def QCF(K:Ex->St->QC):List (Prop×Ex×JSt)->QC
 | [] => .fail "no end"
 | [x] => .asm x.1 (.all λg=>K x.2.1 (x.2.2.inst g))
 | x::y::l => .both (.asm x.1 (.all λg=>K x.2.1 (x.2.2.inst g))) (QCF K (y::l))
theorem QBJ{K:Ex->St->QC}{T:AV->List (Nat×Blk)->Prop}:∀{l:List (Prop×Ex×JSt)},(QCF K l).den T->∀ x∈l,x.1->∀ g,(K x.2.1 (x.2.2.inst g)).den T
 | [],h,x,hx=>by cases hx
 | [y],h,x,hx=>by
  simp only[List.mem_singleton]at hx;subst hx;exact h
 | y::z::l,h,x,hx=>by
  obtain⟨h1,h2⟩:=h;rcases List.mem_cons.1 hx with rfl|hx
  .exact h1
  .exact QBJ h2 x hx
def KF(n0:Nat)(ids:List Nat)(J0:JSt)(X:List (Prop×Ex×JSt))(st:St)(K:Ex->St->QC):QC:=
 match Nat.beq st.tm.length J0.len&&V8 st.hp with
 | true=>(match QF n0 ((J0.live.map (·.1)).map (QJ st.tm)) (K1 ids ((J0.live.map (·.1)).map (QJ st.tm)) st.hp) J0 with
  | some ps=>QB9 ps (QCF K X)
  | none => .fail "a loop's beginning")
 | false => .fail "a loop's slots"
theorem XP{σ:Type}{I:σ->JSt}{pre:σ->Prop}{μ:σ->Nat}{R:σ->Ex->JSt->Prop}{n0:Nat}{ls:Ex->List Nat}{ids':List Nat}{E:Env}(hE:E.Sound){H:σ->Hnd}(hG:G.n<=n0){body:Code}(hH:∀ s,pre s->Q0 E G (H s) body)(hn:∀ s,pre s->n0<=(I s).nid)(hR:∀ s e J,R s e J->n0<=J.nid)(hr:VH I pre μ R n0 ls ids E H body){s0:σ}(hp:pre s0){X:List (Prop×Ex×JSt)}(hX:∀ e J,R s0 e J->∃ x∈X,x.1/\x.2.1=e/\x.2.2=J):
  J5 E G (.loop body) (KF n0 ids' (I s0) X):=by
 intro st K T Q a w hn' h hrep hQ;unfold KF at h;split at h
 rotate_left
 .exact h.elim
 rename_i hl;split at h
 rotate_left
 .exact h.elim
 rename_i ps hps;simp only[qbA]at hl;have hlen:=qnb hl.1;obtain⟨ha,hx⟩:=QBQ h;have hnear:=Rep.near (h':=K1 ids' (((I s0).live.map (·.1)).map (QJ st.tm)) st.hp) (λid b hb=>WV hb) hl.2 hrep;have hso:Jg n0 ((I s0).live.map (·.1)) st.tm.length (((I s0).live.map (·.1)).map (QJ st.tm)) (K1 ids' (((I s0).live.map (·.1)).map (QJ st.tm)) st.hp) (I s0):={ slots:=rfl,len:=hlen,eqs:=⟨ps,hps,ha⟩ };obtain⟨g,hr'⟩:=Rep.subW hnear hso hG;refine wpIn_loop_rounds (μ s0+1) (QHe hE hG hH hn hR hr _ s0 g a w (Nat.lt_succ_self _) hp hr' ?_);intro e J g' a' w' hRe hnJ hrJ
 obtain⟨x,h1,h2,h3,h4⟩:=hX e J hRe;have:=QBJ hx x h1 h2 g';rw[h3,h4]at this;exact hQ e (J.inst g') a' w' (Nat.le_trans hG hnJ) this hrJ
def Blk.viewR(q:Nat->Nat):Blk->Blk->Prop
 | .cellsR z t l,.cellsR z' t' l'=>z=z'/\t=t'/\AV.sameRL q l l'
 | _,_=>False
def subW(q:Nat->Nat)(h:List (Nat×Blk)):List (Nat×Blk)->Prop
 | []=>True
 | (id,b)::l=>(∃ b',look h (q id)=some b'/\b'.viewR q b)/\subW q h l
def QGv(n:Nat)(args:List AV)(hp:List (Nat×Blk)):Bool:=AV.allL (·<n) args&&hp.all λp=>decide (p.1<n)&&p.2.all (·<n) && !p.2.own
theorem Qc8{q:Nat->Nat}{args':List AV}{hp':List (Nat×Blk)}(hs:QGv n args' hp'=true)(h:∀ p∈hp',QN (λi=>r (q i)) p.1 w p.2):
  KM ⟨w,λ_=>False,n,λi=>r (q i),none⟩ n (λi=>r (q i)) hp' w/\AV.allL (·<n) args'=true:=by
 unfold QGv at hs;simp only[qbA,List.all_eq_true,qdE,Bool.not_eq_true']at hs;refine⟨⟨λid b hb=>h _ (KK hb),λid id' b b' hb _ _ ho=>?_,λ_ _=>rfl,Fr.refl _ _,λid b hb ho=>?_,λid b hb=>(hs.2 _ (KK hb)).1.1,λid b hb=>(hs.2 _ (KK hb)).1.2⟩,hs.1⟩
 .rw[(hs.2 _ (KK hb)).2]at ho;cases ho
 .rw[(hs.2 _ (KK hb)).2]at ho;cases ho
class QA (α:Type) where
 ks:List CK
 enc:α->Nat->Int
 dec:(Nat->Int)->α
 ok:∀ f,cellsOf ks 0 (enc (dec f))=cellsOf ks 0 f
instance : QA Int where
  ks := [.int .i64]
  enc n _ := n
  dec f := f 0
  ok _ := rfl
instance : QA Bool where
  ks := [.bool]
  enc b _ := cond b 1 0
  dec f := decide (f 0 = 1)
  ok f := by
    simp only[cellsOf,mkC]
    by_cases h : f 0 = 1 <;> simp[h]
structure Rw (α:Type) where
 n:Nat
 get:Nat->α
def Qa5(k:Nat)(v:AV)(u:List (Nat×Blk)):Prop:=v.all (λi=>i==k)=true/\∀ q∈u,q.1=k/\q.2.own=false/\q.2.all (λ_=>false)=true
class Qg (α:Type) where
 val:Nat->α->AV
 blk:Nat->α->List (Nat×Blk)
 dec:AV->(Nat->Option Blk)->Option (Bool×α)
 ok:∀ v lk p x,dec v lk=some (p,x)->p=true->(∀ k,Qa5 k (val k x) (blk k x))/\∀(r:Nat->Loc) (w:World),(∀ id b,lk id=some b->QN r id w b)->∃ l:Loc,∀(k:Nat) (r':Nat->Loc),r' k=l->(val k x).den r'=v.den r/\∀ q∈blk k x,QN r' q.1 w q.2
instance {α : Type} [Enc α] : Qg α where
  val _ x := Enc.enc x
  blk _ _ := []
  dec v _ := match (Enc.dec v : Option α)with
    | some x => some (true,x)
    | none => none
  ok v lk p x h hp := by
    split at h <;> (try (cases h; done))
    rename_i y hy;simp only[qsI,qpI]at h;obtain⟨rfl,rfl⟩ := h;obtain⟨h1,h2⟩ := Enc.ok _ _ hy;exact⟨λk=>⟨all_mono (λ_ hf=>by cases hf) _ h2,by simp⟩,λr w _=>⟨Loc.none 0,λk r' _=>⟨by rw[XT (p := λ_=>false) (r := r') (r' := r) (λ_ hf=>by cases hf) _ h2,h1 r],by simp⟩⟩⟩
theorem QVK{r':Nat->Loc}{l l':Loc}{ks:List CK}{m e:Nat}{g g':Nat->Nat->Int}(h:Vm w r l ks.length n (QY ks g))(hle:e+m<=n)(hg:∀ i,i<m->QY ks g' i=QY ks g (i+e))(h1:l'.blk=l.blk)(h2:l'.off=l.off+e*ks.length)(h3:l'.nil=true->l.nil=true)(h4:∀ k,l.foot k->l'.foot k):Vm w r' l' ks.length m (QY ks g'):=by
 refine QB6 (r:=r) (λhn=>by have:=h.1 (h3 hn);omega) (λi hi=>by rw[h1];exact h4 _ (h.2 (i+e) (by omega)).1) λi hi j v hv=>?_
 rw[hg i hi]at hv;have:=((h.2 (i+e) (by omega)).2.2 j v hv).2
 rw[h1,h2,Nat.add_assoc l.off,<-Nat.add_mul,Nat.add_comm e i];exact this
def Xv(ks:List CK)(v:AV)(lk:Nat->Option Blk):Option (Bool×Nat×(Nat->Nat->Int)):=match v with
 | .slz id e m _=>(match lk id with
  | some (.rowz _ _ ks' n g)=>(match ksB ks' ks with
   | true=>some (decide (m+e<=n),m,λi=>g (i+e))
   | false=>none)
  | some (.frz ks' n g)=>(match ksB ks' ks with
   | true=>some (decide (m+e<=n),m,λi=>g (i+e))
   | false=>none)
  | _=>none)
 | .slice _ id e m _=>(match lk id with
  | some (.rowlR _ z l)=>(match Nat.beq z ks.length&&(l.all (Xd ks)&&decide (e+m<=l.length))with
   | true=>some (true,m,λi=>KD l 0 (i+e))
   | false=>none)
  | some (.cellsR z _ l)=>(match Nat.beq z ks.length&&((VY z (e+m) l).all (Xd ks)&&decide ((e+m)*z<=l.length))with
   | true=>some (true,m,λi=>KD (VY z (e+m) l) 0 (i+e))
   | false=>none)
  | some (.frz ks' n g)=>(match ksB ks' ks with
   | true=>some (decide (m+e<=n),m,λi=>g (i+e))
   | false=>none)
  | _=>none)
 | .nils=>some (true,0,λ_ _=>0)
 | _=>none
theorem QRn(sz:Nat):∀(n:Nat) (l:List AV),n*sz<=l.length->VY sz n l=VY sz n (l.take (n*sz))
 | 0,_,_=>rfl
 | n+1,l,h=>by
  have e:(n+1)*sz=sz+n*sz:=by rw[Nat.add_mul];omega
  rw[VY,VY,List.take_take,Nat.min_eq_left (by omega),QRn sz n (l.drop sz) (by rw[List.length_drop];omega)]
  congr 2;rw[e,List.drop_take,Nat.add_sub_cancel_left]
theorem QV3{ks:List CK}{v:AV}{lk:Nat->Option Blk}{p:Bool}{m:Nat}{g g':Nat->Nat->Int}(h:Xv ks v lk=some (p,m,g))(hp:p=true)(hg:∀ i,QY ks g' i=QY ks g i)(hb:∀ id b,lk id=some b->QN r id w b):
  ∃ l:Loc,∀(k:Nat) (r':Nat->Loc),r' k=l->(AV.slz k 0 m (.of 0)).den r'=v.den r/\QN r' k w (.frz ks m g'):=by
 unfold Xv at h;split at h
 .rename_i id e mm cp
  have fin:∀(n:Nat) (g0:Nat->Nat->Int),e+mm<=n->(r id).esz=ks.length->(∀ k,(r id).foot k->k<w.heap.size)->Vm w r (r id) ks.length n (QY ks g0)->(∀ i,QY ks g' i=QY ks g0 (i+e)) ->
    ∃ l:Loc,∀(k:Nat) (r':Nat->Loc),r' k=l->(AV.slz k 0 mm (.of 0)).den r'=(AV.slz id e mm cp).den r/\QN r' k w (.frz ks mm g'):=by
   intro n g0 hle hez hft hR hgg;refine⟨{ r id with off:=(r id).off+e*(r id).esz,cap:=cp.den (r id).cap },λk r' hr=>⟨?_,?_⟩⟩
   .simp only[AV.den,hr,Loc.base,Loc.room,Cap.den];cases (r id).nil<;>simp
   .simp only[QN];rw[hr];exact⟨hez,hft,QVK hR hle (λi _=>hgg i) rfl (by rw[hez]) (λh=>h) (λ_ h=>h)⟩
  split at h<;>(try (cases h;done))
  .rename_i o ty ks' n g0 hlk;split at h<;>(try (cases h;done))
   rename_i hk;have:=Yb hk;subst this;simp only[qsI,qpI]at h;obtain⟨rfl,rfl,rfl⟩:=h;have hbb:=hb _ _ hlk;have hb0:Kl r id w ty ks'.length n (QY ks' g0):=hbb;exact fin n g0 (by have:=qdt hp;omega) hb0.2.1 (hbb.lt rfl) (QRC hb0) hg
  .rename_i ks' n g0 hlk;split at h<;>(try (cases h;done))
   rename_i hk;have:=Yb hk;subst this;simp only[qsI,qpI]at h;obtain⟨rfl,rfl,rfl⟩:=h;have hbb:=hb _ _ hlk;exact fin n g0 (by have:=qdt hp;omega) hbb.1 hbb.2.1 hbb.2.2 hg
 .rename_i c id e mm cp
  have fin:∀(foot:Nat->Prop),(r id).esz=ks.length->(∀ k,foot k->k<w.heap.size)->(∀ l':Loc,l'.blk=(r id).blk->l'.off=(r id).off+e*(r id).esz->l'.nil=false->l'.foot=foot->Vm w r l' ks.length mm (QY ks g')) ->
    ∃ l:Loc,∀(k:Nat) (r':Nat->Loc),r' k=l->(AV.slz k 0 mm (.of 0)).den r'=(AV.slice c id e mm cp).den r/\QN r' k w (.frz ks mm g'):=by
   intro foot hez hft hR;refine⟨⟨(r id).blk,(r id).off+e*(r id).esz,(r id).esz,cp.den (r id).cap,false,none,foot⟩,λk r' hr=>⟨?_,?_⟩⟩
   .simp only[AV.den,hr,Loc.base,Loc.room,Cap.den];simp
   .simp only[QN];rw[hr];refine⟨hez,hft,?_⟩
    exact QLU (hR ⟨(r id).blk,(r id).off+e*(r id).esz,(r id).esz,cp.den (r id).cap,false,none,foot⟩ rfl rfl rfl rfl) (qlr _) (λi _=>by
     have:∀(n j:Nat) (f:Nat->Int),eqF n j f f:=by
      intro n
      induction n with
      | zero=>intro _ _;trivial
      | succ n ih=>intro j f;exact⟨rfl,ih _ _⟩
     exact this _ _ _) rfl rfl (λh=>h) (λ_ h=>h)
  have rows:∀(L:List (List AV)) (bl:List Value) (ty:TypeId),bk w (r id).blk=some (.cells bl.toArray ty (0,0))->(r id).off=0->(r id).esz=ks.length->L.all (Xd ks)=true->e+mm<=L.length->(∀ i x j u,L[i]? = some x->x[j]? = some u->bl[i*ks.length+j]? = some (u.den r))->(∀ i,QY ks g' i=QY ks (KD L 0) (i+e)) ->
    ∃ l:Loc,∀(k:Nat) (r':Nat->Loc),r' k=l->(AV.slz k 0 mm (.of 0)).den r'=(AV.slice c id e mm cp).den r/\QN r' k w (.frz ks mm g'):=by
   intro L bl ty hbk hoff hez hall hle hcell hgg;refine fin (λk=>k=(r id).blk) hez (λk hk=>by rw[hk];exact Yx hbk) λl' h1 h2 h3 h4=>?_
   refine QB6 (r:=r) (λhn=>by rw[h3]at hn;cases hn) (λi hi=>by rw[h4,h1]) λi hi j v hv=>?_
   rw[hgg i]at hv;have hx:=List.getElem?_eq_getElem (l:=L) (i:=i+e) (by omega)
   have hd:=QDD r L 0 (i+e) _ hall hx;rw[Nat.zero_add]at hd;obtain⟨u,hu,hd⟩:=QO7 hd.symm hv;rw[h1,h2,hoff,hez,Nat.zero_add,Yg hbk,<-hd,<-Nat.add_mul,Nat.add_comm e i];exact hcell _ _ _ _ hx hu
  split at h<;>(try (cases h;done))
  .rename_i ty z l hlk;split at h<;>(try (cases h;done))
   rename_i hc;simp only[qbA,qdE]at hc;obtain⟨hz,hall,hle⟩:=hc;have hz:=qnb hz;subst hz;simp only[qsI,qpI]at h;obtain⟨rfl,rfl,rfl⟩:=h;obtain⟨ho,hez,hlen,hcap,rest,hrest,hbk⟩:=hb _ _ hlk;refine rows l _ ty hbk ho hez hall hle (λi x j u hx hu=>?_) hg;have hl0:=hlen _ (List.mem_of_getElem? hx);have hj:=(List.getElem?_eq_some_iff.1 hu).1;obtain⟨f1,f2⟩:=jL ks.length l hlen i _ hx j (by omega)
   rw[List.getElem?_append_left (by rw[Kf];exact f1),Qy,List.getElem?_map,f2,hu];rfl
  .rename_i z ty l hlk;split at h<;>(try (cases h;done))
   rename_i hc;simp only[qbA,qdE]at hc;obtain⟨hz,hall,hle⟩:=hc;have hz:=qnb hz;subst hz;simp only[qsI,qpI]at h;obtain⟨rfl,rfl,rfl⟩:=h;obtain⟨ho,hez,hbk⟩:=hb _ _ hlk;obtain⟨c1,c2,c3⟩:=QDk ks.length (e+mm) (l.take ((e+mm)*ks.length)) (by rw[List.length_take];omega)
   rw[<-QRn ks.length (e+mm) l hle]at c1 c2 c3;refine rows _ _ ty hbk ho hez hall (by rw[c3];exact qlr _) (λi x j u hx hu=>?_) hg
   have hl0:=c2 _ (List.mem_of_getElem? hx);have hj:=(List.getElem?_eq_some_iff.1 hu).1;obtain⟨f1,f2⟩:=jL ks.length _ c2 i _ hx j (by omega)
   rw[c1]at f1 f2;rw[List.length_take]at f1;rw[List.getElem?_take_of_lt (by omega)]at f2
   rw[Qy,List.getElem?_map,f2,hu];rfl
  .rename_i ks' n g0 hlk;split at h<;>(try (cases h;done))
   rename_i hk;have:=Yb hk;subst this;simp only[qsI,qpI]at h;obtain⟨rfl,rfl,rfl⟩:=h;have hbb:=hb _ _ hlk;have hle:e+mm<=n:=by have:=qdt hp;omega
   refine fin (r id).foot hbb.1 hbb.2.1 λl' h1 h2 h3 h4=>?_;exact QVK hbb.2.2 hle (λi _=>hg i) h1 (by rw[h2,hbb.1]) (λhn=>by rw[h3]at hn;cases hn) (λk hk=>by rw[h4];exact hk)
 .simp only[qsI,qpI]at h;obtain⟨rfl,rfl,rfl⟩:=h;refine⟨Loc.none ks.length,λk r' hr=>⟨?_,?_⟩⟩
  .simp only[AV.den,hr];rfl
  .simp only[QN];rw[hr];exact⟨rfl,λk hk=>hk.elim,λ_=>rfl,λi hi=>by omega⟩
 .cases h
instance {α : Type} [QA α] : Qg (Rw α) where
  val k x := .slz k 0 x.n (.of 0)
  blk k x := [(k,.frz (QA.ks α) x.n λi=>QA.enc (x.get i))]
  dec v lk := match Xv (QA.ks α) v lk with
    | some (p,m,g) => some (p,⟨m,λi=>QA.dec (g i)⟩)
    | none => none
  ok v lk p x h hp := by
    split at h <;> (try (cases h; done))
    rename_i p' m g hd;simp only[qsI,qpI]at h;obtain⟨rfl,rfl⟩ := h;refine⟨λk=>⟨by simp[AV.all],λq hq=>?_⟩,λr w hb=>?_⟩
    . simp only[List.mem_singleton]at hq; subst hq; exact⟨rfl,rfl,rfl⟩
    . obtain⟨l,hl⟩ := QV3 (g' := λi=>QA.enc (QA.dec (g i) : α)) hd hp (λi=>QA.ok (g i)) hb
      refine⟨l,λk r' hr=>⟨(hl k r' hr).1,λq hq=>?_⟩⟩;simp only[List.mem_singleton]at hq; subst hq; exact(hl k r' hr).2
class QZ (α:Type) where
 len:Nat
 vals:Nat->α->List AV
 blks:Nat->α->List (Nat×Blk)
 dec:List AV->(Nat->Option Blk)->Option (Bool×α)
 ok:∀ vs lk p x,dec vs lk=some (p,x)->p=true->(∀ k,AV.allL (λi=>decide (k<=i/\i<k+len)) (vals k x)=true/\∀ q∈blks k x,(k<=q.1/\q.1<k+len)/\q.2.own=false/\q.2.all (λ_=>false)=true) /\
  ∀(r:Nat->Loc) (w:World),(∀ id b,lk id=some b->QN r id w b)->∃ L:Nat->Loc,∀(k:Nat) (r':Nat->Loc),(∀ i,i<len->r' (k+i)=L i)->AV.denL r' (vals k x)=AV.denL r vs/\∀ q∈blks k x,QN r' q.1 w q.2
instance : QZ Unit where
  len := 0
  vals _ _ := []
  blks _ _ := []
  dec | [],_ => some (true,()) | _,_ => none
  ok vs lk p x h hp := by
    split at h <;> (try (cases h; done))
    exact⟨λk=>⟨rfl,by simp⟩,λr w _=>⟨λ_=>Loc.none 0,λk r' _=>⟨rfl,by simp⟩⟩⟩
instance {α β : Type} [Qg α] [QZ β] : QZ (α × β) where
  len := QZ.len β + 1
  vals k x := Qg.val k x.1 :: QZ.vals (k + 1) x.2
  blks k x := Qg.blk k x.1 ++ QZ.blks (k + 1) x.2
  dec | v :: l,lk => (match Qg.dec v lk,QZ.dec l lk with
        | some (p,a),some (q,b) => some (p && q,a,b)
        | _,_ => none)
      | _,_ => none
  ok vs lk p x h hp := by
    split at h <;> (try (cases h; done))
    split at h <;> (try (cases h; done))
    rename_i v l _ _ p a q b ha hb;simp only[qsI,qpI]at h;obtain⟨rfl,rfl⟩ := h;simp only[qbA]at hp;obtain⟨a1,a2⟩ := Qg.ok v lk p a ha hp.1;obtain⟨b1,b2⟩ := QZ.ok l lk q b hb hp.2;refine⟨λk=>⟨?_,λz hz=>?_⟩,λr w hw=>?_⟩
    . simp only[AV.allL,qbA]
      refine⟨all_mono (λi hi=>?_) _ (a1 k).1,allL_mono (λi hi=>?_) _ (b1 (k + 1)).1⟩
      . have : i = k := by simpa using hi
        subst this; simp
      . simp only[qdE]at hi ⊢; omega
    . rcases List.mem_append.1 hz with hz | hz
      . obtain⟨c1,c2,c3⟩ := (a1 k).2 z hz
        exact⟨by omega,c2,c3⟩
      . obtain⟨c1,c2,c3⟩ := (b1 (k + 1)).2 z hz
        exact⟨by omega,c2,c3⟩
    . obtain⟨l0,d1⟩ := a2 r w hw
      obtain⟨L,d2⟩ := b2 r w hw;refine⟨λi=>match i with | 0 => l0 | i + 1 => L i,λk r' hr=>?_⟩
      have e1 := d1 k r' (by have := hr 0 (by omega); simpa using this)
      have e2 := d2 (k + 1) r' (λi hi=>by have := hr (i + 1) (by omega); rw[show k + 1 + i = k + (i + 1) by omega]; exact this)
      refine⟨by simp only[AV.denL,e1.1,e2.1],λz hz=>?_⟩
      rcases List.mem_append.1 hz with hz | hz
      . exact e1.2 z hz
      . exact e2.2 z hz
abbrev WF(α:Type):=α->Bool×AV×List (Nat×Blk)
def wFC{α:Type}[QZ α](F:WF α):FC:=λargs nid all=>(all,λblks=>match QZ.dec args (look (J4 Blk.ro all blks))with
 | some (p,x)=>some ⟨false,p&&(F x).1,(F x).2.1.mapId (·+nid),(F x).2.2.map λq=>(q.1+nid,q.2.mapId (·+nid))⟩
 | none=>none)
def Kk(N:Nat)(v:AV)(u:List (Nat×Blk)):JSt:=⟨1,[(0,v.mapId (·+N))],u.map (λq=>(q.1+N,q.2.mapId (·+N))),N+8⟩
def QHT(v:AV)(h:List (Nat×Blk)):QC:=match V8 h with
 | true => .leaf v (K1 [] [v] h)
 | false => .fail "deferred"
def Kg(E:Env)(H:Hnd)(fn:Func)(args:List AV)(hp:List (Nat×Blk))(N:Nat):QC:=Vv E H fn args hp N λv h _=>QHT v h
def ZY(N:Nat)(v:AV)(u:List (Nat×Blk))(w:AV)(h:List (Nat×Blk)):Prop:=Jg N [0] 1 [w] h (Kk N v u)
theorem QJp{r':Nat->Loc}{q:Nat->Nat}{id id':Nat}(h:r' id'=r id){b:Blk}{k:Nat}:Qo r' id' (b.mapId q) k↔Qo r id b k:=by
 cases b<;>simp only[Blk.mapId,Qo,h]
theorem QB1{N:Nat}{f:Blk->Blk}(hf:∀ b,(f b).live=b.live):∀{u:List (Nat×Blk)} {i:Nat} {b:Blk},look u i=some b->look (u.map λq=>(q.1+N,f q.2)) (i+N)=some (f b)
 | [],_,_,h=>by cases h
 | (j,c)::u,i,b,h=>by
  simp only[List.map_cons,Kw]at h ⊢
  by_cases hj:j=i
  .subst hj;simp only[beq_self_eq_true,if_true,hf]at h ⊢;split at h
   .rename_i hl;rw[if_pos hl];simp only[qsI]at h ⊢;rw[h]
   .cases h
  .have e1:(j==i)=false:=by simpa using hj
   have e2:(j+N==i+N)=false:=by simp;exact hj
   rw[e1]at h;rw[e2];simp only[Bool.false_eq_true,if_false]at h ⊢;exact QB1 hf h
def QCh:List (Nat×Blk)->Bool
 | []=>true
 | (i,b)::l=>b.live&&(l.all λp=>!(Nat.beq i p.1))&&QCh l
theorem QKt:∀{u:List (Nat×Blk)},QCh u=true->∀ p∈u,look u p.1=some p.2
 | [],_,p,hp=>by cases hp
 | (i,b)::l,h,p,hp=>by
  simp only[QCh,qbA,List.all_eq_true]at h;rcases List.mem_cons.1 hp with rfl|hp
  .simp[Kw,h.1.1]
  .have hne:(i==p.1)=false:=by
    have:=h.1.2 p hp;cases hb:Nat.beq i p.1 with
    | true=>rw[hb]at this;cases this
    | false=>
     simp only[beq_eq_false_iff_ne,ne_eq];intro e;subst e;simp at hb
   simp only[Kw,hne,Bool.false_eq_true,if_false];exact QKt h.2 p hp
structure WOk (v:AV) (u:List (Nat×Blk)):Prop where
 val:v.all (·<8)=true
 new:∀ q∈u,q.1<8/\q.2.own=true/\q.2.all (·<8)=true
 dist:QCh u=true
structure JL {α:Type} (E:Env) (c:Code) (N:Nat) (F:WF α) (H:α->Hnd):Prop where
 ok:∀ x,(F x).1=true->∀ G:Ctx,G.rd=none->G.n=N->Q0 E G (H x) c
structure JH {α:Type} [QZ α] (E:Env) (fn:Func) (N:Nat) (F:WF α) (H:α->Hnd):Prop where
 run:∀ x,(F x).1=true->WOk (F x).2.1 (F x).2.2/\Zn (ZY N (F x).2.1 (F x).2.2) (Kg E (H x) fn (QZ.vals 0 x) (QZ.blks 0 x) N)
theorem JY{E:Env}(hE:E.Sound){f:FuncId}{fn:Func}{c:Code}(hf:E.P.funcs[f]? = some fn)(hb:fn.body=some c)(hgo:J8 E.P f=true){α:Type}[QZ α]{N:Nat}(hN:QZ.len α<=N){H:α->Hnd}{F:WF α}(hl:JL E c N F H)(hF:JH E fn N F H):QS E.P f (wFC F):=by
 refine⟨hgo,λargs nid all r w lk blks eff hH _ hv he hp=>?_⟩;simp only[wFC]at hv he;split at he<;>(try (cases he;done))
 rename_i p x hd;simp only[qsI]at he;subst he;simp only[qbA]at hp;obtain⟨hp1,hp2⟩:=hp;obtain⟨hcl,harg⟩:=QZ.ok _ _ _ _ hd hp1;obtain⟨hW,hden⟩:=hF.run x hp2
 have hlk:∀ id b,look (J4 Blk.ro all blks) id=some b->QN r id w b:=by
  intro id b hb;obtain⟨b0,k1,k2⟩:=vk hv _ (KK hb);have k2:b=b0.ro:=k2;rw[k2];exact(hH.rep _ b0 k1).ro
 obtain⟨L,hL⟩:=harg r w hlk;obtain⟨ha,hbl⟩:=hL 0 L (λi _=>by rw[Nat.zero_add])
 obtain⟨hc1,hc2⟩:=hcl 0
 have hI:KM ⟨w,λ_=>False,N,L,none⟩ N L (QZ.blks 0 x) w:=by
  refine⟨λid b hb=>hbl _ (KK hb),λid id' b b' hb _ _ ho=>?_,λ_ _=>rfl,Fr.refl _ _,λid b hb ho=>?_,λid b hb=>?_,λid b hb=>?_⟩
  .have:=(hc2 _ (KK hb)).2.1;simp only at this;rw[ho]at this;cases this
  .have:=(hc2 _ (KK hb)).2.1;simp only at this;rw[ho]at this;cases this
  .have:=(hc2 _ (KK hb)).1;simp only at this;omega
  .exact Blk.all_mono (λ_ hf=>by cases hf) b (hc2 _ (KK hb)).2.2
 have hargs:AV.allL (·<N) (QZ.vals 0 x)=true:=allL_mono (λi hi=>by simp only[qdE]at hi ⊢;omega) _ hc1
 have hd0:=hden.den;unfold Kg at hd0;have:=HL hE hf hb (hl.ok x hp2 ⟨w,λ_=>False,N,L,none⟩ rfl rfl) rfl hI hargs hd0;rw[ha]at this;refine this.mono ?_;rintro e w' ⟨v,h',nid',r1,hT,rfl,hle,hI',hvn⟩;unfold QHT at hT;split at hT
 rotate_left
 .exact hT.elim
 rename_i hnd;have hT:Jg N [0] 1 [v] (K1 [] [v] h') (Kk N (F x).2.1 (F x).2.2):=hT;have hlkn:∀ id b,look (K1 [] [v] h') id=some b->look h' id=some b:=λid b hb=>WV hb
 have hrep:Rep ⟨w,λ_=>False,N,L,none⟩ nid' ⟨[v],h',nid'⟩ { tmps := #[v.den r1],defers:=[] } w':=by
  refine hI'.toRep (tm:=[v]) (a:={ tmps := #[v.den r1],defers:=[] }) rfl (λt=>?_) (λt=>?_) (Dfr.none rfl)
  .cases t with
   | zero=>rfl
   | succ t=>rfl
  .cases t with
   | zero=>exact hvn
   | succ t=>rfl
 generalize hJ:Kk N (F x).2.1 (F x).2.2=J at hT;generalize K1 [] [v] h'=hn at hT hlkn;have hnear:Rep ⟨w,λ_=>False,N,L,none⟩ nid' ⟨[v],hn,nid'⟩ { tmps := #[v.den r1],defers:=[] } w':=Rep.near (h':=hn) hlkn hnd hrep;have hso:Jg N [0] (⟨[v],hn,nid'⟩:St).tm.length ([0].map (QJ (⟨[v],hn,nid'⟩:St).tm)) (⟨[v],hn,nid'⟩:St).hp J:=hT;obtain⟨g,⟨r2,hI2⟩,hS2⟩:=Rep.subW hnear hso (qlr N);subst hJ;have hval:v.den r1=((F x).2.1.mapId (·+N)).den r2:=hI2.tm 0;let rr:Nat->Loc:=λj=>if inR nid j=true then r2 (j-nid+N)else r j
 have hnew:∀ i,i<8->rr (i+nid)=r2 (i+N):=by
  intro i hi;show(if _ then _ else _)=_
  rw[if_pos (by simp[inR];omega)]
  congr 1;omega
 have key:∀ i,decide (i<8)=true->rr (i+nid)=(λj=>r2 (j+N)) i:=λi hi=>hnew i (by simpa using hi)
 have hlook:∀ q∈(F x).2.2,look ((Kk N (F x).2.1 (F x).2.2).inst g).hp (q.1+N)=some (q.2.mapId (·+N)):=by
  intro q hq;exact QB1 (f:=λb=>b.mapId (·+N)) (λb=>Blk.mapId_live _ b) (QKt hW.dist q hq)
 have hft:∀ q∈(F x).2.2,∀ k,Qo rr (q.1+nid) (q.2.mapId (·+nid)) k↔Qo r2 (q.1+N) (q.2.mapId (·+N)) k:=by
  intro q hq k;rw[QJp (r:=λj=>r2 (j+N)) (id:=q.1) (key q.1 (by have:=(hW.new q hq).1;simpa using this)),QJp (r:=λj=>r2 (j+N)) (id:=q.1) rfl]
 refine⟨rr,?_,?_⟩
 .rw[hval,W3 (p:=(·<8)) (r:=λj=>r2 (j+N)) (r':=r2) (q:=(·+N)) (λ_ _=>rfl) _ hW.val,W3 (p:=(·<8)) (r:=λj=>r2 (j+N)) (r':=rr) (q:=(·+nid)) key _ hW.val]
 .refine⟨λid hid=>?_,λp hp=>?_,⟨hI'.fr.os,hI'.fr.tape,hI'.fr.output,hI'.fr.size,hI'.fr.drawn,λk hk _=>hI'.fr.block k hk (by simp)⟩,λp hp hin hlv k hk=>?_,λp hp hin=>?_,λp hp q hq hin hin' hne ho hlv k hk hk'=>?_⟩
  .show(if _ then _ else _)=_
   rw[if_neg (by rw[hid];simp)]
  .obtain⟨q,hq,rfl⟩:=List.mem_map.1 hp;obtain⟨h8,_,hall⟩:=hW.new q hq;have hrep2:=hI2.rep _ _ (hlook q hq)
   have e1:QN (λj=>r2 (j+N)) q.1 w' q.2:=by
    have:=Blk.mapId_back (p:=(·<8)) (q:=(·+N)) (r:=λj=>r2 (j+N)) (r':=r2) (λ_ _=>rfl) (id:=q.1) (w:=w') rfl hall hrep2;exact this
   exact Blk.mapId_rep (p:=(·<8)) key (id:=q.1) (w:=w') (key q.1 (by simpa using h8)) hall e1
  .obtain⟨q,hq,rfl⟩:=List.mem_map.1 hp;have hk2:=(hft q hq k).1 hk;rcases hI2.own _ _ (hlook q hq) (by rw[Blk.mapId_own];exact(hW.new q hq).2.1) k hk2 with h|h
   .exact h.elim
   .exact .inl h
  .obtain⟨q,hq,rfl⟩:=List.mem_map.1 hp;have:=(hW.new q hq).1;simp[inR]at hin;omega
  .obtain⟨q1,hq1,rfl⟩:=List.mem_map.1 hp;obtain⟨q2,hq2,rfl⟩:=List.mem_map.1 hq;exact hI2.sep _ _ _ _ (hlook q1 hq1) (hlook q2 hq2) (by simp only at hne;omega) (by rw[Blk.mapId_own];exact(hW.new q1 hq1).2.1) k ((hft q1 hq1 k).1 hk) ((hft q2 hq2 k).1 hk')
mutual
theorem QLG(Q:List Pr)(f:Nat->Nat):∀ u v:AV,u.same v->∃ ps,eqV Q u (v.mapId f)=some ps/\Ka ps
 | .int ..,v,h=>by
  cases v<;>simp only[AV.same]at h
  obtain⟨rfl,rfl⟩:=h;rename_i c k n c';exact⟨[n=n],by simp only[AV.mapId,eqV,QNk,beq_self_eq_true],rfl,trivial⟩
 | .bool ..,v,h=>by
  cases v<;>simp only[AV.same]at h
  subst h;exact⟨_,rfl,rfl,trivial⟩
 | .nilp,v,h=>by cases v<;>simp only[AV.same]at h;exact⟨_,rfl,trivial⟩
 | .nils,v,h=>by cases v<;>simp only[AV.same]at h;exact⟨_,rfl,trivial⟩
 | .nilm,v,h=>by cases v<;>simp only[AV.same]at h;exact⟨_,rfl,trivial⟩
 | .nilf,v,h=>by cases v<;>simp only[AV.same]at h;exact⟨_,rfl,trivial⟩
 | .nili,v,h=>by cases v<;>simp only[AV.same]at h;exact⟨_,rfl,trivial⟩
 | .str ..,v,h=>by
  cases v<;>simp only[AV.same]at h
  subst h;exact⟨_,rfl,rfl,trivial⟩
 | .ifc t u,v,h=>by
  cases v<;>simp only[AV.same]at h
  obtain⟨rfl,h⟩:=h;obtain⟨ps,h1,h2⟩:=QLG Q f u _ h;exact⟨(t=t)::ps,by simp only[AV.mapId,eqV];rw[h1],rfl,h2⟩
 | .agg l,v,h=>by
  cases v<;>simp only[AV.same]at h
  exact eqL_same Q f l _ h
 | .tup l,v,h=>by
  cases v<;>simp only[AV.same]at h
  exact eqL_same Q f l _ h
 | .ptr ..,v,h=>by cases v<;>simp only[AV.same]at h
 | .addr ..,v,h=>by cases v<;>simp only[AV.same]at h
 | .slice ..,v,h=>by cases v<;>simp only[AV.same]at h
 | .slz ..,v,h=>by cases v<;>simp only[AV.same]at h
 | .map ..,v,h=>by cases v<;>simp only[AV.same]at h
 | .yld ..,v,h=>by cases v<;>simp only[AV.same]at h
 | .fn ..,v,h=>by cases v<;>simp only[AV.same]at h
 | .raw ..,v,h=>by cases v<;>simp only[AV.same]at h
 | .opt ..,v,h=>by cases v<;>simp only[AV.same]at h
 | .mth ..,v,h=>by cases v<;>simp only[AV.same]at h
 | .alt ..,v,h=>by cases v<;>simp only[AV.same]at h
theorem eqL_same(Q:List Pr)(f:Nat->Nat):∀ u v:List AV,AV.sameL u v->∃ ps,eqL Q u (AV.mapIdL f v)=some ps/\Ka ps
 | [],v,h=>by cases v<;>simp only[AV.sameL]at h;exact⟨_,rfl,trivial⟩
 | x::l,v,h=>by
  cases v<;>simp only[AV.sameL]at h
  obtain⟨p1,a1,a2⟩:=QLG Q f x _ h.1;obtain⟨p2,b1,b2⟩:=eqL_same Q f l _ h.2;exact⟨p1++p2,by simp only[AV.mapIdL,eqL];rw[a1,b1],jS.2 ⟨a2,b2⟩⟩
end
mutual
theorem QHu(f:Nat->Nat):∀ u v:AV,u.same v->prV u (v.mapId f)=[]/\(v.mapId f).all (λ_=>false)=true
 | .int ..,v,h=>by cases v<;>simp only[AV.same]at h;exact⟨rfl,rfl⟩
 | .bool ..,v,h=>by cases v<;>simp only[AV.same]at h;exact⟨rfl,rfl⟩
 | .nilp,v,h=>by cases v<;>simp only[AV.same]at h;exact⟨rfl,rfl⟩
 | .nils,v,h=>by cases v<;>simp only[AV.same]at h;exact⟨rfl,rfl⟩
 | .nilm,v,h=>by cases v<;>simp only[AV.same]at h;exact⟨rfl,rfl⟩
 | .nilf,v,h=>by cases v<;>simp only[AV.same]at h;exact⟨rfl,rfl⟩
 | .nili,v,h=>by cases v<;>simp only[AV.same]at h;exact⟨rfl,rfl⟩
 | .str ..,v,h=>by cases v<;>simp only[AV.same]at h;exact⟨rfl,rfl⟩
 | .ifc t u,v,h=>by cases v<;>simp only[AV.same]at h;exact QHu f u _ h.2
 | .agg l,v,h=>by cases v<;>simp only[AV.same]at h;exact prL_same f l _ h
 | .tup l,v,h=>by cases v<;>simp only[AV.same]at h;exact prL_same f l _ h
 | .ptr ..,v,h=>by cases v<;>simp only[AV.same]at h
 | .addr ..,v,h=>by cases v<;>simp only[AV.same]at h
 | .slice ..,v,h=>by cases v<;>simp only[AV.same]at h
 | .slz ..,v,h=>by cases v<;>simp only[AV.same]at h
 | .map ..,v,h=>by cases v<;>simp only[AV.same]at h
 | .yld ..,v,h=>by cases v<;>simp only[AV.same]at h
 | .fn ..,v,h=>by cases v<;>simp only[AV.same]at h
 | .raw ..,v,h=>by cases v<;>simp only[AV.same]at h
 | .opt ..,v,h=>by cases v<;>simp only[AV.same]at h
 | .mth ..,v,h=>by cases v<;>simp only[AV.same]at h
 | .alt ..,v,h=>by cases v<;>simp only[AV.same]at h
theorem prL_same(f:Nat->Nat):∀ u v:List AV,AV.sameL u v->prL u (AV.mapIdL f v)=[]/\AV.allL (λ_=>false) (AV.mapIdL f v)=true
 | [],v,h=>by cases v<;>simp only[AV.sameL]at h;exact⟨rfl,rfl⟩
 | x::l,v,h=>by
  cases v<;>simp only[AV.sameL]at h
  obtain⟨a1,a2⟩:=QHu f x _ h.1;obtain⟨b1,b2⟩:=prL_same f l _ h.2;exact⟨by simp only[AV.mapIdL,prL];rw[a1,b1];rfl,by simp only[AV.mapIdL,AV.allL,a2,b2];rfl⟩
end
theorem KN{N:Nat}{u v:AV}{h:List (Nat×Blk)}(hs:u.same v)(hd:V8 h=true):ZY N v [] u h:=by
 refine{ slots:=rfl,len:=rfl,eqs := ?_ };obtain⟨p1,p2⟩:=QHu (·+N) u v hs;obtain⟨ps,e1,e2⟩:=QLG (Wx N [u] [v.mapId (·+N)] h []) (·+N) u v hs;refine⟨ps++[]++[],?_,by simpa using e2⟩
 have hsc:qw (Kk N v [])=true:=by
  simp only[qw,Kk,List.map_nil,List.all_cons,List.all_nil,Bool.and_true];exact all_mono (λ_ hf=>by cases hf) _ p2
 have hu:Wx N [u] [v.mapId (·+N)] h []=[]:=by
  simp only[Wx,prL,p1,QEG,QBV,QDw,List.flatMap_nil,List.append_nil]
 rw[hu]at e1;unfold QF;have hJ:(Kk N v []).live.map (·.2)=[v.mapId (·+N)]:=rfl;have hH:(Kk N v []).hp=[]:=rfl;rw[hJ,hH,hu];simp only[eqL,e1,eqH,hsc,QBq,QBd,hd,QKK,Bool.and_self]
