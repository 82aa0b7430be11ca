/- - -/
import Derived.Test.YtekbmehgcofnkaaGreatVi
namespace Go.SX
open Go Go.RowKit Go.Proofs.YtekbmehgcofnkaaGreat
def Ke(L:Nat->Bool):Nat->List (Oper×Rec)->St->St
 | _,[],st=>st
 | k,x::l,st=>Ke L (k+1) l (if L k then Q3 x.1 x.2 st else st)
theorem QAu(u:List (Nat×Blk))(id:Nat):((∃ p∈u,p.1=id)/\∃ c,∀ lk,Jp u lk id=c)∨((∀ p∈u,p.1≠id)/\∀ lk,Jp u lk id=lk id):=by
 induction u with
 | nil=>exact .inr ⟨by simp,λ_=>rfl⟩
 | cons p u ih=>
  obtain⟨i,b⟩:=p
  by_cases h:i=id
  .subst h;exact .inl ⟨⟨(i,b),by simp,rfl⟩,_,λlk=>by simp only[Jp,beq_self_eq_true,if_true];rfl⟩
  .have hb:(i==id)=false:=by simpa using h
   rcases ih with ⟨⟨p,hp,he⟩,c,hc⟩|⟨hn,hc⟩
   .exact .inl ⟨⟨p,by simp[hp],he⟩,c,λlk=>by simp only[Jp,hb,Bool.false_eq_true,if_false];exact hc lk⟩
   .refine .inr ⟨λp hp=>?_,λlk=>by simp only[Jp,hb,Bool.false_eq_true,if_false];exact hc lk⟩
    rcases List.mem_cons.1 hp with rfl|hp
    .exact h
    .exact hn p hp
theorem qg(o:Oper)(rec:Rec)(s:St)(t:Nat):QJ (Q3 o rec s).tm t=if o.dst=some t/\t<s.tm.length then rec.val else QJ s.tm t:=Zl _ _ _ _
theorem Zy(o:Oper)(rec:Rec)(s:St)(id:Nat):look (Q3 o rec s).hp id=Jp rec.upd (look s.hp) id:=(jK _ _ _).trans (QEU _ _ _)
theorem QIz(L:Nat->Bool):∀(l:List (Oper×Rec)) (k:Nat) (s:St),(Ke L k l s).tm.length=s.tm.length
 | [],_,_=>rfl
 | x::l,k,s=>by
  rw[Ke,QIz L l];split
  .exact XI _ _ _
  .rfl
theorem QNT{L1 L2:Nat->Bool}{t:Nat}:∀(l:List (Oper×Rec)) (k:Nat) (s1 s2:St),QJ s1.tm t=QJ s2.tm t->s1.tm.length=s2.tm.length->(∀(j:Nat) (x:Oper×Rec),l[j]? = some x->L1 (k+j)≠L2 (k+j)->x.1.dst≠some t) ->
  QJ (Ke L1 k l s1).tm t=QJ (Ke L2 k l s2).tm t
 | [],_,_,_,h,_,_=>h
 | x::l,k,s1,s2,h,hl,hx=>by
  rw[Ke,Ke];refine QNT l (k+1) _ _ ?_ ?_ (λj y hy hne=>hx (j+1) y hy (by rw[show k+(j+1)=k+1+j by omega];exact hne))
  .have h0:=hx 0 x rfl;rw[Nat.add_zero]at h0;cases h1:L1 k<;>cases h2:L2 k<;>simp only[Bool.false_eq_true,if_false,if_true]
   .exact h
   .rw[qg,if_neg (λg=>h0 (by rw[h1,h2];decide) g.1)];exact h
   .rw[qg,if_neg (λg=>h0 (by rw[h1,h2];decide) g.1)];exact h
   .rw[qg,qg,hl,h]
  .split<;>split<;>(try simp only[XI])<;>exact hl
theorem QL0{L1 L2:Nat->Bool}{id:Nat}:∀(l:List (Oper×Rec)) (k:Nat) (s1 s2:St),look s1.hp id=look s2.hp id->(∀(j:Nat) (x:Oper×Rec),l[j]? = some x->L1 (k+j)≠L2 (k+j)->∀ p∈x.2.upd,p.1≠id) ->
  look (Ke L1 k l s1).hp id=look (Ke L2 k l s2).hp id
 | [],_,_,_,h,_=>h
 | x::l,k,s1,s2,h,hx=>by
  rw[Ke,Ke];refine QL0 l (k+1) _ _ ?_ (λj y hy hne=>hx (j+1) y hy (by rw[show k+(j+1)=k+1+j by omega];exact hne))
  have h0:=hx 0 x rfl;rw[Nat.add_zero]at h0
  have key:L1 k≠L2 k->∀ lk,Jp x.2.upd lk id=lk id:=λhne=>by
   rcases QAu x.2.upd id with ⟨⟨p,hp,he⟩,_⟩|⟨_,h⟩
   .exact absurd he (h0 hne p hp)
   .exact h
  cases h1:L1 k<;>cases h2:L2 k<;>simp only[Bool.false_eq_true,if_false,if_true]
  .exact h
  .rw[Zy,key (by rw[h1,h2];decide)];exact h
  .rw[Zy,key (by rw[h1,h2];decide)];exact h
  .rw[Zy,Zy];rcases QAu x.2.upd id with ⟨_,c,hc⟩|⟨_,hc⟩
   .rw[hc,hc]
   .rw[hc,hc];exact h
structure Off (d:Option Nat) (v:AV) (u:List (Nat×Blk)) (s1 s2:St):Prop where
 len:s1.tm.length=s2.tm.length
 tm:∀ t,QJ s1.tm t=vS s2.tm.length (QJ s2.tm) d v t
 lk:∀ id,look s1.hp id=Jp u (look s2.hp) id
theorem Off.go{d:Option Nat}{v:AV}{u:List (Nat×Blk)}{L1 L2:Nat->Bool}:∀(l:List (Oper×Rec)) (k:Nat) (s1 s2:St),Off d v u s1 s2 ->
  (∀(j:Nat) (x:Oper×Rec),l[j]? = some x->L1 (k+j)=L2 (k+j)/\(L1 (k+j)=true->(∀ t,x.1.dst=some t->d≠some t)/\∀ p∈x.2.upd,∀ q∈u,p.1≠q.1)) ->
  Off d v u (Ke L1 k l s1) (Ke L2 k l s2)
 | [],_,_,_,h,_=>h
 | x::l,k,s1,s2,h,hx=>by
  rw[Ke,Ke];refine Off.go l (k+1) _ _ ?_ (λj y hy=>by have:=hx (j+1) y hy;rw[show k+(j+1)=k+1+j by omega]at this;exact this)
  have h0:=hx 0 x rfl;rw[Nat.add_zero]at h0;rw[<-h0.1];cases h1:L1 k<;>simp only[Bool.false_eq_true,if_false,if_true]
  .exact h
  .obtain⟨hd,hu⟩:=h0.2 h1;refine⟨by rw[XI,XI,h.len],λt=>?_,λid=>?_⟩
   .rw[qg,h.tm t,XI];unfold vS;rw[qg,h.len]
    by_cases g1:x.1.dst=some t/\t<s2.tm.length
    .rw[if_pos g1,if_pos g1,if_neg (λg=>hd t g1.1 g.1)]
    .rw[if_neg g1,if_neg g1]
   .rw[Zy];have hlk:=h.lk id;rcases QAu x.2.upd id with ⟨⟨p,hp,he⟩,c,hc⟩|⟨_,hc⟩
    .have hn:∀ lk,Jp u lk id=lk id:=by
      rcases QAu u id with ⟨⟨q,hq,he'⟩,_⟩|⟨_,h⟩
      .exact absurd (he.trans he'.symm) (hu p hp q hq)
      .exact h
     rw[hc,hn,Zy,hc]
    .rw[hc];rcases QAu u id with ⟨_,c,hc'⟩|⟨_,hc'⟩
     .rw[hlk,hc',hc']
     .rw[hlk,hc',hc',Zy,hc]
theorem QOW{L1 L2:Nat->Bool}{i:Nat}{xi:Oper×Rec}:∀(l:List (Oper×Rec)) (k:Nat) (s:St),k<=i->l[i-k]? = some xi->L1 i=true->L2 i=false->(∀ j,j≠i->L1 j=L2 j) ->
  (∀(j:Nat) (x:Oper×Rec),l[j]? = some x->i<k+j->L1 (k+j)=true->(∀ t,x.1.dst=some t->xi.1.dst≠some t)/\∀ p∈x.2.upd,∀ q∈xi.2.upd,p.1≠q.1) ->
  Off xi.1.dst xi.2.val xi.2.upd (Ke L1 k l s) (Ke L2 k l s)
 | [],k,s,hk,hi,_,_,_,_=>by simp at hi
 | x::l,k,s,hk,hi,h1,h2,hne,hx=>by
  rw[Ke,Ke]
  by_cases hki:k=i
  .subst hki;simp only[Nat.sub_self,List.getElem?_cons_zero,qsI]at hi;subst hi;simp only[h1,h2,Bool.false_eq_true,if_false,if_true];refine Off.go l (k+1) _ _ ⟨XI _ _ _,λt=>?_,λid=>?_⟩ (λj y hy=>⟨hne _ (by omega),λhl=>?_⟩)
   .rw[qg];rfl
   .rw[Zy]
   .exact hx (j+1) y hy (by omega) (by rw[show k+(j+1)=k+1+j by omega];exact hl)
  .rw[hne k hki];refine QOW l (k+1) _ (by omega) ?_ h1 h2 hne (λj y hy hlt hl=>?_)
   .rw[show i-k=(i-(k+1))+1 by omega]at hi
    simpa using hi
   .exact hx (j+1) y hy (by omega) (by rw[show k+(j+1)=k+1+j by omega];exact hl)
theorem QLx{n:Nat}{L:Nat->Bool}:∀(l:List (Oper×Rec)) (k:Nat) (s:St),GI n (QJ s.tm) (look s.hp)->(∀(j:Nat) (x:Oper×Rec),l[j]? = some x->L (k+j)=true->noR n x.2=true)->GI n (QJ (Ke L k l s).tm) (look (Ke L k l s).hp)
 | [],_,_,h,_=>h
 | x::l,k,s,h,hx=>by
  rw[Ke];refine QLx l (k+1) _ ?_ (λj y hy hl=>hx (j+1) y hy (by rw[show k+(j+1)=k+1+j by omega];exact hl))
  split
  .rename_i hl;have h0:=hx 0 x rfl hl;unfold noR at h0;simp only[qbA,List.all_eq_true]at h0;refine⟨λt=>?_,λid b hb=>?_,λid b hb=>?_⟩
   .rw[qg];split
    .exact h0.1
    .exact h.tm t
   .rw[Zy]at hb;rcases QAD hb with ⟨p,hp,rfl,_,_⟩|⟨hb,_⟩
    .have:=(h0.2 p hp).1;simpa using this
    .exact h.out id b hb
   .rw[Zy]at hb;rcases QAD hb with ⟨p,hp,_,rfl,_⟩|⟨hb,_⟩
    .exact(h0.2 p hp).2
    .exact h.blk id b hb
  .exact h
theorem QCg{L:Nat->Bool}:∀(l:List (Oper×Rec)) (k:Nat) (s:St),(∀ j,k<=j->L j=false)->Ke L k l s=s
 | [],_,_,_=>rfl
 | x::l,k,s,h=>by
  rw[Ke,if_neg (by rw[h k (qlr _)];decide)]
  exact QCg l (k+1) s (λj hj=>h j (by omega))
theorem QNQ{L1 L2:Nat->Bool}:∀(l:List (Oper×Rec)) (k:Nat) (s:St),(∀ j,k<=j->j<k+l.length->L1 j=L2 j)->Ke L1 k l s=Ke L2 k l s
 | [],_,_,_=>rfl
 | x::l,k,s,h=>by
  simp only[List.length_cons]at h;rw[Ke,Ke,h k (qlr _) (by omega)]
  exact QNQ l (k+1) _ (λj hj hlt=>h j (by omega) (by omega))
def Gy:Rec:=⟨.tup [],[],[]⟩
structure Qed (E:Env) (ops:Array Oper) (base:Nat) (i:Nat) (o:Oper) (rec:Rec) (s:St):Prop where
 at_:∃ tm,Eqv s.tm tm/\K9 (base+8*i) { s with tm:=tm }/\((XS ops tm o=some true/\Ran E o (base+8*i) { s with tm:=tm } rec)∨(XS ops tm o=some false/\rec=Gy)∨∃ g u,rec=⟨u,[],rec.ids⟩/\qI E ops o (base+8*i) { s with tm:=tm } g u rec.ids)
variable {s s':St}{E:Env}{n base:Nat}{ops:Array Oper}{l:List Oper}
theorem QKC(o:Oper)(rec:Rec)(ht:Eqv s.tm s'.tm)(hh:s.hp=s'.hp):Eqv (Q3 o rec s).tm (Q3 o rec s').tm/\(Q3 o rec s).hp=(Q3 o rec s').hp:=
 ⟨ht.setO _ _,by unfold Q3;simp only[hh]⟩
theorem QNs{o:Oper}{rec:Rec}(h:Ran E o n s rec)(ht:s.tm=s'.tm)(hh:s.hp=s'.hp):Ran E o n s' rec:=by
 obtain⟨h⟩:=h;exact⟨by rw[<-ht,<-hh];exact h⟩
theorem jD(h:K9 n s)(ht:s.tm=s'.tm)(hh:s.hp=s'.hp):K9 n s':=
 ⟨λt=>by rw[<-ht];exact h.tm t,λid b=>by rw[<-hh];exact h.out id b,λid b=>by rw[<-hh];exact h.blk id b⟩
theorem QWY{o:Oper}{g:Bool}{v:AV}{ids:List Nat}(h:qI E ops o n s g v ids)(ht:s.tm=s'.tm)(hh:s.hp=s'.hp):qI E ops o n s' g v ids:=by
 refine⟨λa r ha=>h.gd a r (by rw[ht];exact ha),h.sc,h.off,λhg=>?_⟩
 obtain⟨tm',v',h1,h2,h3,h4,h5⟩:=h.run hg;exact⟨tm',v',by rw[<-ht];exact h1,by rw[<-ht];exact h2,by rw[<-ht];exact h3,QNs h4 rfl hh,h5⟩
theorem YF.lex:∀{k:Nat} {l:List Oper} {st:St} {rs:List Rec} {st':St},YF E ops base k l st rs st' ->
  ∀ s0:St,Eqv s0.tm st.tm->s0.hp=st.hp->K9 (base+8*k) st->rs.length=l.length/\(∀(i:Nat) (o:Oper) (rec:Rec),l[i]? = some o->rs[i]? = some rec->Qed E ops base (k+i) o rec (Ke (λj=>decide (j<k+i)) k (l.zip rs) s0)) /\
   Eqv (Ke (λ_=>true) k (l.zip rs) s0).tm st'.tm/\(Ke (λ_=>true) k (l.zip rs) s0).hp=st'.hp/\K9 (base+8*(k+l.length)) st'/\st'.tm.length=st.tm.length:=by
 intro k l st rs st' h
 induction h with
 | nil=>intro s0 h1 h2 h3;exact⟨rfl,by simp,h1,h2,by simpa using h3,rfl⟩
 | @run k o l st tm rec rs st' he hg h _ ih=>
  intro s0 h1 h2 h3;have h4:=h3.eqv he;have ha:=QKC o rec (s:=s0) (s':={ st with tm:=tm }) (h1.trans he) h2
  obtain⟨i1,i2,i3,i4,i5,i6⟩:=ih (Q3 o rec s0) ha.1 ha.2 (by rw[Nat.mul_add,<-Nat.add_assoc];exact h.scopedAt h4)
  refine⟨by simp[i1],λi o' rec' ho hr=>?_,i3,i4,by rw[List.length_cons,show k+(l.length+1)=k+1+l.length by omega];exact i5,by rw[i6,XI];exact he.1.symm⟩
  cases i with
  | zero=>
   simp only[List.getElem?_cons_zero,qsI]at ho hr;subst ho hr;rw[QCg _ _ _ (λj hj=>by simp;omega)]
   exact⟨tm,h1.trans he,jD h4 rfl h2.symm,.inl ⟨hg,QNs h rfl h2.symm⟩⟩
  | succ i=>
   simp only[List.getElem?_cons_succ]at ho hr;have:=i2 i o' rec' ho hr;rw[List.zip_cons_cons,Ke,if_pos (by simp),show k+(i+1)=k+1+i by omega]
   exact this
 | @skip k o l st tm rs st' he hg _ ih=>
  intro s0 h1 h2 h3;have h4:=h3.eqv he;have ha:=QKC o Gy (s:=s0) (s':={ st with tm:=tm }) (h1.trans he) h2
  obtain⟨i1,i2,i3,i4,i5,i6⟩:=ih (Q3 o Gy s0) ha.1 ha.2 (h4.skip (by omega))
  refine⟨by simp[i1],λi o' rec' ho hr=>?_,i3,i4,by rw[List.length_cons,show k+(l.length+1)=k+1+l.length by omega];exact i5,by rw[i6,XI];exact he.1.symm⟩
  cases i with
  | zero=>
   simp only[List.getElem?_cons_zero,qsI]at ho hr;subst ho hr;rw[QCg _ _ _ (λj hj=>by simp;omega)]
   exact⟨tm,h1.trans he,jD h4 rfl h2.symm,.inr (.inl ⟨hg,rfl⟩)⟩
  | succ i=>
   simp only[List.getElem?_cons_succ]at ho hr;have:=i2 i o' rec' ho hr;rw[List.zip_cons_cons,Ke,if_pos (by simp),show k+(i+1)=k+1+i by omega]
   exact this
 | @spec k o l st g v ids rs st' h _ ih=>
  intro s0 h1 h2 h3;have ha:=QKC o ⟨v,[],ids⟩ (s:=s0) (s':=st) h1 h2;have hsc:K9 (base+8*k+8) (Q3 o ⟨v,[],ids⟩ st):=h3.apply (by omega) ⟨h.sc,by simp⟩ (by simp)
  obtain⟨i1,i2,i3,i4,i5,i6⟩:=ih (Q3 o ⟨v,[],ids⟩ s0) ha.1 ha.2 (by rw[Nat.mul_add,<-Nat.add_assoc];exact hsc)
  refine⟨by simp[i1],λi o' rec' ho hr=>?_,i3,i4,by rw[List.length_cons,show k+(l.length+1)=k+1+l.length by omega];exact i5,by rw[i6,XI]⟩
  cases i with
  | zero=>
   simp only[List.getElem?_cons_zero,qsI]at ho hr;subst ho hr;rw[QCg _ _ _ (λj hj=>by simp;omega)]
   exact⟨st.tm,h1,jD h3 rfl h2.symm,.inr (.inr ⟨g,v,rfl,QWY h rfl h2.symm⟩)⟩
  | succ i=>
   simp only[List.getElem?_cons_succ]at ho hr;have:=i2 i o' rec' ho hr;rw[List.zip_cons_cons,Ke,if_pos (by simp),show k+(i+1)=k+1+i by omega]
   exact this
theorem QRz{P:Program}{rd:Option Nat}{md:Region.Mode}{ops:Array Oper}{Q:Exit->Act->World->Prop}{m:Nat}(I:Array Bool->Act->World->Prop)(hsz:∀ L a w,I L a w->L.size=ops.size)(hm:m<=ops.size)(hup:∀ L a w,I L a w->∀ j,m<=j->L.getD j false=false)(hstep:∀ L a w,I L a w->(∃ j,j<m/\L.getD j false=false)->∀ i∈Region.ready md ops L,i<m/\wpOpIn (FW rd) 0 P ops Q i (I (L.setIfInBounds i true)) a w)(hready:∀ L a w,I L a w->(∃ j,j<m/\L.getD j false=false)->Region.ready md ops L≠[])(hend:∀ fuel L a w,L.toList.count false<=fuel->I L a w->(∀ j,j<m->L.getD j false=true)->wpAnyIn (FW rd) 0 P md ops Q fuel L a w):
  ∀(fuel:Nat) (L:Array Bool) (a:Act) (w:World),L.toList.count false<=fuel->I L a w->wpAnyIn (FW rd) 0 P md ops Q fuel L a w
 | 0,L,a,w,hc,hI=>by
  refine hend 0 L a w hc hI λj hj=>?_;have hlt:j<L.size:=by rw[hsz L a w hI];omega
  rw[Array.getD_eq_getD_getElem?,Array.getElem?_eq_getElem hlt];simp only[Option.getD_some];cases hv:L[j]with
  | true=>rfl
  | false=>
   have:false∈L.toList:=by rw[<-hv];simp
   have:=List.count_pos_iff.2 this;omega
 | fuel+1,L,a,w,hc,hI=>by
  by_cases hall:∀ j,j<m->L.getD j false=true
  .exact hend _ L a w hc hI hall
  .have hex:∃ j,j<m/\L.getD j false=false:=by
    obtain⟨j,h⟩:=Classical.not_forall.1 hall
    by_cases hj:j<m
    .exact⟨j,hj,by simpa using λh'=>h λ_=>h'⟩
    .exact absurd (λh'=>absurd h' hj) h
   refine⟨λhr=>absurd hr (hready L a w hI hex),λi hi=>?_⟩;obtain⟨him,hst⟩:=hstep L a w hI hex i hi;refine wpOpIn_mono (λa' w' h=>QRz I hsz hm hup hstep hready hend fuel _ a' w' ?_ h) hst;have h1:=(mem_ready.1 hi).1;have hlt:i<L.size:=by rw[hsz L a w hI];omega
   rw[Array.getD_eq_getD_getElem?,Array.getElem?_eq_getElem hlt]at h1;simp only[Option.getD_some]at h1;have hcnt:=List.count_set (a:=true) (b:=false) (l:=L.toList) (i:=i) (by simpa using hlt)
   rw[Array.toList_setIfInBounds,hcnt];have:L.toList[i]'(by simpa using hlt)=false:=by simpa using h1
   have e1:(L.toList[i]'(by simpa using hlt)==false)=true:=by rw[this];rfl
   have e2:¬ ((true==false)=true):=by decide
   rw[if_pos e1,if_neg e2];omega
theorem QIM(h:jb l=true):∀(j:Nat) (o:Oper),l[j]? = some o->∀ e∈o.after.toList,Region.binds .any e=true->e.on<j:=by
 have key:∀(l:List Oper) (k:Nat),jb.go k l=true->∀(j:Nat) (o:Oper),l[j]? = some o->∀ e∈o.after.toList,Region.binds .any e=true->e.on<k+j:=by
  intro l
  induction l with
  | nil=>intro k _ j o h;simp at h
  | cons x l ih=>
   intro k h j o ho e he hb;simp only[jb.go,qbA,List.all_eq_true,qbO,Bool.not_eq_true',qdE]at h;cases j with
   | zero=>
    simp only[List.getElem?_cons_zero,qsI]at ho;subst ho;rcases h.1 e he with h1|h1
    .rw[hb]at h1;cases h1
    .exact h1
   | succ j=>
    have:=ih (k+1) h.2 j o (by simpa using ho) e he hb
    omega
 intro j o ho e he hb;have:=key l 0 h j o ho e he hb;omega
theorem QYh{G:Ctx}{N:Nat}{r:Nat->Loc}{tf:Nat->AV}{lk:Nat->Option Blk}{a:Act}{w:World}(h:Inv G N r tf lk a w):Inv G N r tf lk a w.drew:=by
 refine⟨h.size,h.defers,h.tm,λid b hb=>?_,h.live,h.sep,h.ext,⟨h.fr.os,h.fr.tape,h.fr.output,h.fr.size,Nat.le_trans h.fr.drawn (Nat.le_succ _),h.fr.block⟩,h.own⟩;have:=h.rep id b hb;cases b<;>exact this
def X3:Nat->List Nat->Nat
 | k,[]=>k
 | k,m::ms=>match (X3 (k+1) ms==k+1)&&(m==2^k-1)with
  | true=>k
  | false=>X3 (k+1) ms
theorem QMs:∀(ms:List Nat) (k:Nat),X3 k ms<=k+ms.length
 | [],k=>qlr _
 | m::ms,k=>by
  have:=QMs ms (k+1);simp only[List.length_cons,X3];split<;>omega
theorem QQe:∀(ms:List Nat) (k:Nat),k<=X3 k ms
 | [],k=>qlr _
 | m::ms,k=>by
  have:=QQe ms (k+1);simp only[X3];split<;>omega
theorem QKU:∀(ms:List Nat) (k i x:Nat),X3 k ms<=k+i->ms[i]? = some x->x=2^(k+i)-1
 | [],k,i,x,_,h=>by simp at h
 | m::ms,k,i,x,hi,h=>by
  simp only[X3]at hi;split at hi
  .rename_i hc;simp only[qbA,beq_iff_eq]at hc;cases i with
   | zero=>simp only[List.getElem?_cons_zero,qsI]at h;subst h;exact hc.2
   | succ i=>exact(QKU ms (k+1) i x (by omega) (by simpa using h)).trans (by rw[show k+1+i=k+(i+1) by omega])
  .cases i with
   | zero=>have:=QQe ms (k+1);omega
   | succ i=>exact(QKU ms (k+1) i x (by omega) (by simpa using h)).trans (by rw[show k+1+i=k+(i+1) by omega])
theorem QPK{m:Nat}(hfull:∀ i x,m<=i->(JX [] ops.toList)[i]? = some x->x=2^i-1){L:Array Bool}(hdown:∀(j:Nat) (o:Oper),ops.toList[j]? = some o->L.getD j false=true->∀ e∈o.after.toList,Region.binds .any e=true->L.getD e.on false=true){i:Nat}(hi:i∈Region.ready .any ops L)(hm:m<=i){j:Nat}(hj:j<i):L.getD j false=true:=by
 obtain⟨_,o,ho,he⟩:=mem_ready.1 hi;have ho':ops.toList[i]? = some o:=by simpa using ho
 have hms:=QA2 (λj=>L.getD j false=true) ops.toList hdown ops.toList [] [] rfl rfl (by simp)
 obtain⟨x,hx⟩:∃ x,(JX [] ops.toList)[i]? = some x:=⟨_,List.getElem?_eq_getElem (by rw[hms.1];exact(List.getElem?_eq_some_iff.1 ho').1)⟩
 refine hms.2 i o x ho' hx (λe h1 h2=>he e (by simpa using h1) h2) j ?_
 rw[hfull i x hm hx,Nat.testBit_two_pow_sub_one];simpa using hj
theorem QVf{P:Program}{rd:Option Nat}{ops:Array Oper}{Q:Exit->Act->World->Prop}{m:Nat}(hbk:jb ops.toList=true)(hfull:∀ i x,m<=i->(JX [] ops.toList)[i]? = some x->x=2^i-1):
  ∀(l2:List Oper) (k:Nat) (L:Array Bool) (fuel:Nat) (a:Act) (w:World),ops.toList.drop k=l2->m<=k->L.size=ops.size->(∀ j,j<ops.size->L.getD j false=decide (j<k))->L.toList.count false<=fuel ->
   wpListIn (FW rd) 0 P ops Q l2 a w->wpAnyIn (FW rd) 0 P .any ops Q fuel L a w
 | [],k,L,fuel,a,w,hd,hm,hsz,hL,hc,h=>by
  have hk:ops.size<=k:=by simpa using List.drop_eq_nil_iff.1 hd
  have hr:Region.ready .any ops L=[]:=by
   rw[List.eq_nil_iff_forall_not_mem];intro i hi;obtain⟨h1,o,ho,_⟩:=mem_ready.1 hi;have hlt:i<ops.size:=(Array.getElem?_eq_some_iff.1 ho).1;have h2:=hL i hlt;have hlt':i<L.size:=by omega
   rw[Array.getD_eq_getD_getElem?,Array.getElem?_eq_getElem hlt']at h1 h2;simp only[Option.getD_some]at h1 h2;rw[h1]at h2;have:i<k:=by omega
   simp[this]at h2
  cases fuel with
  | zero=>exact⟨hr,h⟩
  | succ fuel=>exact⟨λ_=>h,by rw[hr];simp⟩
 | o::l2,k,L,fuel,a,w,hd,hm,hsz,hL,hc,h=>by
  have hko:ops.toList[k]? = some o:=by
   have:(ops.toList.drop k)[0]? = some o:=by rw[hd];rfl
   simpa using this
  have hk:k<ops.size:=by simpa using (List.getElem?_eq_some_iff.1 hko).1
  have hkL:k<L.size:=by omega
  have hLk:L[k]=false:=by
   have:=hL k hk;rw[Array.getD_eq_getD_getElem?,Array.getElem?_eq_getElem hkL]at this;simpa using this
  have hback:=QIM hbk
  have hdown:∀(j:Nat) (o:Oper),ops.toList[j]? = some o->L.getD j false=true->∀ e∈o.after.toList,Region.binds .any e=true->L.getD e.on false=true:=by
   intro j o' ho' hj e he hb;have hjs:j<ops.size:=by simpa using (List.getElem?_eq_some_iff.1 ho').1
   have hlt:=hback j o' ho' e he hb;rw[hL j hjs]at hj;rw[hL _ (by omega)]
   simp only[qdE]at hj ⊢;omega
  have hkr:k∈Region.ready .any ops L:=by
   rw[mem_ready];refine⟨by rw[Array.getD_eq_getD_getElem?,Array.getElem?_eq_getElem hkL];simpa using hLk,o,by simpa using hko,λe he hb=>?_⟩
   have hlt:=hback k o hko e (by simpa using he) hb
   rw[hL _ (by omega)];simpa using hlt
  cases fuel with
  | zero=>
   have:false∈L.toList:=by rw[<-hLk];simp
   have:=List.count_pos_iff.2 this;omega
  | succ fuel=>
   refine⟨λhr=>(by rw[hr]at hkr;cases hkr),λi hi=>?_⟩
   have hik:i=k:=by
    obtain⟨h1,oi,hoi,_⟩:=mem_ready.1 hi;have his:i<ops.size:=(Array.getElem?_eq_some_iff.1 hoi).1
    have h2:L.getD i false=false:=by
     have hlt':i<L.size:=by omega
     rw[Array.getD_eq_getD_getElem?,Array.getElem?_eq_getElem hlt']at h1 ⊢;exact h1
    rw[hL i his]at h2;have hge:k<=i:=by simpa using h2
    rcases Nat.lt_or_ge k i with hlt|hge'
    .have:=QPK hfull hdown hi (by omega) hlt
     rw[hL k hk]at this;simp at this
    .omega
   subst hik
   have hrec:∀ a' w',wpListIn (FW rd) 0 P ops Q l2 a' w'->wpAnyIn (FW rd) 0 P .any ops Q fuel (L.setIfInBounds i true) a' w':=by
    intro a' w' h';refine QVf hbk hfull l2 (i+1) _ fuel a' w' ?_ (by omega) (by simpa using hsz) (λj hj=>?_) ?_ h'
    .rw[<-List.drop_drop,hd];rfl
    .by_cases hji:j=i
     .subst hji;rw[Array.getD_eq_getD_getElem?,Array.getElem?_setIfInBounds];simp[hkL]
     .rw[getD_set_ne false (λe=>hji e.symm),hL j hj]
      by_cases h1:j<i
      .simp[h1,Nat.lt_succ_of_lt h1]
      .have:¬ j<i+1:=by omega
       simp[h1,this]
    .have hcnt:=List.count_set (a:=true) (b:=false) (l:=L.toList) (i:=i) (by simpa using hkL)
     rw[Array.toList_setIfInBounds,hcnt];have:L.toList[i]'(by simpa using hkL)=false:=by simpa using hLk
     have e1:(L.toList[i]'(by simpa using hkL)==false)=true:=by rw[this];rfl
     have e2:¬ ((true==false)=true):=by decide
     rw[if_pos e1,if_neg e2];omega
   have ho':ops[i]? = some o:=by simpa using hko
   unfold wpListIn at h;unfold wpOpIn;simp only[ho'];split
   .rename_i hw;rw[if_pos hw]at h;exact Oper.wpIn_mono hrec h
   .rename_i hw;rw[if_neg hw]at h;exact⟨h.1,hrec _ _ h.2⟩
theorem QdE{rs:List Rec}(hback:jb l=true)(hlen:rs.length=l.length)(h:(QGX ops base l rs (JX [] l)||QBs ops base 0 (l.zip rs) (JX [] l))=true):
  ∀(i j:Nat) (x y:Oper×Rec) (m:Nat),i<j->(l.zip rs)[i]? = some x->(l.zip rs)[j]? = some y->(JX [] l)[j]? = some m->m.testBit i=true∨Yv ops base i x j y=true:=by
 intro i j x y m hij hx hy hm;have hb:=QIM hback;have hmask:=λi=>QA2 (λb=>b<i) l (λj o ho hj e he hbd=>Nat.lt_trans (hb j o ho e he hbd) hj) l [] [] rfl rfl (by simp)
 have hml:(JX [] l).length=l.length:=(hmask 0).1;have hzl:(l.zip rs).length=l.length:=by simp[hlen]
 rw[qbO]at h;rcases h with h|h
 .obtain⟨hxo,_⟩:=List.getElem?_zip_eq_some.1 hx;have hil:=(List.getElem?_eq_some_iff.1 hxo).1;refine Qin h hlen i j x y m hij hx hy hm (by rw[List.getElem?_eq_getElem (by omega)];simp) λmi k hmi hk=>?_
  exact(hmask i).2 i x.1 mi hxo hmi (λe he hbd=>hb i x.1 hxo e he hbd) k hk
 .exact QlF (l.zip rs) (JX [] l) 0 (by rw[hml,hzl]) h i j i j x y m hij (by omega) (by omega) hx hy hm
theorem QY5(hE:E.Sound){G:Ctx}{l2:List Oper}(hops:ops.toList=l++l2)(hn:G.n<=base){Q:Exit->Act->World->Prop}{st st':St}{rs:List Rec}(h:YF E ops base 0 l st rs st')(hok:QKT ops base l rs=true)(hbk:jb ops.toList=true)(hfull:∀ i x,l.length<=i->(JX [] ops.toList)[i]? = some x->x=2^i-1){a:Act}{w:World}(hr:Rep G base st a w)(hQ:∀ a' w',Rep G (base+8*l.length) st' a' w'->wpListIn (FW G.rd) 0 E.P ops Q l2 a' w'){id:Nat}:(Code.region id ops true).wpIn (FW G.rd) 0 E.P Q a w:=by
 have hget0:∀ i,i<l.length->ops[i]? = l[i]? := by
  intro i hi;rw[<-Array.getElem?_toList,hops,List.getElem?_append_left hi]
 have hle:l.length<=ops.size:=by rw[<-Array.length_toList,hops];simp
 obtain⟨⟨r0,hI0⟩,hS0⟩:=hr;obtain⟨hlen,hlex,hfin,hfinh,hScf,hNf⟩:=h.lex st (Eqv.refl _) rfl (by simpa using hS0)
 unfold QKT at hok;simp only[qbA]at hok;obtain⟨⟨hback,_⟩,hpairs⟩:=hok;have hpairs:=QdE hback hlen hpairs;have hback:=QIM hback;have hzl:(l.zip rs).length=l.length:=by simp[hlen]
 have hget:∀(i:Nat) (o:Oper),l[i]? = some o->∃ rec,rs[i]? = some rec/\(l.zip rs)[i]? = some (o,rec):=by
  intro i o ho;have hi:=(List.getElem?_eq_some_iff.1 ho).1;obtain⟨rec,hrec⟩:∃ rec,rs[i]? = some rec:=⟨_,List.getElem?_eq_getElem (by omega)⟩
  exact⟨rec,hrec,by rw[List.getElem?_zip_eq_some];exact⟨ho,hrec⟩⟩
 have hzip:∀(i:Nat) (x:Oper×Rec),(l.zip rs)[i]? = some x->l[i]? = some x.1/\rs[i]? = some x.2:=λi x hx=>List.getElem?_zip_eq_some.1 hx
 have hrec:∀(j:Nat) (x:Oper×Rec),(l.zip rs)[j]? = some x->QEu (base+8*j+8) x.2/\∀ p∈x.2.upd,p.1<base+8*j+8:=by
  intro j x hx;obtain⟨h1,h2⟩:=hzip j x hx;obtain⟨tm,_,hsc,hh⟩:=(hlex j x.1 x.2 h1 h2).at_
  rw[Nat.zero_add]at hsc hh;rcases hh with ⟨_,hran⟩|⟨_,hu⟩|⟨g,v,he,hsp⟩
  rotate_left 2
  .rw[he];exact⟨⟨hsp.sc,by simp⟩,by simp⟩
  .refine⟨hran.ok.1,λp hp=>?_⟩;rcases hran.ok.2 p hp with h3|⟨_,b,hb,_⟩
   .exact QJA h3
   .have:=hsc.out _ _ hb;omega
  .rw[hu];exact⟨⟨rfl,by simp[Gy]⟩,by simp[Gy]⟩
 have hnoR:∀(i j:Nat) (x:Oper×Rec),(l.zip rs)[j]? = some x->j<i->noR (base+8*i) x.2=true:=by
  intro i j x hx hji;obtain⟨h1,h2⟩:=hrec j x hx;unfold noR;simp only[qbA,List.all_eq_true];refine⟨all_mono (jA (by omega)) _ h1.val,λp hp=>⟨?_,Blk.all_mono (jA (by omega)) _ (h1.upd p hp)⟩⟩
  exact jA (n:=base+8*j+8) (by omega) p.1 (by simpa using h2 p hp)
 let S:Array Bool->St:=λL=>Ke (λj=>L.getD j false) 0 (l.zip rs) st;have hmix:=hE.mixed;refine wpIn_region_any hmix ?_
 have hready0:∀(L:Array Bool),L.size=ops.size->(∀ j,l.length<=j->L.getD j false=false)->(∀(j:Nat) (o:Oper),l[j]? = some o->L.getD j false=true->∀ e∈o.after.toList,Region.binds .any e=true->L.getD e.on false=true) ->
   ∀(j:Nat) (o:Oper),ops.toList[j]? = some o->L.getD j false=true->∀ e∈o.after.toList,Region.binds .any e=true->L.getD e.on false=true:=by
  intro L _ hup hdown j o ho hj;rcases Nat.lt_or_ge j l.length with hlt|hge
  .refine hdown j o ?_ hj;rw[<-hget0 j hlt];simpa using ho
  .rw[hup j hge]at hj;cases hj
 refine QRz (m:=l.length) (λL a w=>(L.size=ops.size/\∀ j,l.length<=j->L.getD j false=false)/\(∀(j:Nat) (o:Oper),l[j]? = some o->L.getD j false=true->∀ e∈o.after.toList,Region.binds .any e=true->L.getD e.on false=true) /\
   ∃ r,Inv G st.tm.length r (QJ (S L).tm) (look (S L).hp) a w) (λL a w h=>h.1.1) hle (λL a w h=>h.1.2) ?_ ?_ ?_ _ _ a _ ?_ ?_
 .
  rintro L a w ⟨⟨hsz,hup⟩,hdown,r,hI⟩ ⟨j0,hj0,hj1⟩ i hi;obtain⟨hun,oi,hoi,hpre⟩:=mem_ready.1 hi
  have hil:i<l.length:=by
   rcases Nat.lt_or_ge i l.length with hlt|hge
   .exact hlt
   .have:=QPK hfull (hready0 L hsz hup hdown) hi hge (j:=j0) (by omega)
    rw[hj1]at this;cases this
  refine⟨hil,?_⟩;have hoi':l[i]? = some oi:=by rw[<-hget0 i hil];exact hoi
  have hun':L.getD i false=false:=by
   rw[Array.getD_eq_getD_getElem?]at hun ⊢;have:i<L.size:=by rw[hsz];omega
   rw[Array.getElem?_eq_getElem this]at hun ⊢;exact hun
  have hpre':∀ e∈oi.after.toList,Region.binds .any e=true->L.getD e.on false=true:=λe he hb=>hpre e (by simpa using he) hb
  obtain⟨ri,hri,hzi⟩:=hget i oi hoi';obtain⟨tm,heq,hsc,hh⟩:=(hlex i oi ri hoi' hri).at_
  rw[Nat.zero_add]at heq hsc hh;have hms:=QA2 (λj=>L.getD j false=true) l hdown l [] [] rfl rfl (by simp)
  have hap:∀(j:Nat) (x:Oper×Rec),(l.zip rs)[j]? = some x->j≠i->(L.getD j false≠decide (j<i)∨(L.getD j false=true/\i<j)) ->
    (∀ t,x.1.dst=some t->oi.dst≠some t/\t ∉ oi.looksAt ops)/\(∀ p∈x.2.upd,∀ q∈ri.upd,p.1≠q.1)/\(∀ p∈x.2.upd,p.1 ∉ ri.ids)/\(i<j->noR (base+8*i) x.2=true):=by
   intro j x hx hji hc;obtain⟨hoj,hrj⟩:=hzip j x hx;have hjl:=(List.getElem?_eq_some_iff.1 hoj).1;rcases Nat.lt_or_gt_of_ne hji with hlt|hgt
   .have hLj:L.getD j false=false:=by
     rcases hc with hc|⟨_,hc⟩
     .rw[qde hlt]at hc;simpa using hc
     .omega
    obtain⟨m,hm⟩:∃ m,(JX [] l)[i]? = some m:=⟨_,List.getElem?_eq_getElem (by rw[hms.1];exact hil)⟩
    rcases hpairs j i x (oi,ri) m hlt hx hzi hm with h1|h1
    .have:=hms.2 i oi m hoi' hm hpre' j h1;rw[hLj]at this;cases this
    .unfold Yv at h1;simp only[qbA,List.all_eq_true,Bool.not_eq_true',bne_iff_ne]at h1;obtain⟨⟨⟨⟨a1,a2⟩,a3⟩,a4⟩,a5⟩:=h1;obtain⟨b1,b2,b3⟩:=Oper.apart_spec a1;refine⟨λt ht=>⟨b2 t ht,b1 t ht⟩,λp hp q hq=>(a2 p hp).2 q hq,λp hp hmem=>?_,λhlt'=>by omega⟩
     have:=(a2 p hp).1;rw[List.contains_iff_mem.2 hmem]at this;cases this
   .have hLj:L.getD j false=true:=by
     rcases hc with hc|⟨hc,_⟩
     .rw[decide_eq_false (by omega)]at hc;simpa using hc
     .exact hc
    obtain⟨m,hm⟩:∃ m,(JX [] l)[j]? = some m:=⟨_,List.getElem?_eq_getElem (by rw[hms.1];exact hjl)⟩
    rcases hpairs i j (oi,ri) x m hgt hzi hx hm with h1|h1
    .have:=hms.2 j x.1 m hoj hm (hdown j x.1 hoj hLj) i h1;rw[hun']at this;cases this
    .unfold Yv at h1;simp only[qbA,List.all_eq_true,Bool.not_eq_true',bne_iff_ne]at h1;obtain⟨⟨⟨⟨a1,a2⟩,a3⟩,a4⟩,a5⟩:=h1;obtain⟨b1,b2,b3⟩:=Oper.apart_spec a1;refine⟨λt ht=>⟨λhe=>b2 t he ht,b3 t ht⟩,λp hp q hq he=>(a2 q hq).2 p hp he.symm,λp hp hmem=>?_,λ_=>a4⟩;have:=a3 p hp;rw[List.contains_iff_mem.2 hmem]at this;cases this
  have htm:∀ t,t∈oi.looksAt ops->(QJ (S L).tm t).den r=(QJ tm t).den r:=by
   intro t ht
   have:=QNT (L1:=λj=>L.getD j false) (L2:=λj=>decide (j<i)) (t:=t) (l.zip rs) 0 st st rfl rfl (λj x hx hne=>by
    rw[Nat.zero_add]at hne
    by_cases hji:j=i
    .subst hji;rw[hun']at hne;simp at hne
    .exact λhe=>((hap j x hx hji (.inl hne)).1 t he).2 ht)
   show(QJ (Ke _ 0 _ _).tm t).den r=_;rw[this,(heq.2 t).1]
  have hlk:∀ id,id∈ri.ids->look (S L).hp id=look (Ke (λj=>decide (j<i)) 0 (l.zip rs) st).hp id:=by
   intro id hid
   exact QL0 (l.zip rs) 0 st st rfl (λj x hx hne=>by
    rw[Nat.zero_add]at hne
    by_cases hji:j=i
    .subst hji;rw[hun']at hne;simp at hne
    .intro p hp he;exact(hap j x hx hji (.inl hne)).2.2.1 p hp (he ▸ hid))
  have hfree:GI (base+8*i) (QJ (S L).tm) (look (S L).hp):=by
   refine QLx (l.zip rs) 0 st (hS0.free (by omega)) (λj x hx hl=>?_)
   rw[Nat.zero_add]at hl;rcases Nat.lt_trichotomy j i with h1|h1|h1
   .exact hnoR i j x hx h1
   .subst h1;rw[hun']at hl;cases hl
   .exact(hap j x hx (by omega) (.inr ⟨hl,h1⟩)).2.2.2 h1
  have hoff:Off oi.dst ri.val ri.upd (S (L.setIfInBounds i true)) (S L):=by
   refine QOW (xi:=(oi,ri)) (i:=i) (l.zip rs) 0 st (Nat.zero_le _) (by rw[Nat.sub_zero];exact hzi) ?_ hun' (λj hj=>?_) (λj x hx hlt hl=>?_)
   .have:i<L.size:=by rw[hsz];omega
    rw[Array.getD_eq_getD_getElem?,Array.getElem?_setIfInBounds];simp[this]
   .exact getD_set_ne false (λe=>hj e.symm)
   .rw[Nat.zero_add]at hlt hl;rw[getD_set_ne false (by omega)]at hl
    obtain⟨c1,c2,_⟩:=hap j x hx (by omega) (.inr ⟨hl,hlt⟩)
    exact⟨λt ht=>(c1 t ht).1,c2⟩
  have hlenS:(S L).tm.length=st.tm.length:=QIz _ _ _ _
  have hdone:∀(r':Nat->Loc) (w':World),Qv (look (S L).hp) r (base+8*i) ri.upd w r' w'->(∀ p∈ri.upd,inR (base+8*i) p.1=false->∃ b,look (S L).hp p.1=some b/\b.own=true) ->
    ((L.setIfInBounds i true).size=ops.size/\∀ j,l.length<=j->(L.setIfInBounds i true).getD j false=false)/\(∀(j:Nat) (o:Oper),l[j]? = some o->(L.setIfInBounds i true).getD j false=true->∀ e∈o.after.toList,Region.binds .any e=true->(L.setIfInBounds i true).getD e.on false=true) /\
    ∃ r,Inv G st.tm.length r (QJ (S (L.setIfInBounds i true)).tm) (look (S (L.setIfInBounds i true)).hp) (a.put oi.dst (ri.val.den r')) w':=by
   intro r' w' hp hold;refine⟨⟨by simpa using hsz,λj hj=>by rw[getD_set_ne false (by omega)];exact hup j hj⟩,λj o ho hj e he hb=>?_,r',?_⟩
   .by_cases hji:j=i
    .subst hji;rw[hoi']at ho;cases ho;exact getD_set_true (hpre' e he hb)
    .rw[getD_set_ne false (λe=>hji e.symm)]at hj;exact getD_set_true (hdown j o ho hj e he hb)
   .have hst:=hI.step (d:=oi.dst) (v:=ri.val) hfree (by omega) hp hold
    have e1:QJ (S (L.setIfInBounds i true)).tm=vS st.tm.length (QJ (S L).tm) oi.dst ri.val:=by
     funext t;rw[hoff.tm t,hlenS]
    have e2:look (S (L.setIfInBounds i true)).hp=Jp ri.upd (look (S L).hp):=by
     funext id;exact hoff.lk id
    rw[e1,e2];exact hst
  have hev:∀ x,(∀ t,x=Operand.tmp t->t∈oi.looksAt ops)->a.eval x=(evA tm x).den r:=λx hx=>zw λt ht=>by rw[hI.tm t,htm t (hx t ht)]
  unfold wpOpIn;simp only[hoi];rcases hh with ⟨hg,hran⟩|⟨hg,hu⟩|⟨g,v,he,hsp⟩
  rotate_left 2
  .have hw:=hsp.gd a r (λt ht=>by rw[hI.tm t,htm t ht])
   have hupd:ri.upd=[]:=by rw[he]
   have hval:ri.val=v:=by rw[he]
   cases g with
   | false=>
    rw[if_neg (by rw[hw];decide)]
    refine⟨λ_ _=>trivial,?_⟩;have:=hdone r w (by rw[hupd];exact Qv.id _ r _ w) (by rw[hupd];simp)
    rw[hval,hsp.off rfl r]at this;exact this
   | true=>
    rw[if_pos hw];obtain⟨tm',v',_,hden,hall,hran,hv⟩:=hsp.run rfl;refine vK ?_ hran.noDefer;obtain⟨_,gg,blks,eff,hV,hb,hgb,hp,_,e1,e2⟩:=hran.ran;have hbm:=HU hb
    have hops:∀ x∈oi.op.operands,∀ t,x=Operand.tmp t->t∈oi.looksAt ops:=by
     intro x hx t ht;subst ht;unfold Oper.looksAt;refine List.mem_append.2 (.inl ?_);rw[List.mem_filterMap];exact⟨.tmp t,by simpa using hx,rfl⟩
    refine QDg hE.c hE.m (r:=r) (look:=λid=>if id∈ri.ids then look (S L).hp id else none) ?_ hV ?_ hgb hp (λx hx=>(hev x (hops x hx)).trans (hden x hx r).symm) (λx _=>W8 λt=>hall t _ ((hsc.free (qlr _)).tm t)) ?_
    .refine⟨λid b hb=>?_,λid b hb=>?_,λid b hb=>?_,λid id' b b' hb hb' hne ho _=>?_⟩
     .split at hb<;>(try (cases hb;done));exact hfree.out id b hb
     .split at hb<;>(try (cases hb;done));exact hI.rep id b hb
     .split at hb<;>(try (cases hb;done));exact hfree.blk id b hb
     .split at hb<;>(try (cases hb;done));split at hb'<;>(try (cases hb';done));exact hI.sep id id' b b' hb hb' hne ho
    .rw[<-hbm];refine List.map_congr_left λid hid=>?_;have hid:id∈ri.ids:=hid;rw[if_pos hid,hlk id hid]
    .intro r' w' hpost;have hpost:=hpost.mono (lk':=look (S L).hp) λid b hb=>by split at hb<;>(try (cases hb;done));exact hb
     have:=hdone r' w' (by rw[hupd];rw[<-e2]at hpost;exact hpost) (by rw[hupd];simp)
     rw[hval]at this;have ev:v.den r'=eff.val.den r':=by rw[<-hv r',<-e1]
     rw[ev]at this;exact this
  .have hw:=QBu (a:=a) (r:=r) hg (λt ht=>by rw[hI.tm t,htm t ht])
   rw[if_pos hw];refine vK ?_ hran.noDefer;obtain⟨_,g,blks,eff,hV,hb,hgb,hp,_,h1,h2⟩:=hran.ran;have hbm:=HU hb
   have hops:∀ x∈oi.op.operands,∀ t,x=Operand.tmp t->t∈oi.looksAt ops:=by
    intro x hx t ht;subst ht;unfold Oper.looksAt;refine List.mem_append.2 (.inl ?_);rw[List.mem_filterMap];exact⟨.tmp t,by simpa using hx,rfl⟩
   refine QDg hE.c hE.m (r:=r) (look:=λid=>if id∈ri.ids then look (S L).hp id else none) ?_ hV ?_ hgb hp (λx hx=>hev x (hops x hx)) (λx _=>W8 (hsc.free (qlr _)).tm) ?_
   .refine⟨λid b hb=>?_,λid b hb=>?_,λid b hb=>?_,λid id' b b' hb hb' hne ho _=>?_⟩
    .split at hb<;>(try (cases hb;done));exact hfree.out id b hb
    .split at hb<;>(try (cases hb;done));exact hI.rep id b hb
    .split at hb<;>(try (cases hb;done));exact hfree.blk id b hb
    .split at hb<;>(try (cases hb;done));split at hb'<;>(try (cases hb';done));exact hI.sep id id' b b' hb hb' hne ho
   .rw[<-hbm];refine List.map_congr_left λid hid=>?_;rw[if_pos hid,hlk id hid]
   .intro r' w' hpost;have hpost:=hpost.mono (lk':=look (S L).hp) λid b hb=>by split at hb<;>(try (cases hb;done));exact hb
    have:=hdone r' w' (by rw[h2];exact hpost) (λp hp hin=>?_)
    .rw[h1]at this;exact this
    .rcases hran.ok.2 p hp with h3|⟨hmem,b,hb,ho⟩
     .rw[hin]at h3;cases h3
     .exact⟨b,by rw[hlk p.1 hmem];exact hb,ho⟩
  .have hw:=QBu (a:=a) (r:=r) hg (λt ht=>by rw[hI.tm t,htm t ht])
   rw[if_neg (by rw[hw];decide)]
   refine⟨λ_ _=>trivial,?_⟩;have:=hdone r w (by rw[hu];exact Qv.id _ r _ w) (by rw[hu];simp[Gy])
   rw[hu]at this;exact this
 .
  rintro L a w ⟨⟨hsz,hup⟩,hdown,_⟩ hex hr0;obtain⟨j0,hj0,hj1⟩:=hex
  have key:∀ n j,j<=n->j<l.length->L.getD j false=true:=by
   intro n
   induction n with
   | zero=>
    intro j hj hlt
    by_cases hL:L.getD j false=true
    .exact hL
    .exfalso
     have hmem:j∈Region.ready .any ops L:=by
      rw[mem_ready];refine⟨?_,l[j],by rw[hget0 j hlt];simp[hlt],λe he hb=>?_⟩
      .have:j<L.size:=by omega
       rw[Array.getD_eq_getD_getElem?,Array.getElem?_eq_getElem this]at hL ⊢;simpa using hL
      .have:=hback j l[j] (List.getElem?_eq_getElem hlt) e (by simpa using he) hb
       omega
     rw[hr0]at hmem;cases hmem
   | succ n ih=>
    intro j hj hlt
    by_cases hL:L.getD j false=true
    .exact hL
    .exfalso
     have hmem:j∈Region.ready .any ops L:=by
      rw[mem_ready];refine⟨?_,l[j],by rw[hget0 j hlt];simp[hlt],λe he hb=>?_⟩
      .have:j<L.size:=by omega
       rw[Array.getD_eq_getD_getElem?,Array.getElem?_eq_getElem this]at hL ⊢;simpa using hL
      .have:=hback j l[j] (List.getElem?_eq_getElem hlt) e (by simpa using he) hb
       exact ih e.on (by omega) (by omega)
     rw[hr0]at hmem;cases hmem
  rw[key j0 j0 (qlr _) hj0]at hj1;cases hj1
 .
  rintro fuel L a w hcount ⟨⟨hsz,hup⟩,hdown,r,hI⟩ hall
  have hlist:wpListIn (FW G.rd) 0 E.P ops Q l2 a w:=by
   refine hQ a w ⟨⟨r,?_⟩,by simpa using hScf⟩
   have e1:S L=Ke (λ_=>true) 0 (l.zip rs) st:=QNQ _ _ _ (λj _ hj=>hall j (by omega))
   rw[e1]at hI;have hN:st.tm.length=(Ke (λ_=>true) 0 (l.zip rs) st).tm.length:=(QIz _ _ _ _).symm;rw[hN]at hI;have:=hI.eqv (st:=Ke (λ_=>true) 0 (l.zip rs) st) hfin;rw[hfinh]at this;exact this
  refine QVf (m:=l.length) hbk hfull l2 l.length L fuel a w (by rw[hops];simp) (qlr _) hsz (λj hj=>?_) hcount hlist
  rcases Nat.lt_or_ge j l.length with h1|h1
  .rw[hall j h1];simp[h1]
  .rw[hup j h1];simp;omega
 .simp
 .refine⟨⟨by simp,λj _=>?_⟩,λj o ho hj=>?_,r0,?_⟩
  .simp only[Array.getD_eq_getD_getElem?,Array.getElem?_replicate];split<;>rfl
  .simp only[Array.getD_eq_getD_getElem?,Array.getElem?_replicate]at hj;split at hj<;>cases hj
  .have e1:S (Array.replicate ops.size false)=st:=QCg _ _ _ (λj _=>by
    simp only[Array.getD_eq_getD_getElem?,Array.getElem?_replicate];split<;>rfl)
   rw[e1];exact QYh hI0
