/- - -/
import Derived.Test.YtekbmehgcofnkaaGreatVm
namespace Go.SX
open Go Go.RowKit Go.Proofs.YtekbmehgcofnkaaGreat
mutual
def AV.sameR(q:Nat->Nat):AV->AV->Prop
 | .int _ k n,.int _ k' n'=>k=k'/\n=n'
 | .bool _ b,.bool _ b'=>b=b'
 | .ptr id e j,.ptr id' e' j'=>id=q id'/\e=e'/\j=j'
 | .addr a,.addr a'=>a=a'
 | .nilp,.nilp=>True
 | .slice _ id e n cp,.slice _ id' e' n' cp'=>id=q id'/\e=e'/\n=n'/\cp=cp'
 | .nils,.nils=>True
 | .map id,.map id'=>id=q id'
 | .yld id,.yld id'=>id=q id'
 | .nilm,.nilm=>True
 | .fn f l,.fn f' l'=>f=f'/\AV.sameRL q l l'
 | .nilf,.nilf=>True
 | .ifc t v,.ifc t' v'=>t=t'/\v.sameR q v'
 | .nili,.nili=>True
 | .str s,.str s'=>s=s'
 | .agg l,.agg l'=>AV.sameRL q l l'
 | .tup l,.tup l'=>AV.sameRL q l l'
 | .raw v,.raw v'=>v=v'
 | _,_=>False
def AV.sameRL(q:Nat->Nat):List AV->List AV->Prop
 | [],[]=>True
 | v::l,v'::l'=>v.sameR q v'/\AV.sameRL q l l'
 | _,_=>False
end
mutual
theorem QKH{q:Nat->Nat}(r:Nat->Loc):∀ v u:AV,v.sameR q u->v.den r=u.den (λi=>r (q i))
 | .int ..,u,h=>by cases u<;>simp only[AV.sameR]at h;obtain⟨rfl,rfl⟩:=h;rfl
 | .bool ..,u,h=>by cases u<;>simp only[AV.sameR]at h;subst h;rfl
 | .ptr ..,u,h=>by cases u<;>simp only[AV.sameR]at h;obtain⟨rfl,rfl,rfl⟩:=h;rfl
 | .addr ..,u,h=>by cases u<;>simp only[AV.sameR]at h;subst h;rfl
 | .nilp,u,h=>by cases u<;>simp only[AV.sameR]at h;rfl
 | .slice ..,u,h=>by cases u<;>simp only[AV.sameR]at h;obtain⟨rfl,rfl,rfl,rfl⟩:=h;rfl
 | .nils,u,h=>by cases u<;>simp only[AV.sameR]at h;rfl
 | .slz ..,u,h=>by cases u<;>simp only[AV.sameR]at h
 | .map ..,u,h=>by cases u<;>simp only[AV.sameR]at h;subst h;rfl
 | .yld ..,u,h=>by cases u<;>simp only[AV.sameR]at h;subst h;rfl
 | .nilm,u,h=>by cases u<;>simp only[AV.sameR]at h;rfl
 | .fn f l,u,h=>by cases u<;>simp only[AV.sameR]at h;obtain⟨rfl,h⟩:=h;simp only[AV.den];rw[sameR_denL r l _ h]
 | .nilf,u,h=>by cases u<;>simp only[AV.sameR]at h;rfl
 | .ifc t v,u,h=>by cases u<;>simp only[AV.sameR]at h;obtain⟨rfl,h⟩:=h;simp only[AV.den];rw[QKH r v _ h]
 | .nili,u,h=>by cases u<;>simp only[AV.sameR]at h;rfl
 | .str ..,u,h=>by cases u<;>simp only[AV.sameR]at h;subst h;rfl
 | .agg l,u,h=>by cases u<;>simp only[AV.sameR]at h;simp only[AV.den];rw[sameR_denL r l _ h]
 | .tup l,u,h=>by cases u<;>simp only[AV.sameR]at h;simp only[AV.den];rw[sameR_denL r l _ h]
 | .raw ..,u,h=>by cases u<;>simp only[AV.sameR]at h;subst h;rfl
 | .opt ..,u,h=>by cases u<;>simp only[AV.sameR]at h
 | .mth ..,u,h=>by cases u<;>simp only[AV.sameR]at h
 | .alt ..,u,h=>by cases u<;>simp only[AV.sameR]at h
theorem sameR_denL{q:Nat->Nat}(r:Nat->Loc):∀ v u:List AV,AV.sameRL q v u->AV.denL r v=AV.denL (λi=>r (q i)) u
 | [],u,h=>by cases u<;>simp only[AV.sameRL]at h;rfl
 | x::l,u,h=>by
  cases u<;>simp only[AV.sameRL]at h
  simp only[AV.denL];rw[QKH r x _ h.1,sameR_denL r l _ h.2]
end
def Blk.sameR(q:Nat->Nat):Blk->Blk->Prop
 | .cells z t l,.cells z' t' l'=>z=z'/\t=t'/\AV.sameRL q l l'
 | .rowl t z l,.rowl t' z' l'=>t=t'/\z=z'/\l=l'/\l.all (AV.allL λ_=>false)=true
 | .cellsR z t l,.cellsR z' t' l'=>z=z'/\t=t'/\AV.sameRL q l l'
 | _,_=>False
variable {q:Nat->Nat}{r r':Nat->Loc}{w:World}{n p s:Nat}{b:Blk}{rw_:Bool}{Q:AV->List (Nat×Blk)->Prop}{t:QC}{g:Nat->Nat->Int}{hJ:List (Nat×Blk)}{ks:List CK}
theorem Blk.sameR_rep{id:Nat}:∀{b b':Blk},b.sameR q b'->QN r (q id) w b->QN (λi=>r (q i)) id w b'
 | .cells z t l,b',h,hb=>by
  cases b'<;>simp only[Blk.sameR]at h
  obtain⟨rfl,rfl,h⟩:=h;simp only[QN]at hb ⊢;rw[<-sameR_denL r _ _ h];exact hb
 | .rowl t z l,b',h,hb=>by
  cases b'<;>simp only[Blk.sameR]at h
  obtain⟨rfl,rfl,rfl,ha⟩:=h;simp only[QN]at hb ⊢;rw[<-denL_congr (p:=λ_=>false) (r:=r) (r':=λi=>r (q i)) (λ_ hf=>by cases hf) _ (YG ha)];exact hb
 | .gone,b',h,_=>by cases b'<;>simp only[Blk.sameR]at h
 | .cellsR z t l,b',h,hb=>by
  cases b'<;>simp only[Blk.sameR]at h
  obtain⟨rfl,rfl,h⟩:=h;simp only[QN]at hb ⊢;rw[<-sameR_denL r _ _ h];exact hb
 | .rowlR ..,b',h,_=>by cases b'<;>simp only[Blk.sameR]at h
 | .lp ..,b',h,_=>by cases b'<;>simp only[Blk.sameR]at h
 | .dfr,b',h,_=>by cases b'<;>simp only[Blk.sameR]at h
 | .mp ..,b',h,_=>by cases b'<;>simp only[Blk.sameR]at h
theorem Blk.sameR_own:∀{b b':Blk},b.sameR q b'->b.own=b'.own
 | .cells ..,b',h=>by cases b'<;>simp only[Blk.sameR]at h;rfl
 | .rowl ..,b',h=>by cases b'<;>simp only[Blk.sameR]at h;rfl
 | .cellsR ..,b',h=>by cases b'<;>simp only[Blk.sameR]at h;rfl
 | .gone,b',h=>by cases b'<;>simp only[Blk.sameR]at h
 | .rowlR ..,b',h=>by cases b'<;>simp only[Blk.sameR]at h
 | .lp ..,b',h=>by cases b'<;>simp only[Blk.sameR]at h
 | .dfr,b',h=>by cases b'<;>simp only[Blk.sameR]at h
 | .mp ..,b',h=>by cases b'<;>simp only[Blk.sameR]at h
theorem Blk.sameR_foot{id k:Nat}:∀{b b':Blk},b.sameR q b'->Qo (λi=>r (q i)) id b' k->Qo r (q id) b k
 | .cells ..,b',h,hk=>by cases b'<;>simp only[Blk.sameR]at h;exact hk
 | .rowl ..,b',h,hk=>by cases b'<;>simp only[Blk.sameR]at h;exact hk
 | .cellsR ..,b',h,hk=>by cases b'<;>simp only[Blk.sameR]at h;exact hk
 | .gone,b',h,_=>by cases b'<;>simp only[Blk.sameR]at h
 | .rowlR ..,b',h,_=>by cases b'<;>simp only[Blk.sameR]at h
 | .lp ..,b',h,_=>by cases b'<;>simp only[Blk.sameR]at h
 | .dfr,b',h,_=>by cases b'<;>simp only[Blk.sameR]at h
 | .mp ..,b',h,_=>by cases b'<;>simp only[Blk.sameR]at h
 | .rowz ..,b',h,_=>by cases b'<;>simp only[Blk.sameR]at h
 | .frz ..,b',h,_=>by cases b'<;>simp only[Blk.sameR]at h
 | .itm ..,b',h,_=>by cases b'<;>simp only[Blk.sameR]at h
structure JSt where
 len:Nat
 live:List (Nat×AV)
 hp:List (Nat×Blk)
 nid:Nat
def lkS:List (Nat×AV)->Nat->Option AV
 | [],_=>none
 | (i,v)::l,t=>match i==t with
  | true=>some v
  | false=>lkS l t
def WH(g:Nat->Value)(live:List (Nat×AV)):Nat->Nat->List AV
 | 0,_=>[]
 | n+1,i=>(match lkS live i with|some v=>v|none => .raw (g i))::WH g live n (i+1)
def JSt.inst(J:JSt)(g:Nat->Value):St:=⟨WH g J.live J.len 0,J.hp,J.nid⟩
def zU(q:Nat->Nat)(h:List (Nat×Blk)):List (Nat×Blk)->Prop
 | []=>True
 | (id,b)::l=>(∃ b',look h (q id)=some b'/\b'.sameR q b)/\zU q h l
def QAn(q:Nat->Nat):List (Nat×Blk)->Bool
 | []=>true
 | (id,_)::l=>l.all (λp=>q id != q p.1)&&QAn q l
def qw(J:JSt):Bool:=(J.live.all λp=>p.2.all (·<J.nid))&&J.hp.all λp=>decide (p.1<J.nid)&&p.2.all (·<J.nid)
structure Xg (n0:Nat) (q:Nat->Nat) (ls:List Nat) (len:Nat) (vals:List AV) (h:List (Nat×Blk)) (J:JSt):Prop where
 slots:J.live.map (·.1)=ls
 len:len=J.len
 tm:AV.sameRL q vals (J.live.map (·.2))
 hp:zU q h J.hp
 low:∀ i,i<n0->q i=i
 nid:n0<=J.nid
 sc:qw J=true
 inj:QAn q J.hp=true
 nd:V8 h=true
theorem zE{l:List (Nat×AV)}{t:Nat}{v:AV}(h:lkS l t=some v):(t,v)∈l:=by
 induction l with
 | nil=>cases h
 | cons p l ih=>
  obtain⟨i,u⟩:=p;simp only[lkS]at h;split at h
  .rename_i hi;simp only[qsI]at h;subst h;have:i=t:=by simpa using hi
   subst this;exact qmc
  .exact List.mem_cons_of_mem _ (ih h)
theorem QFv(g:Nat->Value)(live:List (Nat×AV)):∀ n i,(WH g live n i).length=n
 | 0,_=>rfl
 | n+1,i=>by simp[WH,QFv g live n]
theorem QCR(g:Nat->Value)(live:List (Nat×AV)):∀ n i t,QJ (WH g live n i) t=if t<n then (match lkS live (i+t)with|some v=>v|none => .raw (g (i+t)))else .tup []
 | 0,_,t=>by simp[WH,QJ]
 | n+1,i,0=>by simp[WH,QJ]
 | n+1,i,t+1=>by
  have:=QCR g live n (i+1) t;have e:i+1+t=i+(t+1):=by omega
  rw[e]at this;have e2:QJ (WH g live (n+1) i) (t+1)=QJ (WH g live n (i+1)) t:=rfl;rw[e2,this]
  by_cases h:t<n
  .rw[if_pos h,if_pos (by omega)]
  .rw[if_neg h,if_neg (by omega)]
theorem QBB{q:Nat->Nat}{h:List (Nat×Blk)}:∀{l:List (Nat×Blk)},zU q h l->∀ p∈l,∃ b',look h (q p.1)=some b'/\b'.sameR q p.2
 | [],_,p,hp=>by cases hp
 | (id,b)::l,hs,p,hp=>by
  simp only[zU]at hs;rcases List.mem_cons.1 hp with rfl|hp
  .exact hs.1
  .exact QBB hs.2 p hp
theorem QN0{q:Nat->Nat}:∀{l:List (Nat×Blk)},QAn q l=true->∀ p∈l,∀ p'∈l,p.1≠p'.1->q p.1≠q p'.1
 | [],_,p,hp,_,_,_=>by cases hp
 | (id,b)::l,h,p,hp,p',hp',hne=>by
  simp only[QAn,qbA,List.all_eq_true,bne_iff_ne]at h;rcases List.mem_cons.1 hp with rfl|hp<;>rcases List.mem_cons.1 hp' with rfl|hp'
  .exact absurd rfl hne
  .exact h.1 p' hp'
  .exact λe=>h.1 p hp e.symm
  .exact QN0 h.2 p hp p' hp' hne
theorem QRj{q:Nat->Nat}:∀{vals:List AV} {live:List (Nat×AV)} {f:Nat->AV},AV.sameRL q vals (live.map (·.2))->vals=live.map (λp=>f p.1)->∀ p∈live,(f p.1).sameR q p.2
 | [],[],_,_,_,p,hp=>by cases hp
 | v::vals,x::live,f,h,e,p,hp=>by
  simp only[List.map_cons,AV.sameRL,List.cons.injEq]at h e;rcases List.mem_cons.1 hp with rfl|hp
  .rw[<-e.1];exact h.1
  .exact QRj h.2 e.2 p hp
theorem Rep.sub{G:Ctx}{n0:Nat}{ls:List Nat}{st:St}{J:JSt}{a:Act}(h:Rep G n st a w)(hs:Xg n0 q ls st.tm.length (ls.map (QJ st.tm)) st.hp J)(hG:G.n<=n0):∃ g,Rep G J.nid (J.inst g) a w:=by
 obtain⟨⟨r,hI⟩,_⟩:=h;have hsc:=hs.sc;unfold qw at hsc;simp only[List.all_eq_true,qbA,qdE]at hsc;have hz:ls.map (QJ st.tm)=J.live.map (λp=>QJ st.tm p.1):=by rw[<-hs.slots,List.map_map];rfl
 have hsame:=QRj hs.tm hz
 have hget:∀ t,QJ (J.inst λt=>a.tmps.getD t undef).tm t=if t<J.len then (match lkS J.live t with|some v=>v|none => .raw (a.tmps.getD t undef))else .tup []:=by
  intro t;have:=QCR (λt=>a.tmps.getD t undef) J.live J.len 0 t;rw[Nat.zero_add]at this;exact this
 refine⟨λt=>a.tmps.getD t undef,⟨λi=>r (q i),?_⟩,?_⟩
 .refine⟨?_,Dfr.none ?_,λt=>?_,λid b hb=>?_,λid b hb=>XQ hb,λid id' b b' hb hb' hne ho=>?_,λid hid=>?_,hI.fr,λid b hb ho=>?_⟩
  .rw[hI.size,hs.len];exact(QFv _ _ _ _).symm
  .obtain⟨ds,d1,_,d3⟩:=hI.defers;cases ds with
   | nil=>exact d1
   | cons x ds =>
    obtain⟨_,_,_,hx,_⟩:=d3 x (by simp)
    exact(QGh hs.nd hx).elim
  .rw[hget];split
   .split
    .rename_i v hv;rw[hI.tm t];exact QKH r _ _ (hsame _ (zE hv))
    .rfl
   .rename_i hlt;rw[hI.tm t];have:QJ st.tm t = .tup []:=by unfold QJ;rw[List.getElem?_eq_none (by rw[hs.len];omega)];rfl
    rw[this];rfl
  .obtain⟨b',h1,h2⟩:=QBB hs.hp _ (KK hb);exact Blk.sameR_rep h2 (hI.rep _ _ h1)
  .obtain⟨c,h1,h2⟩:=QBB hs.hp _ (KK hb);obtain⟨c',h3,h4⟩:=QBB hs.hp _ (KK hb');intro k hk hk';refine hI.sep _ _ c c' h1 h3 (QN0 hs.inj _ (KK hb) _ (KK hb') hne) (by rw[Blk.sameR_own h2];exact ho) k (Blk.sameR_foot h2 hk) (Blk.sameR_foot h4 hk')
  .show r (q id)=_;rw[hs.low id (Nat.lt_of_lt_of_le hid hG)];exact hI.ext id hid
  .obtain⟨c,h1,h2⟩:=QBB hs.hp _ (KK hb);exact λk hk=>hI.own _ c h1 (by rw[Blk.sameR_own h2];exact ho) k (Blk.sameR_foot h2 hk)
 .refine⟨λt=>?_,λid b hb=>(hsc.2 _ (KK hb)).1,λid b hb=>(hsc.2 _ (KK hb)).2⟩;rw[hget];split
  .split
   .rename_i v hv;exact hsc.1 _ (zE hv)
   .rfl
  .rfl
def QGr(ls:Ex->List Nat)(e:Ex)(st:St):QC := .leaf (.tup ((match e with | .normal => .nilp | .exit id => .ptr id 0 0 | .ret => .nili) :: .ptr st.tm.length 0 0::(ls e).map (QJ st.tm))) st.hp
def q9(Cont:Nat->List AV->List (Nat×Blk)->Prop)(Out:Ex->Nat->List AV->List (Nat×Blk)->Prop):AV->List (Nat×Blk)->Prop
 | .tup (.nilp :: .ptr n _ _::vs),h=>Cont n vs h
 | .tup (.ptr id _ _ :: .ptr n _ _::vs),h=>Out (.exit id) n vs h
 | .tup (.nili :: .ptr n _ _::vs),h=>Out .ret n vs h
 | _,_=>False
theorem QZt{ls:Ex->List Nat}{Cont:Nat->List AV->List (Nat×Blk)->Prop}{Out:Ex->Nat->List AV->List (Nat×Blk)->Prop}{e:Ex}{st:St}(h:(QGr ls e st).den (q9 Cont Out)):
  (e = .normal/\Cont st.tm.length ((ls e).map (QJ st.tm)) st.hp)∨(e ≠ .normal/\Out e st.tm.length ((ls e).map (QJ st.tm)) st.hp):=by
 cases e with
 | normal=>exact .inl ⟨rfl,h⟩
 | exit id=>exact .inr ⟨by simp,h⟩
 | ret=>exact .inr ⟨by simp,h⟩
section
variable {σ:Type} (I:σ->JSt) (pre:σ->Prop) (μ:σ->Nat) (R:σ->Ex->JSt->Prop) (n0:Nat) (ls:Ex->List Nat)
def QNX(s:σ)(n:Nat)(vs:List AV)(h:List (Nat×Blk)):Prop:=∃ s' q,pre s'/\μ s'<μ s/\(∀ e J,R s' e J->R s e J)/\Xg n0 q (ls .normal) n vs h (I s')
def Leaves(s:σ)(e:Ex)(n:Nat)(vs:List AV)(h:List (Nat×Blk)):Prop:=∃ J q,R s e J/\Xg n0 q (ls e) n vs h J
def QKX(E:Env)(H:Hnd)(body:Code):Prop:=∀ s g,pre s->(exec E H body ((I s).inst g) (QGr ls)).den (q9 (QNX I pre μ R n0 ls s) (Leaves R n0 ls s))
variable {I pre μ R n0 ls}
theorem QRb{E:Env}(hE:E.Sound){H:Hnd}{G:Ctx}(hG:G.n<=n0){body:Code}(hH:Q0 E G H body)(hn:∀ s,n0<=(I s).nid)(hr:QKX I pre μ R n0 ls E H body){Q:Exit->Act->World->Prop}:∀(n:Nat) (s:σ) (g:Nat->Value) (a:Act) (w:World),μ s<n->pre s->Rep G (I s).nid ((I s).inst g) a w ->
  (∀ e J g a' w',R s e J->n0<=J.nid->Rep G J.nid (J.inst g) a' w'->Q e.to a' w')->Code.roundsIn (FW G.rd) 0 E.P body Q n a w
 | 0,s,g,a,w,hm,_,_,_=>by omega
 | n+1,s,g,a,w,hm,hp,hrep,hQ=>by
  rw[roundsIn_succ];refine jE hE hH.call hH.yield body hH.loop ((I s).inst g) (QGr ls) _ _ a w (Nat.le_trans hG (hn s)) (hr s g hp) hrep ?_;intro e st' a' w' hn' hden hrep';rcases QZt hden with ⟨rfl,s',q,h1,h2,h3,h4⟩|⟨hne,J,q,h1,h2⟩
  .obtain⟨g',hr'⟩:=Rep.sub hrep' h4 hG;exact QRb hE hG hH hn hr n s' g' a' w' (by omega) h1 hr' (λe J g a' w' hR=>hQ e J g a' w' (h3 e J hR))
  .obtain⟨g',hr'⟩:=Rep.sub hrep' h2 hG;have:=hQ e J g' a' w' h1 h2.nid hr';cases e with
   | normal=>exact absurd rfl hne
   | exit id=>exact this
   | ret=>exact this
theorem QWl{E:Env}(hE:E.Sound){H:Hnd}{G:Ctx}(hG:G.n<=n0){body:Code}(hH:Q0 E G H body)(hn:∀ s,n0<=(I s).nid)(hr:QKX I pre μ R n0 ls E H body){L:St->(Ex->St->QC)->QC}(hL:∀ st K T,(L st K).den T->∃ s q ls',pre s/\Xg n0 q ls' st.tm.length (ls'.map (QJ st.tm)) st.hp (I s)/\∀ e J g,R s e J->(K e (J.inst g)).den T):J5 E G (.loop body) L:=by
 intro st K T Q a w hn' h hrep hQ;obtain⟨s,q,ls',h1,h2,h3⟩:=hL st K T h;obtain⟨g,hr'⟩:=Rep.sub hrep h2 hG;refine wpIn_loop_rounds (μ s+1) (QRb hE hG hH hn hr _ s g a w (Nat.lt_succ_self _) h1 hr' ?_);intro e J g' a' w' hR hnJ hrJ;exact hQ e (J.inst g') a' w' (Nat.le_trans hG hnJ) (h3 e J g' hR) hrJ
end
theorem Xg.same{n0:Nat}{ls:List Nat}{len:Nat}{vals:List AV}{h:List (Nat×Blk)}{J:JSt}(h1:J.live.map (·.1)=ls)(h2:len=J.len)(h3:AV.sameRL (λi=>i) vals (J.live.map (·.2)))(h4:zU (λi=>i) h J.hp)(h5:qw J=true)(h6:QAn (λi=>i) J.hp=true)(h7:V8 h=true:=by rfl)(h8:n0<=J.nid:=by exact Nat.zero_le _):Xg n0 (λi=>i) ls len vals h J:=
 ⟨h1,h2,h3,h4,λ_ _=>rfl,h8,h5,h6,h7⟩
theorem KO{E:Env}(hE:E.Sound){d:Nat}{G:Ctx}(hG:G.rd=none){c body:Code}(hc:JA c=[.loop body]){L:St->(Ex->St->QC)->QC}(h:J5 E G (.loop body) L):Q0 E G { hnd E d with loop:=λ_=>L } c:=
 ⟨λb hb=>by rw[hc]at hb;simp only[List.mem_singleton]at hb;subst hb;exact h,(Qz hE d G c hG).call,(Qz hE d G c hG).yield⟩
def QDB(ids:List Nat)(h:List (Nat×Blk)):List (Nat×Blk):=h.filter λp=>ids.contains p.1
theorem QIp{ids:List Nat}:∀{h:List (Nat×Blk)} {id:Nat} {b:Blk},look (QDB ids h) id=some b->look h id=some b
 | [],id,b,e=>by cases e
 | (i,c)::h,id,b,e=>by
  unfold QDB at e;rw[List.filter_cons]at e;split at e
  .simp only[Kw]at e ⊢;split at e
   .rename_i hi;rw[if_pos hi];exact e
   .rename_i hi;rw[if_neg hi];exact QIp e
  .rename_i hc;have:=QIp (ids:=ids) (h:=h) (id:=id) (b:=b) e;simp only[Kw];split
   .rename_i hi;have hi:i=id:=by simpa using hi
    subst hi;have hm:=KK e;rw[List.mem_filter]at hm;exact absurd hm.2 hc
   .exact this
theorem QMc{q:Nat->Nat}{ids:List Nat}{h:List (Nat×Blk)}:∀{l:List (Nat×Blk)},zU q (QDB ids h) l->zU q h l
 | [],_=>trivial
 | (id,b)::l,hs=>by
  obtain⟨⟨b',h1,h2⟩,h3⟩:=hs;exact⟨⟨b',QIp h1,h2⟩,QMc h3⟩
theorem Xg.keep{n0:Nat}{ls:List Nat}{len:Nat}{vals:List AV}{h:List (Nat×Blk)}{J:JSt}{ids:List Nat}(hs:Xg n0 q ls len vals (QDB ids h) J)(hd:V8 h=true):Xg n0 q ls len vals h J:=
 ⟨hs.slots,hs.len,hs.tm,QMc hs.hp,hs.low,hs.nid,hs.sc,hs.inj,hd⟩
section
variable {σ:Type} (I:σ->JSt) (pre:σ->Prop) (μ:σ->Nat) (R:σ->Ex->JSt->Prop) (n0:Nat) (ls:Ex->List Nat) (ids:List Nat)
variable {I pre μ R n0 ls ids}
end
mutual
def AV.mapId(q:Nat->Nat):AV->AV
 | .ptr id e j => .ptr (q id) e j
 | .slice c id e n cp => .slice c (q id) e n cp
 | .slz id e n cp => .slz (q id) e n cp
 | .map id => .map (q id)
 | .yld id => .yld (q id)
 | .fn f l => .fn f (AV.mapIdL q l)
 | .mth f l => .mth f (AV.mapIdL q l)
 | .alt b v w => .alt b (v.mapId q) (w.mapId q)
 | .ifc t v => .ifc t (v.mapId q)
 | .opt b v => .opt b (v.mapId q)
 | .agg l => .agg (AV.mapIdL q l)
 | .tup l => .tup (AV.mapIdL q l)
 | v=>v
def AV.mapIdL(q:Nat->Nat):List AV->List AV
 | []=>[]
 | v::l=>v.mapId q::AV.mapIdL q l
end
mutual
theorem W3{p:Nat->Bool}{q:Nat->Nat}{r r':Nat->Loc}(h:∀ id,p id=true->r' (q id)=r id):∀ v:AV,v.all p=true->(v.mapId q).den r'=v.den r
 | .int ..,_ | .bool ..,_ | .addr ..,_ | .nilp,_ | .nils,_ | .nilm,_ | .nilf,_ | .nili,_ | .str ..,_ | .raw ..,_=>rfl
 | .ptr id _ _,hv=>by simp only[AV.mapId,AV.den];rw[h id hv]
 | .slice _ id _ _ _,hv=>by simp only[AV.mapId,AV.den];rw[h id hv]
 | .slz id _ _ _,hv=>by simp only[AV.mapId,AV.den];rw[h id hv]
 | .map id,hv=>by simp only[AV.mapId,AV.den];rw[h id hv]
 | .yld id,hv=>by simp only[AV.mapId,AV.den];rw[h id hv]
 | .fn _ cap,hv=>by simp only[AV.mapId,AV.den];rw[den_mapIdL h cap hv]
 | .mth _ l,hv=>by simp only[AV.mapId,AV.den];rw[den_mapIdL h l hv]
 | .alt _ v w,hv=>by
  simp only[AV.all,qbA]at hv;simp only[AV.mapId,AV.den];rw[W3 h v hv.1,W3 h w hv.2]
 | .ifc _ v,hv=>by simp only[AV.mapId,AV.den];rw[W3 h v hv]
 | .opt _ v,hv=>by simp only[AV.mapId,AV.den];rw[W3 h v hv]
 | .agg l,hv=>by simp only[AV.mapId,AV.den];rw[den_mapIdL h l hv]
 | .tup l,hv=>by simp only[AV.mapId,AV.den];rw[den_mapIdL h l hv]
theorem den_mapIdL{p:Nat->Bool}{q:Nat->Nat}{r r':Nat->Loc}(h:∀ id,p id=true->r' (q id)=r id):∀ l:List AV,AV.allL p l=true->AV.denL r' (AV.mapIdL q l)=AV.denL r l
 | [],_=>rfl
 | v::l,hv=>by
  simp only[AV.allL,qbA]at hv;simp only[AV.mapIdL,AV.denL];rw[W3 h v hv.1,den_mapIdL h l hv.2]
end
theorem qa(q:Nat->Nat):∀ l,AV.mapIdL q l=l.map (AV.mapId q)
 | []=>rfl
 | v::l=>by rw[AV.mapIdL,qa q l];rfl
def Blk.mapId(q:Nat->Nat):Blk->Blk
 | .cells z t l => .cells z t (AV.mapIdL q l)
 | .rowl t z l => .rowl t z (l.map (AV.mapIdL q))
 | .cellsR z t l => .cellsR z t (AV.mapIdL q l)
 | .rowlR t z l => .rowlR t z (l.map (AV.mapIdL q))
 | .lp s pe l ps as body => .lp s pe (AV.mapIdL q l) ps as body
 | .itm l t a b c => .itm (AV.mapIdL q l) t a b c
 | b=>b
theorem QBN(q:Nat->Nat):∀ l:List (List AV),(l.map (AV.mapIdL q)).flatten=AV.mapIdL q l.flatten
 | []=>rfl
 | x::l=>by rw[List.map_cons,List.flatten_cons,QBN q l,List.flatten_cons,qa,qa,qa,List.map_append]
theorem Blk.mapId_rep{p:Nat->Bool}(h:∀ id,p id=true->r' (q id)=r id){id:Nat}(hid:r' (q id)=r id):∀{b:Blk},b.all p=true->QN r id w b->QN r' (q id) w (b.mapId q)
 | .cells z t l,ha,hb=>by
  simp only[Blk.mapId,QN]at hb ⊢;rw[hid,den_mapIdL h l ha];exact hb
 | .rowl t z l,ha,hb=>by
  simp only[Blk.mapId,QN]at hb ⊢;rw[hid,QBN,den_mapIdL h _ (YG ha),List.length_map];refine⟨hb.1,hb.2.1,λx hx=>?_,hb.2.2.2⟩;obtain⟨y,hy,rfl⟩:=List.mem_map.1 hx;rw[qa,List.length_map];exact hb.2.2.1 y hy
 | .cellsR z t l,ha,hb=>by
  simp only[Blk.mapId,QN]at hb ⊢;rw[hid,den_mapIdL h l ha];exact hb
 | .rowlR t z l,ha,hb=>by
  simp only[Blk.mapId,QN]at hb ⊢;rw[hid,QBN,den_mapIdL h _ (YG ha),List.length_map];refine⟨hb.1,hb.2.1,λx hx=>?_,hb.2.2.2⟩;obtain⟨y,hy,rfl⟩:=List.mem_map.1 hx;rw[qa,List.length_map];exact hb.2.2.1 y hy
 | .gone,_,_=>trivial
 | .lp s pe l ps as body,ha,hb=>by
  simp only[Blk.mapId,QN]at hb ⊢;rw[hid,den_mapIdL h l ha];exact hb
 | .dfr,_,hb=>by
  simp only[Blk.mapId,QN]at hb ⊢;rw[hid];exact hb
 | .mp ..,_,hb=>by
  simp only[Blk.mapId,QN]at hb ⊢;rw[hid];exact hb
 | .rowz o ty z n get,_,hb=>by
  simp only[Blk.mapId,QN,Kl]at hb ⊢;rw[hid];obtain⟨h1,h2,h3,h4,h5,h6⟩:=hb;refine⟨h1,h2,h3,h4,h5,λhn=>?_⟩;obtain⟨h7,rest,h8,h9⟩:=h6 hn;exact⟨h7,rest,h8,by rw[h9,denL_congr (p:=λ_=>false) (r:=r) (r':=r') (λ_ hf=>by cases hf) _ (GR λi hi=>Xu (h5 i hi).2)]⟩
 | .frz z n get,_,hb=>by
  simp only[Blk.mapId,QN]at hb ⊢;rw[hid];exact⟨hb.1,hb.2.1,hb.2.2.keep λ_ _=>rfl⟩
 | .itm l t a b c,ha,hb=>by
  simp only[Blk.mapId,QN]at hb ⊢;rw[hid,den_mapIdL h l ha];exact hb
theorem Blk.mapId_back{p:Nat->Bool}(h:∀ id,p id=true->r' (q id)=r id){id:Nat}(hid:r' (q id)=r id):∀{b:Blk},b.all p=true->QN r' (q id) w (b.mapId q)->QN r id w b
 | .cells z t l,ha,hb=>by
  simp only[Blk.mapId,QN]at hb ⊢;rw[hid,den_mapIdL h l ha]at hb;exact hb
 | .rowl t z l,ha,hb=>by
  simp only[Blk.mapId,QN]at hb ⊢;rw[hid,QBN,den_mapIdL h _ (YG ha),List.length_map]at hb;refine⟨hb.1,hb.2.1,λx hx=>?_,hb.2.2.2⟩;have:=hb.2.2.1 _ (List.mem_map_of_mem hx);rw[qa,List.length_map]at this;exact this
 | .cellsR z t l,ha,hb=>by
  simp only[Blk.mapId,QN]at hb ⊢;rw[hid,den_mapIdL h l ha]at hb;exact hb
 | .rowlR t z l,ha,hb=>by
  simp only[Blk.mapId,QN]at hb ⊢;rw[hid,QBN,den_mapIdL h _ (YG ha),List.length_map]at hb;refine⟨hb.1,hb.2.1,λx hx=>?_,hb.2.2.2⟩;have:=hb.2.2.1 _ (List.mem_map_of_mem hx);rw[qa,List.length_map]at this;exact this
 | .gone,_,_=>trivial
 | .lp s pe l ps as body,ha,hb=>by
  simp only[Blk.mapId,QN]at hb ⊢;rw[hid,den_mapIdL h l ha]at hb;exact hb
 | .dfr,_,hb=>by
  simp only[Blk.mapId,QN]at hb ⊢;rw[hid]at hb;exact hb
 | .mp ..,_,hb=>by
  simp only[Blk.mapId,QN]at hb ⊢;rw[hid]at hb;exact hb
 | .rowz o ty z n get,_,hb=>by
  simp only[Blk.mapId,QN,Kl]at hb ⊢;rw[hid]at hb;obtain⟨h1,h2,h3,h4,h5,h6⟩:=hb;refine⟨h1,h2,h3,h4,h5,λhn=>?_⟩;obtain⟨h7,rest,h8,h9⟩:=h6 hn;exact⟨h7,rest,h8,by rw[h9,denL_congr (p:=λ_=>false) (r:=r') (r':=r) (λ_ hf=>by cases hf) _ (GR λi hi=>Xu (h5 i hi).2)]⟩
 | .frz z n get,_,hb=>by
  simp only[Blk.mapId,QN]at hb ⊢;rw[hid]at hb;exact⟨hb.1,hb.2.1,hb.2.2.keep λ_ _=>rfl⟩
 | .itm l t a b c,ha,hb=>by
  simp only[Blk.mapId,QN]at hb ⊢;rw[hid,den_mapIdL h l ha]at hb;exact hb
theorem Blk.mapId_own(q:Nat->Nat)(b:Blk):(b.mapId q).own=b.own:=by cases b<;>rfl
theorem Blk.mapId_live(q:Nat->Nat)(b:Blk):(b.mapId q).live=b.live:=by cases b<;>rfl
def QCT:QC->Option (Bool×Bool×AV×List (Nat×Blk))
 | .leaf v h=>some (true,true,v,h)
 | .need b t=>match QCT t with
  | some (_,p,v,h)=>some (false,b&&p,v,h)
  | none=>none
 | _=>none
theorem QP8:∀{t:QC} {k p:Bool} {v:AV} {h:List (Nat×Blk)},QCT t=some (k,p,v,h)->p=true->t.den λu g=>u=v/\g=h
 | .leaf u g,k,p,v,h,e,_=>by
  simp only[QCT,qsI,qpI]at e;exact⟨e.2.2.1,e.2.2.2⟩
 | .need b t,k,p,v,h,e,hp=>by
  simp only[QCT]at e;split at e<;>(try (cases e;done))
  rename_i k' p' v' h' ht;simp only[qsI,qpI]at e;obtain⟨_,rfl,rfl,rfl⟩:=e;simp only[qbA]at hp;exact⟨hp.1,QP8 ht hp.2⟩
def QEd:List Nat->Nat->Nat->Nat
 | [],_,k=>k
 | x::l,id,k=>match x==id with
  | true=>k
  | false=>QEd l id (k+1)
def Xe(N nid:Nat)(news:List Nat)(id:Nat):Nat:=match decide (id<N)with
 | true=>id
 | false=>nid+QEd news id 0
def J4(pr:Blk->Blk):List Nat->List Blk->List (Nat×Blk)
 | i::l,b::bs=>(i,pr b)::J4 pr l bs
 | _,_=>[]
def Gh(rw:Bool)(b:Blk):Blk:=match rw with
 | true=>b
 | false=>b.ro
def W2(N nid:Nat)(news:List Nat)(id:Nat):Bool:=(decide (id<N) && !inR nid id)||news.contains id
def qN(N nid:Nat)(news:List Nat)(h:List (Nat×Blk)):List (Nat×Blk)->List (Nat×Blk)
 | []=>[]
 | (id,b)::l=>match b.own with
  | true=>(id,match look h id with|some b'=>b'.mapId (Xe N nid news)|none => .gone)::qN N nid news h l
  | false=>qN N nid news h l
def QCt(N nid:Nat)(news:List Nat)(h:List (Nat×Blk)):List Nat->Option (List (Nat×Blk))
 | []=>some []
 | id::l=>match look h id,QCt N nid news h l with
  | some b,some u=>(match b.own with
   | true=>some ((Xe N nid news id,b.mapId (Xe N nid news))::u)
   | false=>none)
  | _,_=>none
def QOx:List Nat->Bool
 | []=>true
 | x::l => !(l.contains x)&&QOx l
def QD5(l:List Nat):Nat:=l.foldl (λa b=>if a<=b then b else a) 0
def QCI(rw:Bool)(E:Env)(H:Hnd)(fn:Func):FC:=λargs nid all=>(all,λblks=>
 let N:=(if QD5 all<=nid then nid else QD5 all)+1000
 let hp:=J4 (Gh rw) all blks
 match AV.allL (·<N) args&&hp.all (λp=>decide (p.1<N)&&p.2.all (·<N))with
 | false=>none
 | true=>match QCT (Vv E H fn args hp N λv h _=>.leaf v h)with
  | none=>none
  | some (k,p,v,h)=>
   let old:=hp.flatMap λq=>match q.2.own with|true=>(match look h q.1 with|some b=>b.idsFrom N|none=>[])|false=>[]
   let news:=QCB N h 3 (Xn (v.idsFrom N++old) [])
   match QCt N nid news h news with
   | none=>none
   | some u=>match QOx news&&(decide (news.length<=8)&&(v.all (W2 N nid news)&&(news.all (λid=>decide (N<=id)&&(match look h id with|some b=>b.plain&&b.all (W2 N nid news)|none=>false)) &&
     hp.all λq=>!q.2.own||(q.2.plain&&(match look h q.1 with|some b=>b.plain&&b.all (W2 N nid news)|none=>true)))))with
    | true=>some ⟨k,p,v.mapId (Xe N nid news),qN N nid news h hp++u⟩
    | false=>none)
theorem QHl:∀(l:List Nat) (id k:Nat),id∈l->∃ i,QEd l id k=k+i/\i<l.length/\l[i]? = some id
 | x::l,id,k,h=>by
  simp only[QEd];split
  .rename_i hx;have:x=id:=by simpa using hx
   subst this;exact⟨0,rfl,by simp,rfl⟩
  .rename_i hx;have hne:x≠id:=by simpa using hx
   obtain⟨i,h1,h2,h3⟩:=QHl l id (k+1) (by rcases List.mem_cons.1 h with rfl|h;exact absurd rfl hne;exact h)
   exact⟨i+1,by rw[h1];omega,by simpa using h2,by simpa using h3⟩
theorem vk{pr:Blk->Blk}:∀{l:List Nat} {bs:List Blk} {lk:Nat->Option Blk},l.map lk=bs.map some->∀ p∈J4 pr l bs,∃ b,lk p.1=some b/\p.2=pr b
 | [],[],_,_,p,hp=>by simp[J4]at hp
 | i::l,b::bs,lk,h,p,hp=>by
  simp only[List.map_cons,List.cons.injEq]at h;simp only[J4]at hp;rcases List.mem_cons.1 hp with rfl|hp
  .exact⟨b,h.1,rfl⟩
  .exact vk h.2 p hp
 | [],_::_,_,h,_,_=>by simp at h
 | _::_,[],_,h,_,_=>by simp at h
theorem jZ{N nid:Nat}{news:List Nat}{h:List (Nat×Blk)}:∀{l:List (Nat×Blk)} {p:Nat×Blk},p∈qN N nid news h l->∃ b,(p.1,b)∈l/\b.own=true/\p.2=(match look h p.1 with|some b'=>b'.mapId (Xe N nid news)|none => .gone)
 | [],p,hp=>by simp[qN]at hp
 | (id,b)::l,p,hp=>by
  simp only[qN]at hp;split at hp
  .rename_i ho;rcases List.mem_cons.1 hp with rfl|hp
   .exact⟨b,qmc,ho,rfl⟩
   .obtain⟨b',h1,h2⟩:=jZ hp;exact⟨b',List.mem_cons_of_mem _ h1,h2⟩
  .obtain⟨b',h1,h2⟩:=jZ hp;exact⟨b',List.mem_cons_of_mem _ h1,h2⟩
theorem QKR{N nid:Nat}{news:List Nat}{h:List (Nat×Blk)}:∀{l:List (Nat×Blk)} {id:Nat} {b:Blk},(id,b)∈l->b.own=true->∃ b',(id,b')∈qN N nid news h l
 | (id',b')::l,id,b,hm,ho=>by
  simp only[qN];rcases List.mem_cons.1 hm with e|hm
  .simp only[qpI]at e;obtain⟨rfl,rfl⟩:=e;rw[ho];exact⟨_,qmc⟩
  .obtain⟨b'',hm'⟩:=QKR (N:=N) (nid:=nid) (news:=news) (h:=h) hm ho;split
   .exact⟨b'',List.mem_cons_of_mem _ hm'⟩
   .exact⟨b'',hm'⟩
theorem vY{N nid:Nat}{news:List Nat}{h:List (Nat×Blk)}:∀{l:List Nat} {u:List (Nat×Blk)},QCt N nid news h l=some u->∀ p∈u,∃ id b,id∈l/\look h id=some b/\b.own=true/\p=(Xe N nid news id,b.mapId (Xe N nid news))
 | [],u,e,p,hp=>by simp only[QCt,qsI]at e;subst e;cases hp
 | i::l,u,e,p,hp=>by
  simp only[QCt]at e;split at e<;>(try (cases e;done))
  rename_i b u' hb hu;split at e<;>(try (cases e;done))
  rename_i ho;simp only[qsI]at e;subst e;rcases List.mem_cons.1 hp with rfl|hp
  .exact⟨i,b,qmc,hb,ho,rfl⟩
  .obtain⟨id,b',h1,h2⟩:=vY hu p hp;exact⟨id,b',List.mem_cons_of_mem _ h1,h2⟩
theorem QGx{id k:Nat}:Qo r id b.ro k↔Qo r id b k:=by cases b<;>exact Iff.rfl
theorem QHp{id k:Nat}:Qo r id (Gh rw_ b) k↔Qo r id b k:=by
 cases rw_
 .exact QGx
 .exact Iff.rfl
theorem Blk.mapId_plain(h:b.plain=true):(b.mapId q).plain=true:=by cases b<;>first|rfl|cases h
theorem QgB{id:Nat}(h:QN r id w b):QN r id w (Gh rw_ b):=by
 cases rw_
 .exact h.ro
 .exact h
theorem QIU{E:Env}(hE:E.Sound){H:Hnd}{f:FuncId}{fn:Func}{c:Code}(hf:E.P.funcs[f]? = some fn)(hb:fn.body=some c)(hgo:J8 E.P f=true)(hl:∀ G,G.rd=none->Q0 E G H c):QS E.P f (QCI rw_ E H fn):=by
 refine⟨hgo,λargs nid all r w lk blks eff hH hargs hv he hp=>?_⟩;simp only[QCI]at hv he;generalize (if QD5 all<=nid then nid else QD5 all)+1000=N at he
 generalize hhp:J4 (Gh rw_) all blks=hp0 at he;split at he<;>(try (cases he;done))
 rename_i hsc;simp only[qbA,List.all_eq_true,qdE]at hsc;obtain⟨hsa,hsb⟩:=hsc;split at he<;>(try (cases he;done))
 rename_i k pp v h hone;split at he<;>(try (cases he;done))
 rename_i u hu;split at he<;>(try (cases he;done))
 rename_i hch;generalize QCB N h 3 _=news at *;simp only[qsI]at he;subst he;simp only at hp;simp only[qbA,List.all_eq_true,qdE,qbO,Bool.not_eq_true']at hch;obtain⟨_,hlen,hva,hna,hoa⟩:=hch
 have hz:∀ id b,look hp0 id=some b->∃ b0,lk id=some b0/\b=Gh rw_ b0:=by
  intro id b hlk;have:=KK hlk;rw[<-hhp]at this;exact vk hv _ this
 have hI0:KM ⟨w,λk=>∃ id b,look hp0 id=some b/\b.own=true/\Qo r id b k,N,r,none⟩ N r hp0 w:=by
  refine⟨λid b hlk=>?_,λid id' b b' h1 h2 hne ho=>?_,λ_ _=>rfl,Fr.refl _ _,λid b hlk ho k hk=>.inl ⟨id,b,hlk,ho,hk⟩,λid b hlk=>?_,λid b hlk=>?_⟩
  .obtain⟨b0,h1,rfl⟩:=hz id b hlk;exact QgB (hH.rep id b0 h1)
  .obtain⟨b0,k1,rfl⟩:=hz id b h1;obtain⟨b0',k2,rfl⟩:=hz id' b' h2;cases rw_
   .simp only[Gh]at ho;intro k hk hk';refine hH.sep id id' b0 b0' k1 k2 hne ?_ ?_ k (QGx.1 hk) (QGx.1 hk')
    .rw[<-Blk.own_ro b0 ho];exact ho
    .rw[<-Blk.live_ro];exact XQ h2
   .exact hH.sep id id' b0 b0' k1 k2 hne ho (XQ h2)
  .exact(hsb _ (KK hlk)).1
  .exact(hsb _ (KK hlk)).2
 refine(HL hE hf hb (hl _ rfl) rfl hI0 hsa (QP8 hone hp)).mono ?_;rintro e w' ⟨v',h',nid',r',⟨rfl,rfl⟩,rfl,hle,hI,hvn⟩
 have hex:∃ rr:Nat->Loc,(∀ id,inR nid id=false->rr id=r id)/\∀ id,W2 N nid news id=true->rr (Xe N nid news id)=r' id:=by
  refine⟨(λj=>if inR nid j=true then r' (news.getD (j-nid) 0)else r j),λid hid=>if_neg (by rw[hid];simp),λid hid=>?_⟩
  simp only[W2,qbO,qbA,qdE,Bool.not_eq_true',List.contains_iff_mem]at hid
  by_cases hlt:id<N
  .have hin:inR nid id=false:=by
    rcases hid with h|h
    .exact h.2
    .exact absurd hlt (by have:=(hna id h).1;omega)
   simp only[Xe,hlt,decide_true,hin,Bool.false_eq_true,if_false];exact(hI.ext id hlt).symm
  .rcases hid with h|h
   .exact absurd h.1 hlt
   .obtain⟨i,h1,h2,h3⟩:=QHl news id 0 h;have hin:inR nid (nid+(0+i))=true:=by simp[inR];omega
    simp only[Xe,hlt,decide_false,h1,hin,if_true];rw[show nid+(0+i)-nid=i by omega,List.getD_eq_getElem?_getD,h3];rfl
 obtain⟨rr,hsame,hkey⟩:=hex;have hold:∀ id,id<N->Xe N nid news id=id:=by intro id hlt;simp[Xe,hlt]
 have hnew:∀ id,id∈news->inR nid (Xe N nid news id)=true/\¬ id<N:=by
  intro id hm;have hlt:¬ id<N:=by have:=(hna id hm).1;omega
  obtain⟨i,h1,h2,h3⟩:=QHl news id 0 hm;refine⟨?_,hlt⟩;simp only[Xe,hlt,decide_false,h1];simp[inR];omega
 have hnok:∀ id,id∈news->W2 N nid news id=true:=by intro id hm;simp[W2,hm]
 have hopos:∀ id b,(id,b)∈hp0->id<N/\inR nid id=false:=by
  intro id b hm;refine⟨(hsb _ hm).1,?_⟩;rw[<-hhp]at hm;obtain⟨b0,h1,_⟩:=vk hv _ hm;exact hH.out id b0 h1
 refine⟨rr,?_,?_⟩
 .rw[W3 hkey v' hva]
 .refine⟨hsame,λp hpm=>?_,?_,λp hpm hin hlv k hk=>?_,λp hpm hin hlv k hk=>?_,λp hpm q hqm hin hin' hne ho hlv k hk hk'=>?_⟩
  .rcases List.mem_append.1 hpm with hm|hm
   .obtain⟨b,h1,h2,h3⟩:=jZ hm;obtain⟨hlt,hin⟩:=hopos _ _ h1;rw[h3];split
    .rename_i b' hb'
     have hall:b'.all (W2 N nid news)=true:=by
      rcases hoa _ h1 with h|h
      .rw[h2]at h;cases h
      .rw[hb']at h;simp only[qbA]at h;exact h.2.2
     have:=Blk.mapId_rep hkey (id:=p.1) (w:=w') (hkey p.1 (by simp[W2,hlt,hin])) hall (hI.rep _ _ hb')
     rw[hold _ hlt]at this;exact this
    .trivial
   .obtain⟨id,b,h1,h2,h3,rfl⟩:=vY hu p hm;have hall:=(hna id h1).2;rw[h2]at hall;simp only[qbA]at hall;exact Blk.mapId_rep hkey (hkey id (hnok id h1)) hall.2 (hI.rep _ _ h2)
  .refine⟨hI.fr.os,hI.fr.tape,hI.fr.output,hI.fr.size,hI.fr.drawn,λk hk hc=>hI.fr.block k hk ?_⟩;rintro⟨id,b,h1,h2,h3⟩;have hm:=KK h1;obtain⟨b',hb'⟩:=QKR (N:=N) (nid:=nid) (news:=news) (h:=h') hm h2;obtain⟨b0,g1,rfl⟩:=hz id b h1;exact hc ⟨(id,b'),List.mem_append_left _ hb',(hopos _ _ hm).2,b0,g1,QHp.1 h3⟩
  .rcases List.mem_append.1 hpm with hm|hm
   .obtain⟨b,h1,h2,h3⟩:=jZ hm;rw[(hopos _ _ h1).2]at hin;cases hin
   .obtain⟨id,b,h1,h2,h3,rfl⟩:=vY hu p hm;have hpl:=(hna id h1).2;rw[h2]at hpl;simp only[qbA]at hpl
    have hk0:k=(r' id).blk:=by
     have:=(VJ (Blk.mapId_plain hpl.1)).1 hk;rw[hkey id (hnok id h1)]at this;exact this
    rcases hI.own id b h2 h3 k ((VJ hpl.1).2 hk0)with ⟨id0,b0,k1,k2,k3⟩|k
    .have hm0:=KK k1;obtain⟨hlt0,hin0⟩:=hopos _ _ hm0
     have hno:look h' id0=none:=by
      cases hlk:look h' id0 with
      | none=>rfl
      | some b'=>
       exfalso
       have hpl0:b0.plain=true/\b'.plain=true:=by
        rcases hoa _ hm0 with h|h
        .rw[k2]at h;cases h
        .rw[hlk]at h;simp only[qbA]at h;exact⟨h.1,h.2.1⟩
       refine hI.sep id id0 b b' h2 hlk (by rintro rfl;exact(hnew _ h1).2 hlt0) h3 k ((VJ hpl.1).2 hk0) ((VJ hpl0.2).2 ?_)
       rw[hI.ext id0 hlt0];exact(VJ hpl0.1).1 k3
     obtain⟨b',hb'⟩:=QKR (N:=N) (nid:=nid) (news:=news) (h:=h') hm0 k2;obtain⟨b00,g1,rfl⟩:=hz id0 b0 k1;refine .inr (.inl ⟨(id0,b'),List.mem_append_left _ hb',hin0,λz hz hzi=>?_,b00,g1,QHp.1 k3⟩);rcases List.mem_append.1 hz with hz|hz
     .obtain⟨b2,_,_,j3⟩:=jZ hz;simp only at hzi;rw[j3,hzi,hno];rfl
     .obtain⟨id2,b2,j1,_,_,rfl⟩:=vY hu z hz;simp only at hzi;have:=(hnew id2 j1).1;rw[hzi,hin0]at this;cases this
    .exact .inl k
  .rcases List.mem_append.1 hpm with hm|hm
   .obtain⟨b,h1,h2,h3⟩:=jZ hm;obtain⟨hlt,hin0⟩:=hopos _ _ h1;have hmz:=h1;rw[<-hhp]at hmz;obtain⟨b00,g1,g2⟩:=vk hv _ hmz;rcases hoa _ h1 with h|h
    .rw[h2]at h;cases h
    .rw[h3]at hk hlv;split at hk
     .rename_i b' hb';rw[hb']at h;simp only[qbA]at h;have hk:=(VJ (Blk.mapId_plain h.2.1)).1 hk;rw[hsame _ hin0]at hk;refine⟨b00,g1,(QHp (b:=b00) (rw_:=rw_)).1 ?_⟩;simp only at g2;rw[<-g2];exact(VJ h.1).2 hk
     .rename_i hn;rw[hn]at hlv;cases hlv
   .obtain⟨id,b,h1,h2,h3,rfl⟩:=vY hu p hm;have:=(hnew id h1).1;rw[hin]at this;cases this
  .rcases List.mem_append.1 hpm with hm|hm
   .obtain⟨b,h1,h2,h3⟩:=jZ hm;rw[(hopos _ _ h1).2]at hin;cases hin
   rcases List.mem_append.1 hqm with hm'|hm'
   .obtain⟨b,h1,h2,h3⟩:=jZ hm';rw[(hopos _ _ h1).2]at hin';cases hin'
   obtain⟨id,b,h1,h2,h3,rfl⟩:=vY hu p hm;obtain⟨id2,b2,j1,j2,j3,rfl⟩:=vY hu q hm';have hpl:=(hna id h1).2;rw[h2]at hpl;simp only[qbA]at hpl;have hpl2:=(hna id2 j1).2;rw[j2]at hpl2;simp only[qbA]at hpl2;have hk:=(VJ (Blk.mapId_plain hpl.1)).1 hk;have hk':=(VJ (Blk.mapId_plain hpl2.1)).1 hk';rw[hkey id (hnok id h1)]at hk;rw[hkey id2 (hnok id2 j1)]at hk';exact hI.sep id id2 b b2 h2 j2 (by rintro rfl;exact hne rfl) h3 k ((VJ hpl.1).2 hk) ((VJ hpl2.1).2 hk')
theorem QG{b:Bool}(hb:b=true)(ht:t.den Q):(QC.need b t).den Q:=⟨hb,ht⟩
theorem Jc{b:Bool}{f:Bool->QC}(h:∀ x,x=b->(f x).den Q):(QC.bnd b f).den Q:=h
theorem QE{b:Bool}{e:QC}(h1:b=true->t.den Q)(h2:b=false->e.den Q):(QC.br b t e).den Q:=⟨h1,h2⟩
theorem Qt{p:Prop}(hp:p)(ht:t.den Q):(QC.ask p t).den Q:=⟨hp,ht⟩
theorem Qk{p:Prop}(ht:p->t.den Q):(QC.asm p t).den Q:=ht
theorem Ql{f:(Nat->Value)->QC}(ht:∀ g,(f g).den Q):(QC.all f).den Q:=ht
theorem Kq{a b:QC}(h1:a.den Q)(h2:b.den Q):(QC.both a b).den Q:=⟨h1,h2⟩
structure Zn (Q:AV->List (Nat×Blk)->Prop) (t:QC):Prop where
 den:t.den Q
inductive Cv where
 | same
 | ghost
 | lift
structure Pr where
 p:Nat
 s:Nat
 c:Cv
mutual
def prV:AV->AV->List Pr
 | .ptr id _ _,.ptr id' _ _=>[⟨id',id,.same⟩]
 | .slice _ id _ _ _,.slice _ id' _ _ _=>[⟨id',id,.same⟩]
 | .slice _ id _ _ _,.slz id' _ _ _=>[⟨id',id,.lift⟩]
 | .slz id _ _ _,.slz id' _ _ _=>[⟨id',id,.same⟩]
 | .nils,.slz id' _ _ _=>[⟨id',0,.ghost⟩]
 | .map id,.map id'=>[⟨id',id,.same⟩]
 | .yld id,.yld id'=>[⟨id',id,.same⟩]
 | .fn _ l,.fn _ l'=>prL l l'
 | .mth _ l,.mth _ l'=>prL l l'
 | .ifc _ v,.ifc _ v'=>prV v v'
 | .agg l,.agg l'=>prL l l'
 | .tup l,.tup l'=>prL l l'
 | _,_=>[]
def prL:List AV->List AV->List Pr
 | v::l,v'::l'=>prV v v'++prL l l'
 | _,_=>[]
end
def JI:List Pr->Nat->Option Pr
 | [],_=>none
 | x::l,i=>match Nat.beq x.p i with
  | true=>some x
  | false=>JI l i
def QBV:List Pr->List Pr->List Pr
 | [],acc=>acc
 | x::l,acc=>match JI acc x.p with
  | some _=>QBV l acc
  | none=>QBV l (acc++[x])
def prB:Blk->Blk->List Pr
 | .cells _ _ l,.cells _ _ l'=>prL l l'
 | .cells _ _ l,.cellsR _ _ l'=>prL l l'
 | .cellsR _ _ l,.cellsR _ _ l'=>prL l l'
 | .lp _ _ l _ _ _,.lp _ _ l' _ _ _=>prL l l'
 | .itm l _ _ _ _,.itm l' _ _ _ _=>prL l l'
 | .rowl _ _ l,.rowl _ _ l'=>prL l.flatten l'.flatten
 | _,_=>[]
def QDw(h hJ:List (Nat×Blk))(Q:List Pr):List Pr:=QBV (Q.flatMap λx=>match look h x.s,look hJ x.p with
 | some b,some b'=>prB b b'
 | _,_=>[]) Q
def QEG(n0:Nat):List (Nat×Blk)->List Pr
 | []=>[]
 | (i,_)::l=>match Nat.blt i n0 with
  | true=>⟨i,i,.same⟩::QEG n0 l
  | false=>QEG n0 l
def Wx(n0:Nat)(vals Jv:List AV)(h hJ:List (Nat×Blk)):List Pr:=QDw h hJ (QDw h hJ (QDw h hJ (QBV (prL vals Jv) (QEG n0 hJ))))
def isP(Q:List Pr)(p s:Nat):Bool:=match JI Q p with
 | some ⟨_,s',.same⟩=>Nat.beq s s'
 | some ⟨_,s',.lift⟩=>Nat.beq s s'
 | _=>false
def QI4(Q:List Pr)(p s:Nat):Bool:=match JI Q p with
 | some ⟨_,s',.lift⟩=>Nat.beq s s'
 | _=>false
def QHg(Q:List Pr)(p s:Nat):Bool:=match JI Q p with
 | some ⟨_,s',.same⟩=>Nat.beq s s'
 | _=>false
def QJj(Q:List Pr)(p:Nat):Bool:=match JI Q p with
 | some ⟨_,_,.ghost⟩=>true
 | _=>false
def QNk:IntKind->IntKind->Bool
 | k,k'=>k==k'
mutual
def eqV(Q:List Pr):AV->AV->Option (List Prop)
 | .int _ k n,.int _ k' n'=>match QNk k k' with|true=>some [n=n']|false=>none
 | .bool _ b,.bool _ b'=>some [b=b']
 | .ptr id e j,.ptr id' e' j'=>match isP Q id' id with|true=>some [e=e',j=j']|false=>none
 | .addr a,.addr a'=>some [a=a']
 | .nilp,.nilp=>some []
 | .slice _ id e n cp,.slice _ id' e' n' cp'=>match isP Q id' id with|true=>some [e=e',n=n',cp=cp']|false=>none
 | .slice _ id e n cp,.slz id' e' n' cp'=>match QI4 Q id' id with|true=>some [e=e',n=n',cp=cp']|false=>none
 | .slz id e n cp,.slz id' e' n' cp'=>match QHg Q id' id with|true=>some [e=e',n=n',cp=cp']|false=>none
 | .nils,.slz id' _ n' _=>match QJj Q id' with|true=>some [n'=0]|false=>none
 | .nils,.nils=>some []
 | .map id,.map id'=>match isP Q id' id with|true=>some []|false=>none
 | .yld id,.yld id'=>match isP Q id' id with|true=>some []|false=>none
 | .nilm,.nilm=>some []
 | .fn f l,.fn f' l'=>match eqL Q l l' with|some ps=>some ((f=f')::ps)|none=>none
 | .mth f l,.mth f' l'=>match eqL Q l l' with|some ps=>some ((f=f')::ps)|none=>none
 | .nilf,.nilf=>some []
 | .ifc t v,.ifc t' v'=>match eqV Q v v' with|some ps=>some ((t=t')::ps)|none=>none
 | .nili,.nili=>some []
 | .str s,.str s'=>some [s=s']
 | .agg l,.agg l'=>eqL Q l l'
 | .tup l,.tup l'=>eqL Q l l'
 | .raw v,.raw v'=>some [v=v']
 | _,_=>none
def eqL(Q:List Pr):List AV->List AV->Option (List Prop)
 | [],[]=>some []
 | v::l,v'::l'=>match eqV Q v v',eqL Q l l' with
  | some ps,some qs=>some (ps++qs)
  | _,_=>none
 | _,_=>none
end
def QAZ(Q:List Pr):List (List AV)->List (List AV)->Option (List Prop)
 | [],[]=>some []
 | v::l,v'::l'=>match eqL Q v v',QAZ Q l l' with
  | some ps,some qs=>some (ps++qs)
  | _,_=>none
 | _,_=>none
def eqF:Nat->Nat->(Nat->Int)->(Nat->Int)->Prop
 | 0,_,_,_=>True
 | n+1,j,f,g=>f j=g j/\eqF n (j+1) f g
theorem QPE:∀{n j:Nat} {f g:Nat->Int},eqF n j f g->∀ i,i<n->f (j+i)=g (j+i)
 | 0,_,_,_,_,i,hi=>by omega
 | n+1,j,f,g,h,0,_=>h.1
 | n+1,j,f,g,h,i+1,hi=>by
  have:=QPE h.2 i (by omega)
  rw[show j+(i+1)=j+1+i by omega];exact this
def QB(m n:Nat)(g g':Nat->Nat->Int):Prop:=∀ i,i<n->eqF m 0 (g i) (g' i)
theorem QGO:∀(n j:Nat) (f:Nat->Int),eqF n j f f
 | 0,_,_=>trivial
 | n+1,j,f=>⟨rfl,QGO n (j+1) f⟩
theorem QB.refl(m n:Nat)(g:Nat->Nat->Int):QB m n g g:=λ_ _=>QGO _ _ _
theorem qRr{m:Nat}:QB m n g g:=QB.refl m n g
def jy(ks:List CK)(l:List (List AV))(n:Nat)(g':Nat->Nat->Int):Prop:=n<=l.length/\∀ i,i<n->∀ x,l[i]? = some x->∀ r,AV.denL r x=AV.denL r (QY ks g' i)
def eqB(Q:List Pr)(c:Cv):Blk->Blk->Option (List Prop)
 | .cells z t l,.cells z' t' l'=>match c,Nat.beq z z',Nat.beq t t' with | .same,true,true=>eqL Q l l'|_,_,_=>none
 | .cells z t l,.cellsR z' t' l'=>match c,Nat.beq z z',Nat.beq t t' with | .same,true,true=>eqL Q l l'|_,_,_=>none
 | .cellsR z t l,.cellsR z' t' l'=>match c,Nat.beq z z',Nat.beq t t' with | .same,true,true=>eqL Q l l'|_,_,_=>none
 | .rowl t z l,.rowl t' z' l'=>match c,Nat.beq z z',Nat.beq t t' with | .same,true,true=>QAZ Q l l'|_,_,_=>none
 | .rowz o t ks n g,.rowz o' t' ks' n' g'=>match c,ksB ks ks',Nat.beq t t',(o || !o')with | .same,true,true,true=>some [n'<=n,QB ks'.length n' g g']|_,_,_,_=>none
 | .rowz _ _ ks n g,.frz ks' n' g'=>match c,ksB ks ks' with | .same,true=>some [n'<=n,QB ks'.length n' g g']|_,_=>none
 | .frz ks n g,.frz ks' n' g'=>match c,ksB ks ks' with | .same,true=>some [n'<=n,QB ks'.length n' g g']|_,_=>none
 | .rowl t z l,.rowz _ t' ks' n' g'=>match c,Nat.beq z ks'.length,Nat.beq t t' with | .lift,true,true=>some [jy ks' l n' g']|_,_,_=>none
 | .rowl _ z l,.frz ks' n' g'=>match c,Nat.beq z ks'.length with | .lift,true=>some [jy ks' l n' g']|_,_=>none
 | .rowlR _ z l,.frz ks' n' g'=>match c,Nat.beq z ks'.length with | .lift,true=>some [jy ks' l n' g']|_,_=>none
 | .mp es cl,.mp es' cl'=>match c with | .same=>some [es=es',cl=cl']|_=>none
 | .lp s pe l ps as body,.lp s' pe' l' ps' as' body'=>match c,eqL Q l l' with | .same,some qs=>some ((s=s')::(pe=pe')::(ps=ps')::(as=as')::(body=body')::qs)|_,_=>none
 | .itm l ty s t a,.itm l' ty' s' t' a'=>match c,eqL Q l l',Nat.beq ty ty' with | .same,some qs,true=>some ((s=s')::(t=t')::(a=a')::qs)|_,_,_=>none
 | _,_=>none
def eqG:Blk->Option (List Prop)
 | .rowz _ _ _ n _=>some [n=0]
 | .frz _ n _=>some [n=0]
 | _=>none
def eqH(Q:List Pr)(h:List (Nat×Blk)):List (Nat×Blk)->Option (List Prop)
 | []=>some []
 | (i,b)::l=>match JI Q i with
  | some ⟨_,_,.ghost⟩=>(match eqG b,eqH Q h l with
   | some ps,some qs=>some (ps++qs)
   | _,_=>none)
  | some ⟨_,s,c⟩=>(match look h s with
   | some b'=>(match eqB Q c b' b,eqH Q h l with
    | some ps,some qs=>some (ps++qs)
    | _,_=>none)
   | none=>none)
  | none=>none
def QBq(Q:List Pr):List (Nat×Blk)->Bool
 | []=>true
 | (i,_)::l=>(match JI Q i with
  | some ⟨_,s,c⟩=>l.all λp=>match JI Q p.1 with
   | some ⟨_,s',c'⟩=>(match c,c' with
    | .ghost,_=>true
    | _,.ghost=>true
    | _,_ => !(Nat.beq s s'))
   | none=>false
  | none=>false)&&QBq Q l
def QBd(n0:Nat):List Pr->Bool
 | []=>true
 | x::l=>(match Nat.blt x.p n0 with
  | true=>(match x.c with | .same=>Nat.beq x.p x.s|_=>false)
  | false=>true)&&QBd n0 l
def QKK:List (Nat×Blk)->Bool
 | []=>true
 | (i,_)::l=>(l.all λp=>!(Nat.beq i p.1))&&QKK l
def QF(n0:Nat)(vals:List AV)(h:List (Nat×Blk))(J:JSt):Option (List Prop):=
 match Wx n0 vals (J.live.map (·.2)) h J.hp with
 | Q=>match eqL Q vals (J.live.map (·.2)),eqH Q h J.hp,(qw J&&(QBq Q J.hp&&(QBd n0 Q&&(V8 h&&QKK J.hp))))with
  | some ps,some qs,true=>some (ps++qs)
  | _,_,_=>none
def Ka:List Prop->Prop
 | []=>True
 | p::l=>p/\Ka l
instance:Tv (Ka []):=⟨trivial⟩
theorem jS:∀{a b:List Prop},Ka (a++b)↔Ka a/\Ka b
 | [],b=>by simp[Ka]
 | p::a,b=>by simp only[List.cons_append,Ka,jS (a:=a)];exact and_assoc.symm
structure Jg (n0:Nat) (ls:List Nat) (len:Nat) (vals:List AV) (h:List (Nat×Blk)) (J:JSt):Prop where
 slots:J.live.map (·.1)=ls
 len:len=J.len
 eqs:∃ ps,QF n0 vals h J=some ps/\Ka ps
def GD(l:Loc):Loc:={ l with nil:=false,nb:=none,foot:=λk=>k=l.blk }
def zOf:Option Blk->Nat
 | some (.rowz _ _ ks _ _)=>ks.length
 | some (.frz ks _ _)=>ks.length
 | _=>0
def Q8(Q:List Pr)(hJ:List (Nat×Blk))(r:Nat->Loc)(i:Nat):Loc:=match JI Q i with
 | some ⟨_,s,.same⟩=>r s
 | some ⟨_,s,.lift⟩=>GD (r s)
 | some ⟨_,_,.ghost⟩=>Loc.none (zOf (look hJ i))
 | none=>r i
theorem QDc{Q:List Pr}(h:isP Q p s=true)(r:Nat->Loc):(Q8 Q hJ r p).blk=(r s).blk/\(Q8 Q hJ r p).off=(r s).off/\(Q8 Q hJ r p).esz=(r s).esz/\(Q8 Q hJ r p).cap=(r s).cap:=by
 unfold isP at h;unfold Q8;split at h
 .rename_i s' he;rw[he];have:=qnb h;subst this;exact⟨rfl,rfl,rfl,rfl⟩
 .rename_i s' he;rw[he];have:=qnb h;subst this;exact⟨rfl,rfl,rfl,rfl⟩
 .cases h
theorem QkT{Q:List Pr}(h:QI4 Q p s=true)(r:Nat->Loc):Q8 Q hJ r p=GD (r s):=by
 unfold QI4 at h;unfold Q8;split at h
 .rename_i s' he;rw[he];have:=qnb h;subst this;rfl
 .cases h
theorem QWd{Q:List Pr}(h:QHg Q p s=true)(r:Nat->Loc):Q8 Q hJ r p=r s:=by
 unfold QHg at h;unfold Q8;split at h
 .rename_i s' he;rw[he];have:=qnb h;subst this;rfl
 .cases h
theorem Qcf{Q:List Pr}(h:QJj Q p=true)(r:Nat->Loc):∃ z,Q8 Q hJ r p=Loc.none z:=by
 unfold QJj at h;unfold Q8;split at h
 .rename_i he;rw[he];exact⟨_,rfl⟩
 .cases h
mutual
theorem QMt{Q:List Pr}{hJ:List (Nat×Blk)}(r:Nat->Loc):∀(v v':AV) (ps:List Prop),eqV Q v v'=some ps->Ka ps->v.den r=v'.den (Q8 Q hJ r):=by
 intro v v' ps h ha;cases v<;>cases v'<;>simp only[eqV]at h<;>(try (cases h;done))<;>(try (split at h<;>(try (cases h;done))))<;>(try (simp only[qsI]at h;subst h))<;>(try simp only[Ka,and_true]at ha)
 .rename_i hk;have hk:=beq_iff_eq.1 hk;subst hk;rw[AV.den,AV.den,ha]
 .rw[AV.den,AV.den,ha]
 .rename_i hk;obtain⟨h1,h2,h3,h4⟩:=QDc (hJ:=hJ) hk r;rw[AV.den,AV.den,h1,h2,h3,ha.1,ha.2]
 .rw[AV.den,AV.den,ha]
 .rfl
 .rename_i hk;obtain⟨h1,h2,h3,h4⟩:=QDc (hJ:=hJ) hk r;rw[AV.den,AV.den,h1,h2,h3,h4,ha.1,ha.2.1,ha.2.2]
 .rename_i hk;have h1:=QkT (hJ:=hJ) hk r;simp only[AV.den];rw[h1,ha.1,ha.2.1,ha.2.2];rfl
 .rfl
 .rename_i hk;obtain⟨z,h1⟩:=Qcf (hJ:=hJ) hk r;simp only[AV.den];rw[h1,ha];rfl
 .rename_i hk;have h1:=QWd (hJ:=hJ) hk r;simp only[AV.den];rw[h1,ha.1,ha.2.1,ha.2.2]
 .rename_i hk;obtain⟨h1,h2,h3,h4⟩:=QDc (hJ:=hJ) hk r;rw[AV.den,AV.den,h1]
 .rename_i hk;obtain⟨h1,h2,h3,h4⟩:=QDc (hJ:=hJ) hk r;rw[AV.den,AV.den,h1]
 .rfl
 .rename_i hl;simp only[AV.den];rw[ha.1,eqL_den r _ _ _ hl ha.2]
 .rename_i hl;simp only[AV.den];rw[ha.1,eqL_den r _ _ _ hl ha.2]
 .rfl
 .rename_i hl;simp only[AV.den];rw[ha.1,QMt r _ _ _ hl ha.2]
 .rfl
 .rw[AV.den,AV.den,ha]
 .simp only[AV.den];rw[eqL_den r _ _ _ h ha]
 .simp only[AV.den];rw[eqL_den r _ _ _ h ha]
 .rw[AV.den,AV.den,ha]
theorem eqL_den{Q:List Pr}{hJ:List (Nat×Blk)}(r:Nat->Loc):∀(l l':List AV) (ps:List Prop),eqL Q l l'=some ps->Ka ps->AV.denL r l=AV.denL (Q8 Q hJ r) l'
 | [],[],_,_,_=>rfl
 | [],_::_,_,h,_=>by simp[eqL]at h
 | _::_,[],_,h,_=>by simp[eqL]at h
 | v::l,v'::l',ps,h,ha=>by
  simp only[eqL]at h;split at h<;>(try (cases h;done))
  rename_i p1 p2 h1 h2;simp only[qsI]at h;subst h;obtain⟨a1,a2⟩:=jS.1 ha;simp only[AV.denL];rw[QMt r _ _ _ h1 a1,eqL_den r _ _ _ h2 a2]
end
theorem QRr{Q:List Pr}:∀{l l':List AV} {ps:List Prop},eqL Q l l'=some ps->l.length=l'.length
 | [],[],_,_=>rfl
 | [],_::_,_,h=>by simp[eqL]at h
 | _::_,[],_,h=>by simp[eqL]at h
 | v::l,v'::l',ps,h=>by
  simp only[eqL]at h;split at h<;>(try (cases h;done))
  rename_i p1 p2 h1 h2;simp only[List.length_cons,QRr h2]
theorem QWF(r:Nat->Loc)(a b:List AV):AV.denL r (a++b)=AV.denL r a++AV.denL r b:=by simp only[Qy,List.map_append]
theorem QUv{Q:List Pr}{hJ:List (Nat×Blk)}(r:Nat->Loc):∀(l l':List (List AV)) (ps:List Prop),QAZ Q l l'=some ps->Ka ps->AV.denL r l.flatten=AV.denL (Q8 Q hJ r) l'.flatten/\l.length=l'.length/\∀ z,(∀ x∈l,x.length=z)->∀ x∈l',x.length=z
 | [],[],_,_,_=>⟨rfl,rfl,λ_ h=>h⟩
 | [],_::_,_,h,_=>by simp[QAZ]at h
 | _::_,[],_,h,_=>by simp[QAZ]at h
 | v::l,v'::l',ps,h,ha=>by
  simp only[QAZ]at h;split at h<;>(try (cases h;done))
  rename_i p1 p2 h1 h2;simp only[qsI]at h;subst h;obtain⟨a1,a2⟩:=jS.1 ha;obtain⟨e1,e2,e3⟩:=QUv (hJ:=hJ) r l l' _ h2 a2;refine⟨?_,by simp only[List.length_cons,e2],λz hz x hx=>?_⟩
  .rw[List.flatten_cons,List.flatten_cons,QWF,QWF,eqL_den r _ _ _ h1 a1,e1]
  .rcases List.mem_cons.1 hx with rfl|hx
   .rw[<-QRr h1];exact hz v qmc
   .exact e3 z (λy hy=>hz y (List.mem_cons_of_mem _ hy)) x hx
theorem QO1{g':Nat->Nat->Int}(h:QB ks.length n g g'){i:Nat}(hi:i<n):QY ks g i=QY ks g' i:=
 ql ks 0 λj hj=>QPE (h i hi) j hj
theorem QB6{l:Loc}(h1:l.nil=true->n=0)(h2:∀ i,i<n->l.foot l.blk)(h3:∀ i,i<n->∀ j v,(QY ks g i)[j]? = some v->w.cell? ⟨l.blk,l.off+i*ks.length+j,none⟩=some (v.den r)):Vm w r' l ks.length n (QY ks g):=by
 refine⟨h1,λi hi=>⟨h2 i hi,XZ _ _ _,λj v hv=>?_⟩⟩
 have hf:qL v=true:=by
  have:=VD ks 0 (g i);rw[Jr,List.all_eq_true]at this;exact this v (List.mem_of_getElem? hv)
 exact⟨hf,by rw[h3 i hi j v hv,XT (p:=λ_=>false) (r:=r) (r':=r') (λ_ hf=>by cases hf) v (QIg hf)]⟩
theorem QLU{l l':Loc}{n':Nat}{g':Nat->Nat->Int}(h:Vm w r l ks.length n (QY ks g))(hle:n'<=n)(hg:QB ks.length n' g g')(h1:l'.blk=l.blk)(h2:l'.off=l.off)(h3:l'.nil=true->l.nil=true)(h4:∀ k,l.foot k->l'.foot k):Vm w r' l' ks.length n' (QY ks g'):=by
 refine QB6 (r:=r) (λhn=>by have:=h.1 (h3 hn);omega) (λi hi=>by rw[h1];exact h4 _ (h.2 i (by omega)).1) λi hi j v hv=>?_
 rw[h1,h2];rw[<-QO1 hg hi]at hv;exact((h.2 i (by omega)).2.2 j v hv).2
theorem QRC{id:Nat}{ty:TypeId}{z:Nat}{g:Nat->List AV}(h:Kl r id w ty z n g):Vm w r (r id) z n g:=by
 refine⟨h.2.2.2.1,λi hi=>?_⟩;have hn:=QCd h (by omega)
 refine⟨(h.2.2.1 _).2 ⟨hn,rfl⟩,(h.2.2.2.2.1 i hi).1,λj v hv=>⟨?_,QHc h hi hv⟩⟩;have hf:=(h.2.2.2.2.1 i hi).2;rw[Jr,List.all_eq_true]at hf;exact hf v (List.mem_of_getElem? hv)
theorem QO7{x y:List AV}(h:AV.denL r x=AV.denL r y){j:Nat}{v:AV}(hv:y[j]? = some v):∃ u,x[j]? = some u/\u.den r=v.den r:=by
 have e:=congrArg (λl=>l[j]?) h;simp only[Qy,List.getElem?_map,hv,Option.map_some]at e;cases hu:x[j]? with
 | none=>rw[hu]at e;cases e
 | some u=>rw[hu]at e;exact⟨u,rfl,by simpa using e⟩
theorem QOo{id:Nat}{ty:TypeId}{l:List (List AV)}(h:QN r id w (.rowl ty ks.length l))(hg:jy ks l n g){l':Loc}(h1:l'.blk=(r id).blk)(h2:l'.off=(r id).off)(h3:l'.nil=false)(h4:l'.foot (r id).blk):Vm w r' l' ks.length n (QY ks g):=by
 obtain⟨ho,hz,hlen,hcap,rest,hrest,hbk⟩:=h;refine QB6 (r:=r) (λhn=>by rw[h3]at hn;cases hn) (λi hi=>by rw[h1];exact h4) λi hi j v hv=>?_
 have hx:=List.getElem?_eq_getElem (l:=l) (i:=i) (by have:=hg.1;omega)
 obtain⟨u,hu,hd⟩:=QO7 (hg.2 i hi _ hx r) hv;have hl0:=hlen _ (List.mem_of_getElem? hx);have hj:=(List.getElem?_eq_some_iff.1 hu).1;obtain⟨f1,f2⟩:=jL ks.length l hlen i _ hx j (by omega)
 rw[h1,h2,ho,Nat.zero_add,Yg hbk,List.getElem?_append_left (by rw[Kf];exact f1),Qy,List.getElem?_map,f2,hu]
 simp only[Option.map_some,hd]
theorem QRv{Q:List Pr}{c:Cv}{x:Pr}(hf:JI Q p=some ⟨x.p,s,c⟩){b':Blk}{ps:List Prop}(h:eqB Q c b b'=some ps)(ha:Ka ps)(hb:QN r s w b):
  QN (Q8 Q hJ r) p w b'/\(∀ k,Qo (Q8 Q hJ r) p b' k->Qo r s b k)/\(b'.own=true->b.own=true):=by
 have Ls:c = .same->Q8 Q hJ r p=r s:=by intro e;subst e;unfold Q8;rw[hf]
 have Ll:c = .lift->Q8 Q hJ r p=GD (r s):=by intro e;subst e;unfold Q8;rw[hf]
 unfold eqB at h;split at h
 .
  split at h<;>(try (cases h;done))
  rename_i c0 z0 t0;have L:=Ls rfl;have z0:=qnb z0;have t0:=qnb t0;subst z0 t0;refine⟨?_,?_,id⟩
  .simp only[QN]at hb ⊢;rw[L,<-eqL_den r _ _ _ h ha];exact hb
  .intro k hk;have hk:k=(Q8 Q hJ r p).blk:=hk;rw[L]at hk;exact hk
 .split at h<;>(try (cases h;done))
  rename_i c0 z0 t0;have L:=Ls rfl;have z0:=qnb z0;have t0:=qnb t0;subst z0 t0;refine⟨?_,?_,λh=>by cases h⟩
  .simp only[QN]at hb ⊢;rw[L,<-eqL_den r _ _ _ h ha];exact hb
  .intro k hk;have hk:k=(Q8 Q hJ r p).blk:=hk;rw[L]at hk;exact hk
 .split at h<;>(try (cases h;done))
  rename_i c0 z0 t0;have L:=Ls rfl;have z0:=qnb z0;have t0:=qnb t0;subst z0 t0;refine⟨?_,?_,λh=>by cases h⟩
  .simp only[QN]at hb ⊢;rw[L,<-eqL_den r _ _ _ h ha];exact hb
  .intro k hk;have hk:k=(Q8 Q hJ r p).blk:=hk;rw[L]at hk;exact hk
 .
  split at h<;>(try (cases h;done))
  rename_i c0 z0 t0;have L:=Ls rfl;have z0:=qnb z0;have t0:=qnb t0;subst z0 t0;obtain⟨e1,e2,e3⟩:=QUv (hJ:=hJ) r _ _ _ h ha;refine⟨?_,?_,id⟩
  .simp only[QN]at hb ⊢;rw[L,<-e1,<-e2];exact⟨hb.1,hb.2.1,e3 _ hb.2.2.1,hb.2.2.2⟩
  .intro k hk;have hk:k=(Q8 Q hJ r p).blk:=hk;rw[L]at hk;exact hk
 .
  rename_i o t ks n g o' t' ks' n' g';split at h<;>(try (cases h;done))
  rename_i c0 z0 t0 ho;simp only[qsI]at h;subst h;simp only[Ka,and_true]at ha;have L:=Ls rfl;have z0:=Yb z0;have t0:=qnb t0;subst z0 t0;have hb0:Kl r s w t ks.length n (QY ks g):=hb;refine⟨?_,λk hk=>?_,λh=>?_⟩
  .show Kl (Q8 Q hJ r) p w t ks.length n' (QY ks g');unfold Kl;rw[L];have hb1:=hb0;obtain⟨h1,h2,h3,h4,h5,h6⟩:=hb0;refine⟨h1,h2,h3,λhn=>by have:=h4 hn;omega,λi hi=>⟨XZ _ _ _,VD _ _ _⟩,λhn=>?_⟩
   have hrow:=QBo (QAs hb1 hn) (k:=n') (by rw[JV];exact ha.1)
   have hz:=QAz (n:=n') (get:=QY ks g') hrow hn (λk=>by rw[h3,hn];simp) (by rw[List.length_take,JV];omega) (λi x hx=>by
    have hi:=(List.getElem?_eq_some_iff.1 hx).1;simp only[List.length_take,JV]at hi;rw[List.getElem?_take_of_lt (by omega)]at hx
    rw[YN (by omega)]at hx
    simp only[qsI]at hx;subst hx;rw[QO1 ha.2 (by omega)]) (λi hi=>VD _ _ _)
   obtain⟨k1,rest,k2,k3⟩:=hz.2.2.2.2.2 hn;exact⟨k1,rest,k2,by rw[k3,denL_congr (p:=λ_=>false) (r:=r) (r':=Q8 Q hJ r) (λ_ hf=>by cases hf) _ (GR λi hi=>Xu (l:=QY ks g' i) (VD _ _ _))]⟩
  .have hk:(Q8 Q hJ r p).foot k:=hk;rw[L]at hk;exact hk
  .simp only[Blk.own]at h ⊢;rw[h]at ho;simpa using ho
 .
  rename_i o t ks n g ks' n' g';split at h<;>(try (cases h;done))
  rename_i c0 z0;simp only[qsI]at h;subst h;simp only[Ka,and_true]at ha;have L:=Ls rfl;have z0:=Yb z0;subst z0;have hb0:Kl r s w t ks.length n (QY ks g):=hb;refine⟨?_,λk hk=>?_,λh=>by cases h⟩
  .simp only[QN];rw[L];exact⟨hb0.2.1,hb.lt rfl,QLU (QRC hb0) ha.1 ha.2 rfl rfl id (λ_ h=>h)⟩
  .have hk:(Q8 Q hJ r p).foot k:=hk;rw[L]at hk;exact hk
 .
  split at h<;>(try (cases h;done))
  rename_i c0 z0;simp only[qsI]at h;subst h;simp only[Ka,and_true]at ha;have L:=Ls rfl;have z0:=Yb z0;subst z0;refine⟨?_,λk hk=>?_,λh=>by cases h⟩
  .simp only[QN];rw[L];exact⟨hb.1,hb.2.1,QLU hb.2.2 ha.1 ha.2 rfl rfl id (λ_ h=>h)⟩
  .have hk:(Q8 Q hJ r p).foot k:=hk;rw[L]at hk;exact hk
 .
  rename_i t z l o' t' ks' n' g';split at h<;>(try (cases h;done))
  rename_i c0 z0 t0;simp only[qsI]at h;subst h;simp only[Ka,and_true]at ha;have L:=Ll rfl;have z0:=qnb z0;have t0:=qnb t0;subst z0 t0;refine⟨?_,λk hk=>?_,λ_=>rfl⟩
  .show Kl (Q8 Q hJ r) p w t ks'.length n' (QY ks' g');unfold Kl;rw[L];refine⟨hb.1,hb.2.1,λk=>?_,λhn=>(by cases hn),λi hi=>⟨XZ _ _ _,VD _ _ _⟩,λ_=>?_⟩
   .simp[GD]
   .have hrow:=QBo hb ha.1;obtain⟨k0,k1,k2,k3,rest,k4,k5⟩:=hrow;have hlen:(l.take n').length=n':=by rw[List.length_take];have:=ha.1;omega
    refine⟨by rw[hlen]at k3;exact k3,rest,by rw[hlen]at k4;exact k4,?_⟩
    show bk w (r s).blk=_;rw[k5]
    have e1:AV.denL r (l.take n').flatten=AV.denL r (Q9 n' (QY ks' g')).flatten:=by
     apply QFk;apply List.ext_getElem?;intro i;rw[List.getElem?_map,List.getElem?_map];rcases Nat.lt_or_ge i n' with hi|hi
     .have hx:=List.getElem?_eq_getElem (l:=l) (i:=i) (by have:=ha.1;omega)
      rw[List.getElem?_take_of_lt hi,YN hi,hx];simp only[Option.map_some,ha.2 i hi _ hx r]
     .rw[List.getElem?_eq_none (by omega),List.getElem?_eq_none (by rw[JV];exact hi)]
    rw[e1,denL_congr (p:=λ_=>false) (r:=r) (r':=Q8 Q hJ r) (λ_ hf=>by cases hf) _ (GR λi hi=>Xu (l:=QY ks' g' i) (VD _ _ _))]
  .have hk:(Q8 Q hJ r p).foot k:=hk;rw[L]at hk;exact hk
 .
  split at h<;>(try (cases h;done))
  rename_i c0 z0;simp only[qsI]at h;subst h;simp only[Ka,and_true]at ha;have L:=Ll rfl;have z0:=qnb z0;subst z0;refine⟨?_,λk hk=>?_,λh=>by cases h⟩
  .simp only[QN];rw[L];exact⟨hb.2.1,λk hk=>hb.lt rfl k hk,QOo hb ha (l':=GD (r s)) rfl rfl rfl rfl⟩
  .have hk:(Q8 Q hJ r p).foot k:=hk;rw[L]at hk;exact hk
 .
  split at h<;>(try (cases h;done))
  rename_i c0 z0;simp only[qsI]at h;subst h;simp only[Ka,and_true]at ha;have L:=Ll rfl;have z0:=qnb z0;subst z0;refine⟨?_,λk hk=>?_,λh=>by cases h⟩
  .simp only[QN];rw[L];exact⟨hb.2.1,λk hk=>hb.lt rfl k hk,QOo (hb.peel) ha (l':=GD (r s)) rfl rfl rfl rfl⟩
  .have hk:(Q8 Q hJ r p).foot k:=hk;rw[L]at hk;exact hk
 .
  split at h<;>(try (cases h;done))
  simp only[qsI]at h;subst h;simp only[Ka,and_true]at ha;obtain⟨rfl,rfl⟩:=ha;have L:=Ls rfl;refine⟨?_,λk hk=>?_,id⟩
  .simp only[QN]at hb ⊢;rw[L];exact hb
  .have hk:k=(Q8 Q hJ r p).blk:=hk;rw[L]at hk;exact hk
 .
  split at h<;>(try (cases h;done))
  rename_i c0 qs hq;simp only[qsI]at h;subst h;simp only[Ka]at ha;obtain⟨rfl,rfl,rfl,rfl,rfl,ha⟩:=ha;have L:=Ls rfl;refine⟨?_,λk hk=>?_,λ_=>rfl⟩
  .simp only[QN]at hb ⊢;rw[L,<-eqL_den r _ _ _ hq ha];exact hb
  .have hk:k=(Q8 Q hJ r p).blk:=hk;rw[L]at hk;exact hk
 .
  split at h<;>(try (cases h;done))
  rename_i c0 qs hq ht;simp only[qsI]at h;subst h;simp only[Ka]at ha;obtain⟨rfl,rfl,rfl,ha⟩:=ha;have L:=Ls rfl;refine⟨?_,λk hk=>?_,λ_=>rfl⟩
  .simp only[QN]at hb ⊢;rw[L,<-eqL_den r _ _ _ hq ha];exact hb
  .have hk:k=(Q8 Q hJ r p).blk:=hk;rw[L]at hk;exact hk
 .cases h
theorem QUG{Q:List Pr}{b':Blk}{ps:List Prop}(h:eqG b'=some ps)(ha:Ka ps)(hl:Q8 Q hJ r p=Loc.none (zOf (some b'))):
  QN (Q8 Q hJ r) p w b'/\∀ k,¬ Qo (Q8 Q hJ r) p b' k:=by
 unfold eqG at h;split at h<;>(try (cases h;done))
 .simp only[qsI]at h;subst h;simp only[Ka,and_true]at ha;subst ha;refine⟨?_,λk hk=>?_⟩
  .simp only[QN,Kl,hl,Loc.none,zOf];refine⟨trivial,trivial,λk=>by simp,λ_=>trivial,λi hi=>by omega,λh=>by cases h⟩
  .have hk:(Q8 Q hJ r p).foot k:=hk;rw[hl]at hk;exact hk
 .simp only[qsI]at h;subst h;simp only[Ka,and_true]at ha;subst ha;refine⟨?_,λk hk=>?_⟩
  .simp only[QN,hl,Loc.none,zOf];exact⟨trivial,λk hk=>hk.elim,λ_=>rfl,λi hi=>by omega⟩
  .have hk:(Q8 Q hJ r p).foot k:=hk;rw[hl]at hk;exact hk
