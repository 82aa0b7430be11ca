/- - -/
import Derived.Test.YtbpffdkemeoajaaGreatMpm
namespace Go.SX
open Go Go.RowKit Go.Proofs.YtbpffdkemeoajaaGreat
mutual
def AV.sameR(q:Nat->Nat):AV->AV->Prop
 | .int _ k n,.int _ k' n'=>k=k'/\n=n'
 | .bool _ b,.bool _ b'=>b=b'
 | .ptr id e j,.ptr id' e' j'=>id=q id'/\e=e'/\j=j'
 | .addr a,.addr a'=>a=a'
 | .nilp,.nilp=>True
 | .slice _ id e n cp,.slice _ id' e' n' cp'=>id=q id'/\e=e'/\n=n'/\cp=cp'
 | .nils,.nils=>True
 | .map id,.map id'=>id=q id'
 | .yld id,.yld id'=>id=q id'
 | .nilm,.nilm=>True
 | .fn f l,.fn f' l'=>f=f'/\AV.sameRL q l l'
 | .nilf,.nilf=>True
 | .ifc t v,.ifc t' v'=>t=t'/\v.sameR q v'
 | .nili,.nili=>True
 | .str s,.str s'=>s=s'
 | .agg l,.agg l'=>AV.sameRL q l l'
 | .tup l,.tup l'=>AV.sameRL q l l'
 | .raw v,.raw v'=>v=v'
 | _,_=>False
def AV.sameRL(q:Nat->Nat):List AV->List AV->Prop
 | [],[]=>True
 | v::l,v'::l'=>v.sameR q v'/\AV.sameRL q l l'
 | _,_=>False
end
mutual
theorem QG5{q:Nat->Nat}(r:Nat->Loc):∀ v u:AV,v.sameR q u->v.den r=u.den (λi=>r (q i))
 | .int ..,u,h=>by cases u<;>simp only[AV.sameR]at h;obtain⟨rfl,rfl⟩:=h;rfl
 | .bool ..,u,h=>by cases u<;>simp only[AV.sameR]at h;subst h;rfl
 | .ptr ..,u,h=>by cases u<;>simp only[AV.sameR]at h;obtain⟨rfl,rfl,rfl⟩:=h;rfl
 | .addr ..,u,h=>by cases u<;>simp only[AV.sameR]at h;subst h;rfl
 | .nilp,u,h=>by cases u<;>simp only[AV.sameR]at h;rfl
 | .slice ..,u,h=>by cases u<;>simp only[AV.sameR]at h;obtain⟨rfl,rfl,rfl,rfl⟩:=h;rfl
 | .nils,u,h=>by cases u<;>simp only[AV.sameR]at h;rfl
 | .slz ..,u,h=>by cases u<;>simp only[AV.sameR]at h
 | .map ..,u,h=>by cases u<;>simp only[AV.sameR]at h;subst h;rfl
 | .yld ..,u,h=>by cases u<;>simp only[AV.sameR]at h;subst h;rfl
 | .nilm,u,h=>by cases u<;>simp only[AV.sameR]at h;rfl
 | .fn f l,u,h=>by cases u<;>simp only[AV.sameR]at h;obtain⟨rfl,h⟩:=h;simp only[AV.den];rw[sameR_denL r l _ h]
 | .nilf,u,h=>by cases u<;>simp only[AV.sameR]at h;rfl
 | .ifc t v,u,h=>by cases u<;>simp only[AV.sameR]at h;obtain⟨rfl,h⟩:=h;simp only[AV.den];rw[QG5 r v _ h]
 | .nili,u,h=>by cases u<;>simp only[AV.sameR]at h;rfl
 | .str ..,u,h=>by cases u<;>simp only[AV.sameR]at h;subst h;rfl
 | .agg l,u,h=>by cases u<;>simp only[AV.sameR]at h;simp only[AV.den];rw[sameR_denL r l _ h]
 | .tup l,u,h=>by cases u<;>simp only[AV.sameR]at h;simp only[AV.den];rw[sameR_denL r l _ h]
 | .raw ..,u,h=>by cases u<;>simp only[AV.sameR]at h;subst h;rfl
 | .opt ..,u,h=>by cases u<;>simp only[AV.sameR]at h
 | .mth ..,u,h=>by cases u<;>simp only[AV.sameR]at h
 | .alt ..,u,h=>by cases u<;>simp only[AV.sameR]at h
theorem sameR_denL{q:Nat->Nat}(r:Nat->Loc):∀ v u:List AV,AV.sameRL q v u->AV.denL r v=AV.denL (λi=>r (q i)) u
 | [],u,h=>by cases u<;>simp only[AV.sameRL]at h;rfl
 | x::l,u,h=>by
  cases u<;>simp only[AV.sameRL]at h
  simp only[AV.denL];rw[QG5 r x _ h.1,sameR_denL r l _ h.2]
end
def Blk.sameR(q:Nat->Nat):Blk->Blk->Prop
 | .cells z t l,.cells z' t' l'=>z=z'/\t=t'/\AV.sameRL q l l'
 | .rowl t z l,.rowl t' z' l'=>t=t'/\z=z'/\l=l'/\l.all (AV.allL λ_=>false)=true
 | .arr z n g,.arr z' n' g'=>z=z'/\n=n'/\g=g'
 | .cellsR z t l,.cellsR z' t' l'=>z=z'/\t=t'/\AV.sameRL q l l'
 | _,_=>False
variable {q:Nat->Nat}{r:Nat->Loc}{w:World}{b:Blk}{rw_:Bool}{Q:AV->List (Nat×Blk)->Prop}{t:QE}{hJ:List (Nat×Blk)}{s:Nat}
theorem Blk.sameR_rep{id:Nat}:∀{b b':Blk},b.sameR q b'->QR r (q id) w b->QR (λi=>r (q i)) id w b'
 | .cells z t l,b',h,hb=>by
  cases b'<;>simp only[Blk.sameR]at h
  obtain⟨rfl,rfl,h⟩:=h;simp only[QR]at hb ⊢;rw[<-sameR_denL r _ _ h];exact hb
 | .rowl t z l,b',h,hb=>by
  cases b'<;>simp only[Blk.sameR]at h
  obtain⟨rfl,rfl,rfl,ha⟩:=h;simp only[QR]at hb ⊢;rw[<-denL_congr (p:=λ_=>false) (r:=r) (r':=λi=>r (q i)) (λ_ hf=>by cases hf) _ (Ym ha)];exact hb
 | .arr z n g,b',h,hb=>by
  cases b'<;>simp only[Blk.sameR]at h
  obtain⟨rfl,rfl,rfl⟩:=h;simp only[QR]at hb ⊢;refine⟨hb.1,hb.2.1,λi hi=>⟨(hb.2.2 i hi).1,λj v hv=>?_⟩⟩;obtain⟨h1,h2⟩:=(hb.2.2 i hi).2 j v hv;refine⟨h1,?_⟩;rw[h2,VL (p:=λ_=>false) (r:=r) (r':=λi=>r (q i)) (λ_ hf=>by cases hf) _ h1]
 | .gone,b',h,_=>by cases b'<;>simp only[Blk.sameR]at h
 | .cellsR z t l,b',h,hb=>by
  cases b'<;>simp only[Blk.sameR]at h
  obtain⟨rfl,rfl,h⟩:=h;simp only[QR]at hb ⊢;rw[<-sameR_denL r _ _ h];exact hb
 | .rowlR ..,b',h,_=>by cases b'<;>simp only[Blk.sameR]at h
 | .lp ..,b',h,_=>by cases b'<;>simp only[Blk.sameR]at h
 | .dfr,b',h,_=>by cases b'<;>simp only[Blk.sameR]at h
 | .mp ..,b',h,_=>by cases b'<;>simp only[Blk.sameR]at h
theorem Blk.sameR_own:∀{b b':Blk},b.sameR q b'->b.own=b'.own
 | .cells ..,b',h=>by cases b'<;>simp only[Blk.sameR]at h;rfl
 | .rowl ..,b',h=>by cases b'<;>simp only[Blk.sameR]at h;rfl
 | .arr ..,b',h=>by cases b'<;>simp only[Blk.sameR]at h;rfl
 | .cellsR ..,b',h=>by cases b'<;>simp only[Blk.sameR]at h;rfl
 | .gone,b',h=>by cases b'<;>simp only[Blk.sameR]at h
 | .rowlR ..,b',h=>by cases b'<;>simp only[Blk.sameR]at h
 | .lp ..,b',h=>by cases b'<;>simp only[Blk.sameR]at h
 | .dfr,b',h=>by cases b'<;>simp only[Blk.sameR]at h
 | .mp ..,b',h=>by cases b'<;>simp only[Blk.sameR]at h
theorem Blk.sameR_foot{id k:Nat}:∀{b b':Blk},b.sameR q b'->Qm (λi=>r (q i)) id b' k->Qm r (q id) b k
 | .cells ..,b',h,hk=>by cases b'<;>simp only[Blk.sameR]at h;exact hk
 | .rowl ..,b',h,hk=>by cases b'<;>simp only[Blk.sameR]at h;exact hk
 | .arr ..,b',h,hk=>by cases b'<;>simp only[Blk.sameR]at h;exact hk
 | .cellsR ..,b',h,hk=>by cases b'<;>simp only[Blk.sameR]at h;exact hk
 | .gone,b',h,_=>by cases b'<;>simp only[Blk.sameR]at h
 | .rowlR ..,b',h,_=>by cases b'<;>simp only[Blk.sameR]at h
 | .lp ..,b',h,_=>by cases b'<;>simp only[Blk.sameR]at h
 | .dfr,b',h,_=>by cases b'<;>simp only[Blk.sameR]at h
 | .mp ..,b',h,_=>by cases b'<;>simp only[Blk.sameR]at h
 | .rowz ..,b',h,_=>by cases b'<;>simp only[Blk.sameR]at h
 | .frz ..,b',h,_=>by cases b'<;>simp only[Blk.sameR]at h
 | .frz2 ..,b',h,_=>by cases b'<;>simp only[Blk.sameR]at h
 | .mpf ..,b',h,_=>by cases b'<;>simp only[Blk.sameR]at h
structure JSt where
 len:Nat
 live:List (Nat×AV)
 hp:List (Nat×Blk)
 nid:Nat
def lkS:List (Nat×AV)->Nat->Option AV
 | [],_=>none
 | (i,v)::l,t=>match i==t with
  | true=>some v
  | false=>lkS l t
def WW(g:Nat->Value)(live:List (Nat×AV)):Nat->Nat->List AV
 | 0,_=>[]
 | n+1,i=>(match lkS live i with|some v=>v|none => .raw (g i))::WW g live n (i+1)
def JSt.inst(J:JSt)(g:Nat->Value):St:=⟨WW g J.live J.len 0,J.hp,J.nid⟩
def jl(q:Nat->Nat)(h:List (Nat×Blk)):List (Nat×Blk)->Prop
 | []=>True
 | (id,b)::l=>(∃ b',look h (q id)=some b'/\b'.sameR q b)/\jl q h l
def QA9(q:Nat->Nat):List (Nat×Blk)->Bool
 | []=>true
 | (id,_)::l=>l.all (λp=>q id != q p.1)&&QA9 q l
def vP(J:JSt):Bool:=(J.live.all λp=>p.2.all (·<J.nid))&&J.hp.all λp=>decide (p.1<J.nid)&&p.2.all (·<J.nid)
structure X6 (n0:Nat) (q:Nat->Nat) (ls:List Nat) (len:Nat) (vals:List AV) (h:List (Nat×Blk)) (J:JSt):Prop where
 slots:J.live.map (·.1)=ls
 len:len=J.len
 tm:AV.sameRL q vals (J.live.map (·.2))
 hp:jl q h J.hp
 low:∀ i,i<n0->q i=i
 nid:n0<=J.nid
 sc:vP J=true
 inj:QA9 q J.hp=true
 nd:Xc h=true
theorem QEe{l:List (Nat×AV)}{t:Nat}{v:AV}(h:lkS l t=some v):(t,v)∈l:=by
 induction l with
 | nil=>cases h
 | cons p l ih=>
  obtain⟨i,u⟩:=p;simp only[lkS]at h;split at h
  .rename_i hi;simp only[qsI]at h;subst h;have:i=t:=by simpa using hi
   subst this;exact qmc
  .exact List.mem_cons_of_mem _ (ih h)
theorem QGN(g:Nat->Value)(live:List (Nat×AV)):∀ n i,(WW g live n i).length=n
 | 0,_=>rfl
 | n+1,i=>by simp[WW,QGN g live n]
theorem QCC(g:Nat->Value)(live:List (Nat×AV)):∀ n i t,QM (WW g live n i) t=if t<n then (match lkS live (i+t)with|some v=>v|none => .raw (g (i+t)))else .tup []
 | 0,_,t=>by simp[WW,QM]
 | n+1,i,0=>by simp[WW,QM]
 | n+1,i,t+1=>by
  have:=QCC g live n (i+1) t;have e:i+1+t=i+(t+1):=by omega
  rw[e]at this;have e2:QM (WW g live (n+1) i) (t+1)=QM (WW g live n (i+1)) t:=rfl;rw[e2,this]
  by_cases h:t<n
  .rw[if_pos h,if_pos (by omega)]
  .rw[if_neg h,if_neg (by omega)]
theorem QAT{q:Nat->Nat}{h:List (Nat×Blk)}:∀{l:List (Nat×Blk)},jl q h l->∀ p∈l,∃ b',look h (q p.1)=some b'/\b'.sameR q p.2
 | [],_,p,hp=>by cases hp
 | (id,b)::l,hs,p,hp=>by
  simp only[jl]at hs;rcases List.mem_cons.1 hp with rfl|hp
  .exact hs.1
  .exact QAT hs.2 p hp
theorem QSZ{q:Nat->Nat}:∀{l:List (Nat×Blk)},QA9 q l=true->∀ p∈l,∀ p'∈l,p.1≠p'.1->q p.1≠q p'.1
 | [],_,p,hp,_,_,_=>by cases hp
 | (id,b)::l,h,p,hp,p',hp',hne=>by
  simp only[QA9,qbA,List.all_eq_true,bne_iff_ne]at h;rcases List.mem_cons.1 hp with rfl|hp<;>rcases List.mem_cons.1 hp' with rfl|hp'
  .exact absurd rfl hne
  .exact h.1 p' hp'
  .exact λe=>h.1 p hp e.symm
  .exact QSZ h.2 p hp p' hp' hne
theorem QRV{q:Nat->Nat}:∀{vals:List AV} {live:List (Nat×AV)} {f:Nat->AV},AV.sameRL q vals (live.map (·.2))->vals=live.map (λp=>f p.1)->∀ p∈live,(f p.1).sameR q p.2
 | [],[],_,_,_,p,hp=>by cases hp
 | v::vals,x::live,f,h,e,p,hp=>by
  simp only[List.map_cons,AV.sameRL,List.cons.injEq]at h e;rcases List.mem_cons.1 hp with rfl|hp
  .rw[<-e.1];exact h.1
  .exact QRV h.2 e.2 p hp
theorem Rep.sub{G:Ctx}{n n0:Nat}{ls:List Nat}{st:St}{J:JSt}{a:Act}(h:Rep G n st a w)(hs:X6 n0 q ls st.tm.length (ls.map (QM st.tm)) st.hp J)(hG:G.n<=n0):∃ g,Rep G J.nid (J.inst g) a w:=by
 obtain⟨⟨r,hI⟩,_⟩:=h;have hsc:=hs.sc;unfold vP at hsc;simp only[List.all_eq_true,qbA,qdE]at hsc;have hz:ls.map (QM st.tm)=J.live.map (λp=>QM st.tm p.1):=by rw[<-hs.slots,List.map_map];rfl
 have hsame:=QRV hs.tm hz
 have hget:∀ t,QM (J.inst λt=>a.tmps.getD t undef).tm t=if t<J.len then (match lkS J.live t with|some v=>v|none => .raw (a.tmps.getD t undef))else .tup []:=by
  intro t;have:=QCC (λt=>a.tmps.getD t undef) J.live J.len 0 t;rw[Nat.zero_add]at this;exact this
 refine⟨λt=>a.tmps.getD t undef,⟨λi=>r (q i),?_⟩,?_⟩
 .refine⟨?_,Dfr.none ?_,λt=>?_,λid b hb=>?_,λid b hb=>YC hb,λid id' b b' hb hb' hne ho=>?_,λid hid=>?_,hI.fr,λid b hb ho=>?_⟩
  .rw[hI.size,hs.len];exact(QGN _ _ _ _).symm
  .obtain⟨ds,d1,_,d3⟩:=hI.defers;cases ds with
   | nil=>exact d1
   | cons x ds=>exact(QBc hs.nd (d3 x (by simp)).2.1).elim
  .rw[hget];split
   .split
    .rename_i v hv;rw[hI.tm t];exact QG5 r _ _ (hsame _ (QEe hv))
    .rfl
   .rename_i hlt;rw[hI.tm t];have:QM st.tm t = .tup []:=by unfold QM;rw[List.getElem?_eq_none (by rw[hs.len];omega)];rfl
    rw[this];rfl
  .obtain⟨b',h1,h2⟩:=QAT hs.hp _ (KR hb);exact Blk.sameR_rep h2 (hI.rep _ _ h1)
  .obtain⟨c,h1,h2⟩:=QAT hs.hp _ (KR hb);obtain⟨c',h3,h4⟩:=QAT hs.hp _ (KR hb');intro k hk hk';refine hI.sep _ _ c c' h1 h3 (QSZ hs.inj _ (KR hb) _ (KR hb') hne) (by rw[Blk.sameR_own h2];exact ho) k (Blk.sameR_foot h2 hk) (Blk.sameR_foot h4 hk')
  .show r (q id)=_;rw[hs.low id (Nat.lt_of_lt_of_le hid hG)];exact hI.ext id hid
  .obtain⟨c,h1,h2⟩:=QAT hs.hp _ (KR hb);exact λk hk=>hI.own _ c h1 (by rw[Blk.sameR_own h2];exact ho) k (Blk.sameR_foot h2 hk)
 .refine⟨λt=>?_,λid b hb=>(hsc.2 _ (KR hb)).1,λid b hb=>(hsc.2 _ (KR hb)).2⟩;rw[hget];split
  .split
   .rename_i v hv;exact hsc.1 _ (QEe hv)
   .rfl
  .rfl
def QCM(ls:Ex->List Nat)(e:Ex)(st:St):QE := .leaf (.tup ((match e with | .normal => .nilp | .exit id => .ptr id 0 0 | .ret => .nili) :: .ptr st.tm.length 0 0::(ls e).map (QM st.tm))) st.hp
def vk(Cont:Nat->List AV->List (Nat×Blk)->Prop)(Out:Ex->Nat->List AV->List (Nat×Blk)->Prop):AV->List (Nat×Blk)->Prop
 | .tup (.nilp :: .ptr n _ _::vs),h=>Cont n vs h
 | .tup (.ptr id _ _ :: .ptr n _ _::vs),h=>Out (.exit id) n vs h
 | .tup (.nili :: .ptr n _ _::vs),h=>Out .ret n vs h
 | _,_=>False
theorem QWQ{ls:Ex->List Nat}{Cont:Nat->List AV->List (Nat×Blk)->Prop}{Out:Ex->Nat->List AV->List (Nat×Blk)->Prop}{e:Ex}{st:St}(h:(QCM ls e st).den (vk Cont Out)):
  (e = .normal/\Cont st.tm.length ((ls e).map (QM st.tm)) st.hp)∨(e ≠ .normal/\Out e st.tm.length ((ls e).map (QM st.tm)) st.hp):=by
 cases e with
 | normal=>exact .inl ⟨rfl,h⟩
 | exit id=>exact .inr ⟨by simp,h⟩
 | ret=>exact .inr ⟨by simp,h⟩
section
variable {σ:Type} (I:σ->JSt) (pre:σ->Prop) (μ:σ->Nat) (R:σ->Ex->JSt->Prop) (n0:Nat) (ls:Ex->List Nat)
def QML(s:σ)(n:Nat)(vs:List AV)(h:List (Nat×Blk)):Prop:=∃ s' q,pre s'/\μ s'<μ s/\(∀ e J,R s' e J->R s e J)/\X6 n0 q (ls .normal) n vs h (I s')
def Leaves(s:σ)(e:Ex)(n:Nat)(vs:List AV)(h:List (Nat×Blk)):Prop:=∃ J q,R s e J/\X6 n0 q (ls e) n vs h J
def QFe(E:Env)(H:Hnd)(body:Code):Prop:=∀ s g,pre s->(exec E H body ((I s).inst g) (QCM ls)).den (vk (QML I pre μ R n0 ls s) (Leaves R n0 ls s))
variable {I pre μ R n0 ls}
theorem QKC{E:Env}(hE:E.Sound){H:Hnd}{G:Ctx}(hG:G.n<=n0){body:Code}(hH:Q8 E G H body)(hn:∀ s,n0<=(I s).nid)(hr:QFe I pre μ R n0 ls E H body){Q:Exit->Act->World->Prop}:∀(n:Nat) (s:σ) (g:Nat->Value) (a:Act) (w:World),μ s<n->pre s->Rep G (I s).nid ((I s).inst g) a w ->
  (∀ e J g a' w',R s e J->n0<=J.nid->Rep G J.nid (J.inst g) a' w'->Q e.to a' w')->Code.roundsIn (FW G.rd) 0 E.P body Q n a w
 | 0,s,g,a,w,hm,_,_,_=>by omega
 | n+1,s,g,a,w,hm,hp,hrep,hQ=>by
  rw[roundsIn_succ];refine jp hE hH.call hH.yield body hH.loop ((I s).inst g) (QCM ls) _ _ a w (Nat.le_trans hG (hn s)) (hr s g hp) hrep ?_;intro e st' a' w' hn' hden hrep';rcases QWQ hden with ⟨rfl,s',q,h1,h2,h3,h4⟩|⟨hne,J,q,h1,h2⟩
  .obtain⟨g',hr'⟩:=Rep.sub hrep' h4 hG;exact QKC hE hG hH hn hr n s' g' a' w' (by omega) h1 hr' (λe J g a' w' hR=>hQ e J g a' w' (h3 e J hR))
  .obtain⟨g',hr'⟩:=Rep.sub hrep' h2 hG;have:=hQ e J g' a' w' h1 h2.nid hr';cases e with
   | normal=>exact absurd rfl hne
   | exit id=>exact this
   | ret=>exact this
theorem QUG{E:Env}(hE:E.Sound){H:Hnd}{G:Ctx}(hG:G.n<=n0){body:Code}(hH:Q8 E G H body)(hn:∀ s,n0<=(I s).nid)(hr:QFe I pre μ R n0 ls E H body){L:St->(Ex->St->QE)->QE}(hL:∀ st K T,(L st K).den T->∃ s q ls',pre s/\X6 n0 q ls' st.tm.length (ls'.map (QM st.tm)) st.hp (I s)/\∀ e J g,R s e J->(K e (J.inst g)).den T):Vf E G (.loop body) L:=by
 intro st K T Q a w hn' h hrep hQ;obtain⟨s,q,ls',h1,h2,h3⟩:=hL st K T h;obtain⟨g,hr'⟩:=Rep.sub hrep h2 hG;refine wpIn_loop_rounds (μ s+1) (QKC hE hG hH hn hr _ s g a w (Nat.lt_succ_self _) h1 hr' ?_);intro e J g' a' w' hR hnJ hrJ;exact hQ e (J.inst g') a' w' (Nat.le_trans hG hnJ) (h3 e J g' hR) hrJ
end
theorem X6.same{n0:Nat}{ls:List Nat}{len:Nat}{vals:List AV}{h:List (Nat×Blk)}{J:JSt}(h1:J.live.map (·.1)=ls)(h2:len=J.len)(h3:AV.sameRL (λi=>i) vals (J.live.map (·.2)))(h4:jl (λi=>i) h J.hp)(h5:vP J=true)(h6:QA9 (λi=>i) J.hp=true)(h7:Xc h=true:=by rfl)(h8:n0<=J.nid:=by exact Nat.zero_le _):X6 n0 (λi=>i) ls len vals h J:=
 ⟨h1,h2,h3,h4,λ_ _=>rfl,h8,h5,h6,h7⟩
theorem Kg{E:Env}(hE:E.Sound){d:Nat}{G:Ctx}(hG:G.rd=none){c body:Code}(hc:JB c=[.loop body]){L:St->(Ex->St->QE)->QE}(h:Vf E G (.loop body) L):Q8 E G { hnd E d with loop:=λ_=>L } c:=
 ⟨λb hb=>by rw[hc]at hb;simp only[List.mem_singleton]at hb;subst hb;exact h,(Qw hE d G c hG).call,(Qw hE d G c hG).yield⟩
def QDl(ids:List Nat)(h:List (Nat×Blk)):List (Nat×Blk):=h.filter λp=>ids.contains p.1
theorem QF9{ids:List Nat}:∀{h:List (Nat×Blk)} {id:Nat} {b:Blk},look (QDl ids h) id=some b->look h id=some b
 | [],id,b,e=>by cases e
 | (i,c)::h,id,b,e=>by
  unfold QDl at e;rw[List.filter_cons]at e;split at e
  .simp only[JD]at e ⊢;split at e
   .rename_i hi;rw[if_pos hi];exact e
   .rename_i hi;rw[if_neg hi];exact QF9 e
  .rename_i hc;have:=QF9 (ids:=ids) (h:=h) (id:=id) (b:=b) e;simp only[JD];split
   .rename_i hi;have hi:i=id:=by simpa using hi
    subst hi;have hm:=KR e;rw[List.mem_filter]at hm;exact absurd hm.2 hc
   .exact this
theorem QP3{q:Nat->Nat}{ids:List Nat}{h:List (Nat×Blk)}:∀{l:List (Nat×Blk)},jl q (QDl ids h) l->jl q h l
 | [],_=>trivial
 | (id,b)::l,hs=>by
  obtain⟨⟨b',h1,h2⟩,h3⟩:=hs;exact⟨⟨b',QF9 h1,h2⟩,QP3 h3⟩
theorem X6.keep{n0:Nat}{ls:List Nat}{len:Nat}{vals:List AV}{h:List (Nat×Blk)}{J:JSt}{ids:List Nat}(hs:X6 n0 q ls len vals (QDl ids h) J)(hd:Xc h=true):X6 n0 q ls len vals h J:=
 ⟨hs.slots,hs.len,hs.tm,QP3 hs.hp,hs.low,hs.nid,hs.sc,hs.inj,hd⟩
section
variable {σ:Type} (I:σ->JSt) (pre:σ->Prop) (μ:σ->Nat) (R:σ->Ex->JSt->Prop) (n0:Nat) (ls:Ex->List Nat) (ids:List Nat)
variable {I pre μ R n0 ls ids}
end
mutual
def AV.mapId(q:Nat->Nat):AV->AV
 | .ptr id e j => .ptr (q id) e j
 | .slice c id e n cp => .slice c (q id) e n cp
 | .slz id e n cp => .slz (q id) e n cp
 | .map id => .map (q id)
 | .yld id => .yld (q id)
 | .fn f l => .fn f (AV.mapIdL q l)
 | .mth f l => .mth f (AV.mapIdL q l)
 | .alt b v w => .alt b (v.mapId q) (w.mapId q)
 | .ifc t v => .ifc t (v.mapId q)
 | .opt b v => .opt b (v.mapId q)
 | .agg l => .agg (AV.mapIdL q l)
 | .tup l => .tup (AV.mapIdL q l)
 | v=>v
def AV.mapIdL(q:Nat->Nat):List AV->List AV
 | []=>[]
 | v::l=>v.mapId q::AV.mapIdL q l
end
mutual
theorem Wh{p:Nat->Bool}{q:Nat->Nat}{r r':Nat->Loc}(h:∀ id,p id=true->r' (q id)=r id):∀ v:AV,v.all p=true->(v.mapId q).den r'=v.den r
 | .int ..,_ | .bool ..,_ | .addr ..,_ | .nilp,_ | .nils,_ | .nilm,_ | .nilf,_ | .nili,_ | .str ..,_ | .raw ..,_=>rfl
 | .ptr id _ _,hv=>by simp only[AV.mapId,AV.den];rw[h id hv]
 | .slice _ id _ _ _,hv=>by simp only[AV.mapId,AV.den];rw[h id hv]
 | .slz id _ _ _,hv=>by simp only[AV.mapId,AV.den];rw[h id hv]
 | .map id,hv=>by simp only[AV.mapId,AV.den];rw[h id hv]
 | .yld id,hv=>by simp only[AV.mapId,AV.den];rw[h id hv]
 | .fn _ cap,hv=>by simp only[AV.mapId,AV.den];rw[den_mapIdL h cap hv]
 | .mth _ l,hv=>by simp only[AV.mapId,AV.den];rw[den_mapIdL h l hv]
 | .alt _ v w,hv=>by
  simp only[AV.all,qbA]at hv;simp only[AV.mapId,AV.den];rw[Wh h v hv.1,Wh h w hv.2]
 | .ifc _ v,hv=>by simp only[AV.mapId,AV.den];rw[Wh h v hv]
 | .opt _ v,hv=>by simp only[AV.mapId,AV.den];rw[Wh h v hv]
 | .agg l,hv=>by simp only[AV.mapId,AV.den];rw[den_mapIdL h l hv]
 | .tup l,hv=>by simp only[AV.mapId,AV.den];rw[den_mapIdL h l hv]
theorem den_mapIdL{p:Nat->Bool}{q:Nat->Nat}{r r':Nat->Loc}(h:∀ id,p id=true->r' (q id)=r id):∀ l:List AV,AV.allL p l=true->AV.denL r' (AV.mapIdL q l)=AV.denL r l
 | [],_=>rfl
 | v::l,hv=>by
  simp only[AV.allL,qbA]at hv;simp only[AV.mapIdL,AV.denL];rw[Wh h v hv.1,den_mapIdL h l hv.2]
end
theorem qp(q:Nat->Nat):∀ l,AV.mapIdL q l=l.map (AV.mapId q)
 | []=>rfl
 | v::l=>by rw[AV.mapIdL,qp q l];rfl
def Blk.mapId(q:Nat->Nat):Blk->Blk
 | .cells z t l => .cells z t (AV.mapIdL q l)
 | .rowl t z l => .rowl t z (l.map (AV.mapIdL q))
 | .cellsR z t l => .cellsR z t (AV.mapIdL q l)
 | .rowlR t z l => .rowlR t z (l.map (AV.mapIdL q))
 | .lp s pe l ps as body => .lp s pe (AV.mapIdL q l) ps as body
 | b=>b
theorem QAC(q:Nat->Nat):∀ l:List (List AV),(l.map (AV.mapIdL q)).flatten=AV.mapIdL q l.flatten
 | []=>rfl
 | x::l=>by rw[List.map_cons,List.flatten_cons,QAC q l,List.flatten_cons,qp,qp,qp,List.map_append]
theorem Blk.mapId_rep{p:Nat->Bool}{r':Nat->Loc}(h:∀ id,p id=true->r' (q id)=r id){id:Nat}(hid:r' (q id)=r id):∀{b:Blk},b.all p=true->QR r id w b->QR r' (q id) w (b.mapId q)
 | .cells z t l,ha,hb=>by
  simp only[Blk.mapId,QR]at hb ⊢;rw[hid,den_mapIdL h l ha];exact hb
 | .rowl t z l,ha,hb=>by
  simp only[Blk.mapId,QR]at hb ⊢;rw[hid,QAC,den_mapIdL h _ (Ym ha),List.length_map];refine⟨hb.1,hb.2.1,λx hx=>?_,hb.2.2.2⟩;obtain⟨y,hy,rfl⟩:=List.mem_map.1 hx;rw[qp,List.length_map];exact hb.2.2.1 y hy
 | .cellsR z t l,ha,hb=>by
  simp only[Blk.mapId,QR]at hb ⊢;rw[hid,den_mapIdL h l ha];exact hb
 | .rowlR t z l,ha,hb=>by
  simp only[Blk.mapId,QR]at hb ⊢;rw[hid,QAC,den_mapIdL h _ (Ym ha),List.length_map];refine⟨hb.1,hb.2.1,λx hx=>?_,hb.2.2.2⟩;obtain⟨y,hy,rfl⟩:=List.mem_map.1 hx;rw[qp,List.length_map];exact hb.2.2.1 y hy
 | .arr z n get,_,hb=>by
  simp only[Blk.mapId,QR]at hb ⊢;rw[hid];refine⟨hb.1,hb.2.1,λi hi=>⟨(hb.2.2 i hi).1,λj v hv=>?_⟩⟩;obtain⟨h1,h2⟩:=(hb.2.2 i hi).2 j v hv;exact⟨h1,by rw[h2,VL (p:=λ_=>false) (r:=r) (r':=r') (λ_ hf=>by cases hf) v h1]⟩
 | .gone,_,_=>trivial
 | .lp s pe l ps as body,ha,hb=>by
  simp only[Blk.mapId,QR]at hb ⊢;rw[hid,den_mapIdL h l ha];exact hb
 | .dfr,_,hb=>by
  simp only[Blk.mapId,QR]at hb ⊢;rw[hid];exact hb
 | .mp ..,_,hb=>by
  simp only[Blk.mapId,QR]at hb ⊢;rw[hid];exact hb
 | .rowz o ty z n get,_,hb=>by
  simp only[Blk.mapId,QR,JA]at hb ⊢;rw[hid];obtain⟨h1,h2,h3,h4,h5,h6⟩:=hb;refine⟨h1,h2,h3,h4,h5,λhn=>?_⟩;obtain⟨h7,rest,h8,h9⟩:=h6 hn;exact⟨h7,rest,h8,by rw[h9,denL_congr (p:=λ_=>false) (r:=r) (r':=r') (λ_ hf=>by cases hf) _ (QAU λi hi=>YX (h5 i hi).2)]⟩
 | .frz z n get,_,hb=>by
  simp only[Blk.mapId,QR]at hb ⊢;rw[hid];exact⟨hb.1,hb.2.1,hb.2.2.keep λ_ _=>rfl⟩
 | .frz2 o ty z n len get,_,hb=>by
  simp only[Blk.mapId,QR]at hb ⊢;rw[hid];obtain⟨h1,h2,h3,inner,h4,h5,h6,h7⟩:=hb;exact⟨h1,h2,h3,inner,h4,h5,λi hi=>⟨(h6 i hi).1,(h6 i hi).2.1,(h6 i hi).2.2.keep λ_ _=>rfl⟩,h7⟩
 | .mpf k z has get,_,hb=>by
  simp only[Blk.mapId,QR]at hb ⊢;rw[hid];obtain⟨es,cl,h1,h2⟩:=hb;exact⟨es,cl,h1,h2.to⟩
theorem Blk.mapId_back{p:Nat->Bool}{r':Nat->Loc}(h:∀ id,p id=true->r' (q id)=r id){id:Nat}(hid:r' (q id)=r id):∀{b:Blk},b.all p=true->QR r' (q id) w (b.mapId q)->QR r id w b
 | .cells z t l,ha,hb=>by
  simp only[Blk.mapId,QR]at hb ⊢;rw[hid,den_mapIdL h l ha]at hb;exact hb
 | .rowl t z l,ha,hb=>by
  simp only[Blk.mapId,QR]at hb ⊢;rw[hid,QAC,den_mapIdL h _ (Ym ha),List.length_map]at hb;refine⟨hb.1,hb.2.1,λx hx=>?_,hb.2.2.2⟩;have:=hb.2.2.1 _ (List.mem_map_of_mem hx);rw[qp,List.length_map]at this;exact this
 | .cellsR z t l,ha,hb=>by
  simp only[Blk.mapId,QR]at hb ⊢;rw[hid,den_mapIdL h l ha]at hb;exact hb
 | .rowlR t z l,ha,hb=>by
  simp only[Blk.mapId,QR]at hb ⊢;rw[hid,QAC,den_mapIdL h _ (Ym ha),List.length_map]at hb;refine⟨hb.1,hb.2.1,λx hx=>?_,hb.2.2.2⟩;have:=hb.2.2.1 _ (List.mem_map_of_mem hx);rw[qp,List.length_map]at this;exact this
 | .arr z n get,_,hb=>by
  simp only[Blk.mapId,QR]at hb ⊢;rw[hid]at hb;refine⟨hb.1,hb.2.1,λi hi=>⟨(hb.2.2 i hi).1,λj v hv=>?_⟩⟩;obtain⟨h1,h2⟩:=(hb.2.2 i hi).2 j v hv;exact⟨h1,by rw[h2,VL (p:=λ_=>false) (r:=r') (r':=r) (λ_ hf=>by cases hf) v h1]⟩
 | .gone,_,_=>trivial
 | .lp s pe l ps as body,ha,hb=>by
  simp only[Blk.mapId,QR]at hb ⊢;rw[hid,den_mapIdL h l ha]at hb;exact hb
 | .dfr,_,hb=>by
  simp only[Blk.mapId,QR]at hb ⊢;rw[hid]at hb;exact hb
 | .mp ..,_,hb=>by
  simp only[Blk.mapId,QR]at hb ⊢;rw[hid]at hb;exact hb
 | .rowz o ty z n get,_,hb=>by
  simp only[Blk.mapId,QR,JA]at hb ⊢;rw[hid]at hb;obtain⟨h1,h2,h3,h4,h5,h6⟩:=hb;refine⟨h1,h2,h3,h4,h5,λhn=>?_⟩;obtain⟨h7,rest,h8,h9⟩:=h6 hn;exact⟨h7,rest,h8,by rw[h9,denL_congr (p:=λ_=>false) (r:=r') (r':=r) (λ_ hf=>by cases hf) _ (QAU λi hi=>YX (h5 i hi).2)]⟩
 | .frz z n get,_,hb=>by
  simp only[Blk.mapId,QR]at hb ⊢;rw[hid]at hb;exact⟨hb.1,hb.2.1,hb.2.2.keep λ_ _=>rfl⟩
 | .frz2 o ty z n len get,_,hb=>by
  simp only[Blk.mapId,QR]at hb ⊢;rw[hid]at hb;obtain⟨h1,h2,h3,inner,h4,h5,h6,h7⟩:=hb;exact⟨h1,h2,h3,inner,h4,h5,λi hi=>⟨(h6 i hi).1,(h6 i hi).2.1,(h6 i hi).2.2.keep λ_ _=>rfl⟩,h7⟩
 | .mpf k z has get,_,hb=>by
  simp only[Blk.mapId,QR]at hb ⊢;rw[hid]at hb;obtain⟨es,cl,h1,h2⟩:=hb;exact⟨es,cl,h1,h2.to⟩
theorem Blk.mapId_own(q:Nat->Nat)(b:Blk):(b.mapId q).own=b.own:=by cases b<;>rfl
theorem Blk.mapId_live(q:Nat->Nat)(b:Blk):(b.mapId q).live=b.live:=by cases b<;>rfl
def Gv:QE->Option (Bool×Bool×AV×List (Nat×Blk))
 | .leaf v h=>some (true,true,v,h)
 | .need b t=>match Gv t with
  | some (_,p,v,h)=>some (false,b&&p,v,h)
  | none=>none
 | _=>none
theorem QSv:∀{t:QE} {k p:Bool} {v:AV} {h:List (Nat×Blk)},Gv t=some (k,p,v,h)->p=true->t.den λu g=>u=v/\g=h
 | .leaf u g,k,p,v,h,e,_=>by
  simp only[Gv,qsI,qpI]at e;exact⟨e.2.2.1,e.2.2.2⟩
 | .need b t,k,p,v,h,e,hp=>by
  simp only[Gv]at e;split at e<;>(try (cases e;done))
  rename_i k' p' v' h' ht;simp only[qsI,qpI]at e;obtain⟨_,rfl,rfl,rfl⟩:=e;simp only[qbA]at hp;exact⟨hp.1,QSv ht hp.2⟩
def QC1:List Nat->Nat->Nat->Nat
 | [],_,k=>k
 | x::l,id,k=>match x==id with
  | true=>k
  | false=>QC1 l id (k+1)
def X2(N nid:Nat)(news:List Nat)(id:Nat):Nat:=match decide (id<N)with
 | true=>id
 | false=>nid+QC1 news id 0
def X1(pr:Blk->Blk):List Nat->List Blk->List (Nat×Blk)
 | i::l,b::bs=>(i,pr b)::X1 pr l bs
 | _,_=>[]
def zA(rw:Bool)(b:Blk):Blk:=match rw with
 | true=>b
 | false=>b.ro
def WV(N nid:Nat)(news:List Nat)(id:Nat):Bool:=(decide (id<N) && !inR nid id)||news.contains id
def qB(N nid:Nat)(news:List Nat)(h:List (Nat×Blk)):List (Nat×Blk)->List (Nat×Blk)
 | []=>[]
 | (id,b)::l=>match b.own with
  | true=>(id,match look h id with|some b'=>b'.mapId (X2 N nid news)|none => .gone)::qB N nid news h l
  | false=>qB N nid news h l
def GT(N nid:Nat)(news:List Nat)(h:List (Nat×Blk)):List Nat->Option (List (Nat×Blk))
 | []=>some []
 | id::l=>match look h id,GT N nid news h l with
  | some b,some u=>(match b.own with
   | true=>some ((X2 N nid news id,b.mapId (X2 N nid news))::u)
   | false=>none)
  | _,_=>none
def QKu:List Nat->Bool
 | []=>true
 | x::l => !(l.contains x)&&QKu l
def QDp(l:List Nat):Nat:=l.foldl (λa b=>if a<=b then b else a) 0
def QAF(rw:Bool)(E:Env)(H:Hnd)(fn:Func):FC:=λargs nid all=>(all,λblks=>
 let N:=(if QDp all<=nid then nid else QDp all)+1000
 let hp:=X1 (zA rw) all blks
 match AV.allL (·<N) args&&hp.all (λp=>decide (p.1<N)&&p.2.all (·<N))with
 | false=>none
 | true=>match Gv (Vm E H fn args hp N λv h _=>.leaf v h)with
  | none=>none
  | some (k,p,v,h)=>
   let old:=hp.flatMap λq=>match q.2.own with|true=>(match look h q.1 with|some b=>b.idsFrom N|none=>[])|false=>[]
   let news:=Ge N h 3 (YK (v.idsFrom N++old) [])
   match GT N nid news h news with
   | none=>none
   | some u=>match QKu news&&(decide (news.length<=8)&&(v.all (WV N nid news)&&(news.all (λid=>decide (N<=id)&&(match look h id with|some b=>b.plain&&b.all (WV N nid news)|none=>false)) &&
     hp.all λq=>!q.2.own||(q.2.plain&&(match look h q.1 with|some b=>b.plain&&b.all (WV N nid news)|none=>true)))))with
    | true=>some ⟨k,p,v.mapId (X2 N nid news),qB N nid news h hp++u⟩
    | false=>none)
theorem QGU:∀(l:List Nat) (id k:Nat),id∈l->∃ i,QC1 l id k=k+i/\i<l.length/\l[i]? = some id
 | x::l,id,k,h=>by
  simp only[QC1];split
  .rename_i hx;have:x=id:=by simpa using hx
   subst this;exact⟨0,rfl,by simp,rfl⟩
  .rename_i hx;have hne:x≠id:=by simpa using hx
   obtain⟨i,h1,h2,h3⟩:=QGU l id (k+1) (by rcases List.mem_cons.1 h with rfl|h;exact absurd rfl hne;exact h)
   exact⟨i+1,by rw[h1];omega,by simpa using h2,by simpa using h3⟩
theorem zX{pr:Blk->Blk}:∀{l:List Nat} {bs:List Blk} {lk:Nat->Option Blk},l.map lk=bs.map some->∀ p∈X1 pr l bs,∃ b,lk p.1=some b/\p.2=pr b
 | [],[],_,_,p,hp=>by simp[X1]at hp
 | i::l,b::bs,lk,h,p,hp=>by
  simp only[List.map_cons,List.cons.injEq]at h;simp only[X1]at hp;rcases List.mem_cons.1 hp with rfl|hp
  .exact⟨b,h.1,rfl⟩
  .exact zX h.2 p hp
 | [],_::_,_,h,_,_=>by simp at h
 | _::_,[],_,h,_,_=>by simp at h
theorem qS{N nid:Nat}{news:List Nat}{h:List (Nat×Blk)}:∀{l:List (Nat×Blk)} {p:Nat×Blk},p∈qB N nid news h l->∃ b,(p.1,b)∈l/\b.own=true/\p.2=(match look h p.1 with|some b'=>b'.mapId (X2 N nid news)|none => .gone)
 | [],p,hp=>by simp[qB]at hp
 | (id,b)::l,p,hp=>by
  simp only[qB]at hp;split at hp
  .rename_i ho;rcases List.mem_cons.1 hp with rfl|hp
   .exact⟨b,qmc,ho,rfl⟩
   .obtain⟨b',h1,h2⟩:=qS hp;exact⟨b',List.mem_cons_of_mem _ h1,h2⟩
  .obtain⟨b',h1,h2⟩:=qS hp;exact⟨b',List.mem_cons_of_mem _ h1,h2⟩
theorem QIW{N nid:Nat}{news:List Nat}{h:List (Nat×Blk)}:∀{l:List (Nat×Blk)} {id:Nat} {b:Blk},(id,b)∈l->b.own=true->∃ b',(id,b')∈qB N nid news h l
 | (id',b')::l,id,b,hm,ho=>by
  simp only[qB];rcases List.mem_cons.1 hm with e|hm
  .simp only[qpI]at e;obtain⟨rfl,rfl⟩:=e;rw[ho];exact⟨_,qmc⟩
  .obtain⟨b'',hm'⟩:=QIW (N:=N) (nid:=nid) (news:=news) (h:=h) hm ho;split
   .exact⟨b'',List.mem_cons_of_mem _ hm'⟩
   .exact⟨b'',hm'⟩
theorem jg{N nid:Nat}{news:List Nat}{h:List (Nat×Blk)}:∀{l:List Nat} {u:List (Nat×Blk)},GT N nid news h l=some u->∀ p∈u,∃ id b,id∈l/\look h id=some b/\b.own=true/\p=(X2 N nid news id,b.mapId (X2 N nid news))
 | [],u,e,p,hp=>by simp only[GT,qsI]at e;subst e;cases hp
 | i::l,u,e,p,hp=>by
  simp only[GT]at e;split at e<;>(try (cases e;done))
  rename_i b u' hb hu;split at e<;>(try (cases e;done))
  rename_i ho;simp only[qsI]at e;subst e;rcases List.mem_cons.1 hp with rfl|hp
  .exact⟨i,b,qmc,hb,ho,rfl⟩
  .obtain⟨id,b',h1,h2⟩:=jg hu p hp;exact⟨id,b',List.mem_cons_of_mem _ h1,h2⟩
theorem QHt{id k:Nat}:Qm r id b.ro k↔Qm r id b k:=by cases b<;>exact Iff.rfl
theorem QFG{id k:Nat}:Qm r id (zA rw_ b) k↔Qm r id b k:=by
 cases rw_
 .exact QHt
 .exact Iff.rfl
theorem Blk.mapId_plain(h:b.plain=true):(b.mapId q).plain=true:=by cases b<;>first|rfl|cases h
theorem QY7{id:Nat}(h:QR r id w b):QR r id w (zA rw_ b):=by
 cases rw_
 .exact h.ro
 .exact h
theorem QHb{E:Env}(hE:E.Sound){H:Hnd}{f:FuncId}{fn:Func}{c:Code}(hf:E.P.funcs[f]? = some fn)(hb:fn.body=some c)(hgo:VB E.P f=true)(hl:∀ G,G.rd=none->Q8 E G H c):QO E.P f (QAF rw_ E H fn):=by
 refine⟨hgo,λargs nid all r w lk blks eff hH hargs hv he hp=>?_⟩;simp only[QAF]at hv he;generalize (if QDp all<=nid then nid else QDp all)+1000=N at he
 generalize hhp:X1 (zA rw_) all blks=hp0 at he;split at he<;>(try (cases he;done))
 rename_i hsc;simp only[qbA,List.all_eq_true,qdE]at hsc;obtain⟨hsa,hsb⟩:=hsc;split at he<;>(try (cases he;done))
 rename_i k pp v h hone;split at he<;>(try (cases he;done))
 rename_i u hu;split at he<;>(try (cases he;done))
 rename_i hch;generalize Ge N h 3 _=news at *;simp only[qsI]at he;subst he;simp only at hp;simp only[qbA,List.all_eq_true,qdE,qbO,Bool.not_eq_true']at hch;obtain⟨_,hlen,hva,hna,hoa⟩:=hch
 have hz:∀ id b,look hp0 id=some b->∃ b0,lk id=some b0/\b=zA rw_ b0:=by
  intro id b hlk;have:=KR hlk;rw[<-hhp]at this;exact zX hv _ this
 have hI0:Kc ⟨w,λk=>∃ id b,look hp0 id=some b/\b.own=true/\Qm r id b k,N,r,none⟩ N r hp0 w:=by
  refine⟨λid b hlk=>?_,λid id' b b' h1 h2 hne ho=>?_,λ_ _=>rfl,Fr.refl _ _,λid b hlk ho k hk=>.inl ⟨id,b,hlk,ho,hk⟩,λid b hlk=>?_,λid b hlk=>?_⟩
  .obtain⟨b0,h1,rfl⟩:=hz id b hlk;exact QY7 (hH.rep id b0 h1)
  .obtain⟨b0,k1,rfl⟩:=hz id b h1;obtain⟨b0',k2,rfl⟩:=hz id' b' h2;cases rw_
   .simp only[zA]at ho;intro k hk hk';refine hH.sep id id' b0 b0' k1 k2 hne ?_ ?_ k (QHt.1 hk) (QHt.1 hk')
    .rw[<-Blk.own_ro b0 ho];exact ho
    .rw[<-Blk.live_ro];exact YC h2
   .exact hH.sep id id' b0 b0' k1 k2 hne ho (YC h2)
  .exact(hsb _ (KR hlk)).1
  .exact(hsb _ (KR hlk)).2
 refine(zD hE hf hb (hl _ rfl) rfl hI0 hsa (QSv hone hp)).mono ?_;rintro e w' ⟨v',h',nid',r',⟨rfl,rfl⟩,rfl,hle,hI,hvn⟩
 have hex:∃ rr:Nat->Loc,(∀ id,inR nid id=false->rr id=r id)/\∀ id,WV N nid news id=true->rr (X2 N nid news id)=r' id:=by
  refine⟨(λj=>if inR nid j=true then r' (news.getD (j-nid) 0)else r j),λid hid=>if_neg (by rw[hid];simp),λid hid=>?_⟩
  simp only[WV,qbO,qbA,qdE,Bool.not_eq_true',List.contains_iff_mem]at hid
  by_cases hlt:id<N
  .have hin:inR nid id=false:=by
    rcases hid with h|h
    .exact h.2
    .exact absurd hlt (by have:=(hna id h).1;omega)
   simp only[X2,hlt,decide_true,hin,Bool.false_eq_true,if_false];exact(hI.ext id hlt).symm
  .rcases hid with h|h
   .exact absurd h.1 hlt
   .obtain⟨i,h1,h2,h3⟩:=QGU news id 0 h;have hin:inR nid (nid+(0+i))=true:=by simp[inR];omega
    simp only[X2,hlt,decide_false,h1,hin,if_true];rw[show nid+(0+i)-nid=i by omega,List.getD_eq_getElem?_getD,h3];rfl
 obtain⟨rr,hsame,hkey⟩:=hex;have hold:∀ id,id<N->X2 N nid news id=id:=by intro id hlt;simp[X2,hlt]
 have hnew:∀ id,id∈news->inR nid (X2 N nid news id)=true/\¬ id<N:=by
  intro id hm;have hlt:¬ id<N:=by have:=(hna id hm).1;omega
  obtain⟨i,h1,h2,h3⟩:=QGU news id 0 hm;refine⟨?_,hlt⟩;simp only[X2,hlt,decide_false,h1];simp[inR];omega
 have hnok:∀ id,id∈news->WV N nid news id=true:=by intro id hm;simp[WV,hm]
 have hopos:∀ id b,(id,b)∈hp0->id<N/\inR nid id=false:=by
  intro id b hm;refine⟨(hsb _ hm).1,?_⟩;rw[<-hhp]at hm;obtain⟨b0,h1,_⟩:=zX hv _ hm;exact hH.out id b0 h1
 refine⟨rr,?_,?_⟩
 .rw[Wh hkey v' hva]
 .refine⟨hsame,λp hpm=>?_,?_,λp hpm hin hlv k hk=>?_,λp hpm hin hlv k hk=>?_,λp hpm q hqm hin hin' hne ho hlv k hk hk'=>?_⟩
  .rcases List.mem_append.1 hpm with hm|hm
   .obtain⟨b,h1,h2,h3⟩:=qS hm;obtain⟨hlt,hin⟩:=hopos _ _ h1;rw[h3];split
    .rename_i b' hb'
     have hall:b'.all (WV N nid news)=true:=by
      rcases hoa _ h1 with h|h
      .rw[h2]at h;cases h
      .rw[hb']at h;simp only[qbA]at h;exact h.2.2
     have:=Blk.mapId_rep hkey (id:=p.1) (w:=w') (hkey p.1 (by simp[WV,hlt,hin])) hall (hI.rep _ _ hb')
     rw[hold _ hlt]at this;exact this
    .trivial
   .obtain⟨id,b,h1,h2,h3,rfl⟩:=jg hu p hm;have hall:=(hna id h1).2;rw[h2]at hall;simp only[qbA]at hall;exact Blk.mapId_rep hkey (hkey id (hnok id h1)) hall.2 (hI.rep _ _ h2)
  .refine⟨hI.fr.os,hI.fr.tape,hI.fr.output,hI.fr.size,λk hk hc=>hI.fr.block k hk ?_⟩;rintro⟨id,b,h1,h2,h3⟩;have hm:=KR h1;obtain⟨b',hb'⟩:=QIW (N:=N) (nid:=nid) (news:=news) (h:=h') hm h2;obtain⟨b0,g1,rfl⟩:=hz id b h1;exact hc ⟨(id,b'),List.mem_append_left _ hb',(hopos _ _ hm).2,b0,g1,QFG.1 h3⟩
  .rcases List.mem_append.1 hpm with hm|hm
   .obtain⟨b,h1,h2,h3⟩:=qS hm;rw[(hopos _ _ h1).2]at hin;cases hin
   .obtain⟨id,b,h1,h2,h3,rfl⟩:=jg hu p hm;have hpl:=(hna id h1).2;rw[h2]at hpl;simp only[qbA]at hpl
    have hk0:k=(r' id).blk:=by
     have:=(VH (Blk.mapId_plain hpl.1)).1 hk;rw[hkey id (hnok id h1)]at this;exact this
    rcases hI.own id b h2 h3 k ((VH hpl.1).2 hk0)with ⟨id0,b0,k1,k2,k3⟩|k
    .have hm0:=KR k1;obtain⟨hlt0,hin0⟩:=hopos _ _ hm0
     have hno:look h' id0=none:=by
      cases hlk:look h' id0 with
      | none=>rfl
      | some b'=>
       exfalso
       have hpl0:b0.plain=true/\b'.plain=true:=by
        rcases hoa _ hm0 with h|h
        .rw[k2]at h;cases h
        .rw[hlk]at h;simp only[qbA]at h;exact⟨h.1,h.2.1⟩
       refine hI.sep id id0 b b' h2 hlk (by rintro rfl;exact(hnew _ h1).2 hlt0) h3 k ((VH hpl.1).2 hk0) ((VH hpl0.2).2 ?_)
       rw[hI.ext id0 hlt0];exact(VH hpl0.1).1 k3
     obtain⟨b',hb'⟩:=QIW (N:=N) (nid:=nid) (news:=news) (h:=h') hm0 k2;obtain⟨b00,g1,rfl⟩:=hz id0 b0 k1;refine .inr (.inl ⟨(id0,b'),List.mem_append_left _ hb',hin0,λz hz hzi=>?_,b00,g1,QFG.1 k3⟩);rcases List.mem_append.1 hz with hz|hz
     .obtain⟨b2,_,_,j3⟩:=qS hz;simp only at hzi;rw[j3,hzi,hno];rfl
     .obtain⟨id2,b2,j1,_,_,rfl⟩:=jg hu z hz;simp only at hzi;have:=(hnew id2 j1).1;rw[hzi,hin0]at this;cases this
    .exact .inl k
  .rcases List.mem_append.1 hpm with hm|hm
   .obtain⟨b,h1,h2,h3⟩:=qS hm;obtain⟨hlt,hin0⟩:=hopos _ _ h1;have hmz:=h1;rw[<-hhp]at hmz;obtain⟨b00,g1,g2⟩:=zX hv _ hmz;rcases hoa _ h1 with h|h
    .rw[h2]at h;cases h
    .rw[h3]at hk hlv;split at hk
     .rename_i b' hb';rw[hb']at h;simp only[qbA]at h;have hk:=(VH (Blk.mapId_plain h.2.1)).1 hk;rw[hsame _ hin0]at hk;refine⟨b00,g1,(QFG (b:=b00) (rw_:=rw_)).1 ?_⟩;simp only at g2;rw[<-g2];exact(VH h.1).2 hk
     .rename_i hn;rw[hn]at hlv;cases hlv
   .obtain⟨id,b,h1,h2,h3,rfl⟩:=jg hu p hm;have:=(hnew id h1).1;rw[hin]at this;cases this
  .rcases List.mem_append.1 hpm with hm|hm
   .obtain⟨b,h1,h2,h3⟩:=qS hm;rw[(hopos _ _ h1).2]at hin;cases hin
   rcases List.mem_append.1 hqm with hm'|hm'
   .obtain⟨b,h1,h2,h3⟩:=qS hm';rw[(hopos _ _ h1).2]at hin';cases hin'
   obtain⟨id,b,h1,h2,h3,rfl⟩:=jg hu p hm;obtain⟨id2,b2,j1,j2,j3,rfl⟩:=jg hu q hm';have hpl:=(hna id h1).2;rw[h2]at hpl;simp only[qbA]at hpl;have hpl2:=(hna id2 j1).2;rw[j2]at hpl2;simp only[qbA]at hpl2;have hk:=(VH (Blk.mapId_plain hpl.1)).1 hk;have hk':=(VH (Blk.mapId_plain hpl2.1)).1 hk';rw[hkey id (hnok id h1)]at hk;rw[hkey id2 (hnok id2 j1)]at hk';exact hI.sep id id2 b b2 h2 j2 (by rintro rfl;exact hne rfl) h3 k ((VH hpl.1).2 hk) ((VH hpl2.1).2 hk')
theorem QF{b:Bool}(hb:b=true)(ht:t.den Q):(QE.need b t).den Q:=⟨hb,ht⟩
theorem K6{b:Bool}{f:Bool->QE}(h:∀ x,x=b->(f x).den Q):(QE.bnd b f).den Q:=h
theorem QH{b:Bool}{e:QE}(h1:b=true->t.den Q)(h2:b=false->e.den Q):(QE.br b t e).den Q:=⟨h1,h2⟩
theorem QX{p:Prop}(hp:p)(ht:t.den Q):(QE.ask p t).den Q:=⟨hp,ht⟩
theorem KB{p:Prop}(ht:p->t.den Q):(QE.asm p t).den Q:=ht
theorem Q7{f:(Nat->Value)->QE}(ht:∀ g,(f g).den Q):(QE.all f).den Q:=ht
theorem Vx{a b:QE}(h1:a.den Q)(h2:b.den Q):(QE.both a b).den Q:=⟨h1,h2⟩
structure XU (Q:AV->List (Nat×Blk)->Prop) (t:QE):Prop where
 den:t.den Q
inductive Cv where
 | same
 | ghost
 | lift
structure Pr where
 p:Nat
 s:Nat
 c:Cv
mutual
def prV:AV->AV->List Pr
 | .ptr id _ _,.ptr id' _ _=>[⟨id',id,.same⟩]
 | .slice _ id _ _ _,.slice _ id' _ _ _=>[⟨id',id,.same⟩]
 | .slice _ id _ _ _,.slz id' _ _ _=>[⟨id',id,.lift⟩]
 | .slz id _ _ _,.slz id' _ _ _=>[⟨id',id,.same⟩]
 | .nils,.slz id' _ _ _=>[⟨id',0,.ghost⟩]
 | .map id,.map id'=>[⟨id',id,.same⟩]
 | .yld id,.yld id'=>[⟨id',id,.same⟩]
 | .fn _ l,.fn _ l'=>prL l l'
 | .ifc _ v,.ifc _ v'=>prV v v'
 | .agg l,.agg l'=>prL l l'
 | .tup l,.tup l'=>prL l l'
 | _,_=>[]
def prL:List AV->List AV->List Pr
 | v::l,v'::l'=>prV v v'++prL l l'
 | _,_=>[]
end
def JX:List Pr->Nat->Option Pr
 | [],_=>none
 | x::l,i=>match Nat.beq x.p i with
  | true=>some x
  | false=>JX l i
def QAu:List Pr->List Pr->List Pr
 | [],acc=>acc
 | x::l,acc=>match JX acc x.p with
  | some _=>QAu l acc
  | none=>QAu l (acc++[x])
def prB:Blk->Blk->List Pr
 | .cells _ _ l,.cells _ _ l'=>prL l l'
 | .cells _ _ l,.cellsR _ _ l'=>prL l l'
 | .cellsR _ _ l,.cellsR _ _ l'=>prL l l'
 | .lp _ _ l _ _ _,.lp _ _ l' _ _ _=>prL l l'
 | .rowl _ _ l,.rowl _ _ l'=>prL l.flatten l'.flatten
 | _,_=>[]
def QCP(h hJ:List (Nat×Blk))(Q:List Pr):List Pr:=QAu (Q.flatMap λx=>match look h x.s,look hJ x.p with
 | some b,some b'=>prB b b'
 | _,_=>[]) Q
def QDL(n0:Nat):List (Nat×Blk)->List Pr
 | []=>[]
 | (i,_)::l=>match Nat.blt i n0 with
  | true=>⟨i,i,.same⟩::QDL n0 l
  | false=>QDL n0 l
def qt(n0:Nat)(vals Jv:List AV)(h hJ:List (Nat×Blk)):List Pr:=QCP h hJ (QCP h hJ (QCP h hJ (QAu (prL vals Jv) (QDL n0 hJ))))
def isP(Q:List Pr)(p s:Nat):Bool:=match JX Q p with
 | some ⟨_,s',.same⟩=>Nat.beq s s'
 | some ⟨_,s',.lift⟩=>Nat.beq s s'
 | _=>false
def QIP(Q:List Pr)(p s:Nat):Bool:=match JX Q p with
 | some ⟨_,s',.lift⟩=>Nat.beq s s'
 | _=>false
def QEj(Q:List Pr)(p s:Nat):Bool:=match JX Q p with
 | some ⟨_,s',.same⟩=>Nat.beq s s'
 | _=>false
def QFA(Q:List Pr)(p:Nat):Bool:=match JX Q p with
 | some ⟨_,_,.ghost⟩=>true
 | _=>false
def QHS:IntKind->IntKind->Bool
 | k,k'=>k==k'
mutual
def eqV(Q:List Pr):AV->AV->Option (List Prop)
 | .int _ k n,.int _ k' n'=>match QHS k k' with|true=>some [n=n']|false=>none
 | .bool _ b,.bool _ b'=>some [b=b']
 | .ptr id e j,.ptr id' e' j'=>match isP Q id' id with|true=>some [e=e',j=j']|false=>none
 | .addr a,.addr a'=>some [a=a']
 | .nilp,.nilp=>some []
 | .slice _ id e n cp,.slice _ id' e' n' cp'=>match isP Q id' id with|true=>some [e=e',n=n',cp=cp']|false=>none
 | .slice _ id e n cp,.slz id' e' n' cp'=>match QIP Q id' id with|true=>some [e=e',n=n',cp=cp']|false=>none
 | .slz id e n cp,.slz id' e' n' cp'=>match QEj Q id' id with|true=>some [e=e',n=n',cp=cp']|false=>none
 | .nils,.slz id' _ n' _=>match QFA Q id' with|true=>some [n'=0]|false=>none
 | .nils,.nils=>some []
 | .map id,.map id'=>match isP Q id' id with|true=>some []|false=>none
 | .yld id,.yld id'=>match isP Q id' id with|true=>some []|false=>none
 | .nilm,.nilm=>some []
 | .fn f l,.fn f' l'=>match eqL Q l l' with|some ps=>some ((f=f')::ps)|none=>none
 | .nilf,.nilf=>some []
 | .ifc t v,.ifc t' v'=>match eqV Q v v' with|some ps=>some ((t=t')::ps)|none=>none
 | .nili,.nili=>some []
 | .str s,.str s'=>some [s=s']
 | .agg l,.agg l'=>eqL Q l l'
 | .tup l,.tup l'=>eqL Q l l'
 | .raw v,.raw v'=>some [v=v']
 | _,_=>none
def eqL(Q:List Pr):List AV->List AV->Option (List Prop)
 | [],[]=>some []
 | v::l,v'::l'=>match eqV Q v v',eqL Q l l' with
  | some ps,some qs=>some (ps++qs)
  | _,_=>none
 | _,_=>none
end
def GD(Q:List Pr):List (List AV)->List (List AV)->Option (List Prop)
 | [],[]=>some []
 | v::l,v'::l'=>match eqL Q v v',GD Q l l' with
  | some ps,some qs=>some (ps++qs)
  | _,_=>none
 | _,_=>none
def eqF:Nat->Nat->(Nat->Int)->(Nat->Int)->Prop
 | 0,_,_,_=>True
 | n+1,j,f,g=>f j=g j/\eqF n (j+1) f g
theorem QOX:∀{n j:Nat} {f g:Nat->Int},eqF n j f g->∀ i,i<n->f (j+i)=g (j+i)
 | 0,_,_,_,_,i,hi=>by omega
 | n+1,j,f,g,h,0,_=>h.1
 | n+1,j,f,g,h,i+1,hi=>by
  have:=QOX h.2 i (by omega)
  rw[show j+(i+1)=j+1+i by omega];exact this
def QC(m n:Nat)(g g':Nat->Nat->Int):Prop:=∀ i,i<n->eqF m 0 (g i) (g' i)
theorem XC:∀(n j:Nat) (f:Nat->Int),eqF n j f f
 | 0,_,_=>trivial
 | n+1,j,f=>⟨rfl,XC n (j+1) f⟩
theorem QC.refl(m n:Nat)(g:Nat->Nat->Int):QC m n g g:=λ_ _=>XC _ _ _
theorem qRr{m n:Nat}{g:Nat->Nat->Int}:QC m n g g:=QC.refl m n g
instance{m n:Nat}{g:Nat->Nat->Int}:Tv (QC m n g g):=⟨qRr⟩
def QD4(ks:List CK)(l:List (List AV))(n:Nat)(g':Nat->Nat->Int):Prop:=n<=l.length/\∀ i,i<n->∀ x,l[i]? = some x->∀ r,AV.denL r x=AV.denL r (Qk ks g' i)
def QTM(ks:List CK)(n:Nat)(g:Nat->List AV)(g':Nat->Nat->Int):Prop:=∀ i,i<n->∀ r,AV.denL r (g i)=AV.denL r (Qk ks g' i)
def Q1(m n:Nat)(ln ln':Nat->Nat)(g g':Nat->Nat->Nat->Int):Prop:=∀ i,i<n->ln i=ln' i/\QC m (ln' i) (g i) (g' i)
def Ka(z z':AV)(has has':Int->Bool)(g g':Int->AV):Prop:=(∀ r,z.den r=z'.den r)/\z'.all (λ_=>false)=true/\(∀ n,has n=has' n)/\∀ n,(∀ r,(g n).den r=(g' n).den r)/\(g' n).all (λ_=>false)=true
def GE(z:AV)(has:Int->Bool)(g:Int->AV):Prop:=z.all (λ_=>false)=true/\(∀ n,has n=false)/\∀ n,(∀ r,(g n).den r=z.den r)/\(g n).all (λ_=>false)=true
def eqB(Q:List Pr)(c:Cv):Blk->Blk->Option (List Prop)
 | .cells z t l,.cells z' t' l'=>match c,Nat.beq z z',Nat.beq t t' with | .same,true,true=>eqL Q l l'|_,_,_=>none
 | .cells z t l,.cellsR z' t' l'=>match c,Nat.beq z z',Nat.beq t t' with | .same,true,true=>eqL Q l l'|_,_,_=>none
 | .cellsR z t l,.cellsR z' t' l'=>match c,Nat.beq z z',Nat.beq t t' with | .same,true,true=>eqL Q l l'|_,_,_=>none
 | .rowl t z l,.rowl t' z' l'=>match c,Nat.beq z z',Nat.beq t t' with | .same,true,true=>GD Q l l'|_,_,_=>none
 | .arr z n g,.arr z' n' g'=>match c,Nat.beq z z' with | .same,true=>some [n=n',g=g']|_,_=>none
 | .rowz o t ks n g,.rowz o' t' ks' n' g'=>match c,ksB ks ks',Nat.beq t t',(o || !o')with | .same,true,true,true=>some [n'<=n,QC ks'.length n' g g']|_,_,_,_=>none
 | .rowz _ _ ks n g,.frz ks' n' g'=>match c,ksB ks ks' with | .same,true=>some [n'<=n,QC ks'.length n' g g']|_,_=>none
 | .frz ks n g,.frz ks' n' g'=>match c,ksB ks ks' with | .same,true=>some [n'<=n,QC ks'.length n' g g']|_,_=>none
 | .frz2 o t ks n ln g,.frz2 o' t' ks' n' ln' g'=>match c,ksB ks ks',Nat.beq t t',(o || !o')with | .same,true,true,true=>some [n=n',Q1 ks'.length n' ln ln' g g']|_,_,_,_=>none
 | .rowl t z l,.rowz _ t' ks' n' g'=>match c,Nat.beq z ks'.length,Nat.beq t t' with | .lift,true,true=>some [QD4 ks' l n' g']|_,_,_=>none
 | .rowl _ z l,.frz ks' n' g'=>match c,Nat.beq z ks'.length with | .lift,true=>some [QD4 ks' l n' g']|_,_=>none
 | .rowlR _ z l,.frz ks' n' g'=>match c,Nat.beq z ks'.length with | .lift,true=>some [QD4 ks' l n' g']|_,_=>none
 | .arr z n g,.frz ks' n' g'=>match c,Nat.beq z ks'.length with | .lift,true=>some [n'<=n,QTM ks' n' g g']|_,_=>none
 | .mp es cl,.mp es' cl'=>match c with | .same=>some [es=es',cl=cl']|_=>none
 | .mp es _,.mpf _ z has g=>match c with | .same=>some [es=[],GE z has g]|_=>none
 | .mpf k z has g,.mpf k' z' has' g'=>match c,QHS k k' with | .same,true=>some [Ka z z' has has' g g']|_,_=>none
 | .lp s pe l ps as body,.lp s' pe' l' ps' as' body'=>match c,eqL Q l l' with | .same,some qs=>some ((s=s')::(pe=pe')::(ps=ps')::(as=as')::(body=body')::qs)|_,_=>none
 | _,_=>none
def eqG:Blk->Option (List Prop)
 | .rowz _ _ _ n _=>some [n=0]
 | .frz _ n _=>some [n=0]
 | .frz2 _ _ _ n _ _=>some [n=0]
 | _=>none
def eqH(Q:List Pr)(h:List (Nat×Blk)):List (Nat×Blk)->Option (List Prop)
 | []=>some []
 | (i,b)::l=>match JX Q i with
  | some ⟨_,_,.ghost⟩=>(match eqG b,eqH Q h l with
   | some ps,some qs=>some (ps++qs)
   | _,_=>none)
  | some ⟨_,s,c⟩=>(match look h s with
   | some b'=>(match eqB Q c b' b,eqH Q h l with
    | some ps,some qs=>some (ps++qs)
    | _,_=>none)
   | none=>none)
  | none=>none
def HP(Q:List Pr):List (Nat×Blk)->Bool
 | []=>true
 | (i,_)::l=>(match JX Q i with
  | some ⟨_,s,c⟩=>l.all λp=>match JX Q p.1 with
   | some ⟨_,s',c'⟩=>(match c,c' with
    | .ghost,_=>true
    | _,.ghost=>true
    | _,_ => !(Nat.beq s s'))
   | none=>false
  | none=>false)&&HP Q l
def HX(n0:Nat):List Pr->Bool
 | []=>true
 | x::l=>(match Nat.blt x.p n0 with
  | true=>(match x.c with | .same=>Nat.beq x.p x.s|_=>false)
  | false=>true)&&HX n0 l
def QEz:List (Nat×Blk)->Bool
 | []=>true
 | (i,_)::l=>(l.all λp=>!(Nat.beq i p.1))&&QEz l
def QI(n0:Nat)(vals:List AV)(h:List (Nat×Blk))(J:JSt):Option (List Prop):=
 match qt n0 vals (J.live.map (·.2)) h J.hp with
 | Q=>match eqL Q vals (J.live.map (·.2)),eqH Q h J.hp,(vP J&&(HP Q J.hp&&(HX n0 Q&&(Xc h&&QEz J.hp))))with
  | some ps,some qs,true=>some (ps++qs)
  | _,_,_=>none
def KX:List Prop->Prop
 | []=>True
 | p::l=>p/\KX l
instance:Tv (KX []):=⟨trivial⟩
theorem vD:∀{a b:List Prop},KX (a++b)↔KX a/\KX b
 | [],b=>by simp[KX]
 | p::a,b=>by simp only[List.cons_append,KX,vD (a:=a)];exact and_assoc.symm
structure XQ (n0:Nat) (ls:List Nat) (len:Nat) (vals:List AV) (h:List (Nat×Blk)) (J:JSt):Prop where
 slots:J.live.map (·.1)=ls
 len:len=J.len
 eqs:∃ ps,QI n0 vals h J=some ps/\KX ps
def GC(l:Loc):Loc:={ l with nil:=false,nb:=none,foot:=λk=>k=l.blk }
def zOf:Option Blk->Nat
 | some (.rowz _ _ ks _ _)=>ks.length
 | some (.frz ks _ _)=>ks.length
 | some (.frz2 ..)=>1
 | _=>0
def KH(Q:List Pr)(hJ:List (Nat×Blk))(r:Nat->Loc)(i:Nat):Loc:=match JX Q i with
 | some ⟨_,s,.same⟩=>r s
 | some ⟨_,s,.lift⟩=>GC (r s)
 | some ⟨_,_,.ghost⟩=>Loc.none (zOf (look hJ i))
 | none=>r i
theorem QDN{Q:List Pr}{p:Nat}(h:isP Q p s=true)(r:Nat->Loc):(KH Q hJ r p).blk=(r s).blk/\(KH Q hJ r p).off=(r s).off/\(KH Q hJ r p).esz=(r s).esz/\(KH Q hJ r p).cap=(r s).cap:=by
 unfold isP at h;unfold KH;split at h
 .rename_i s' he;rw[he];have:=qnb h;subst this;exact⟨rfl,rfl,rfl,rfl⟩
 .rename_i s' he;rw[he];have:=qnb h;subst this;exact⟨rfl,rfl,rfl,rfl⟩
 .cases h
theorem Qfq{Q:List Pr}{p:Nat}(h:QIP Q p s=true)(r:Nat->Loc):KH Q hJ r p=GC (r s):=by
 unfold QIP at h;unfold KH;split at h
 .rename_i s' he;rw[he];have:=qnb h;subst this;rfl
 .cases h
theorem QVs{Q:List Pr}{p:Nat}(h:QEj Q p s=true)(r:Nat->Loc):KH Q hJ r p=r s:=by
 unfold QEj at h;unfold KH;split at h
 .rename_i s' he;rw[he];have:=qnb h;subst this;rfl
 .cases h
theorem QbB{Q:List Pr}{p:Nat}(h:QFA Q p=true)(r:Nat->Loc):∃ z,KH Q hJ r p=Loc.none z:=by
 unfold QFA at h;unfold KH;split at h
 .rename_i he;rw[he];exact⟨_,rfl⟩
 .cases h
mutual
theorem QSa{Q:List Pr}{hJ:List (Nat×Blk)}(r:Nat->Loc):∀(v v':AV) (ps:List Prop),eqV Q v v'=some ps->KX ps->v.den r=v'.den (KH Q hJ r):=by
 intro v v' ps h ha;cases v<;>cases v'<;>simp only[eqV]at h<;>(try (cases h;done))<;>(try (split at h<;>(try (cases h;done))))<;>(try (simp only[qsI]at h;subst h))<;>(try simp only[KX,and_true]at ha)
 .rename_i hk;have hk:=beq_iff_eq.1 hk;subst hk;rw[AV.den,AV.den,ha]
 .rw[AV.den,AV.den,ha]
 .rename_i hk;obtain⟨h1,h2,h3,h4⟩:=QDN (hJ:=hJ) hk r;rw[AV.den,AV.den,h1,h2,h3,ha.1,ha.2]
 .rw[AV.den,AV.den,ha]
 .rfl
 .rename_i hk;obtain⟨h1,h2,h3,h4⟩:=QDN (hJ:=hJ) hk r;rw[AV.den,AV.den,h1,h2,h3,h4,ha.1,ha.2.1,ha.2.2]
 .rename_i hk;have h1:=Qfq (hJ:=hJ) hk r;simp only[AV.den];rw[h1,ha.1,ha.2.1,ha.2.2];rfl
 .rfl
 .rename_i hk;obtain⟨z,h1⟩:=QbB (hJ:=hJ) hk r;simp only[AV.den];rw[h1,ha];rfl
 .rename_i hk;have h1:=QVs (hJ:=hJ) hk r;simp only[AV.den];rw[h1,ha.1,ha.2.1,ha.2.2]
 .rename_i hk;obtain⟨h1,h2,h3,h4⟩:=QDN (hJ:=hJ) hk r;rw[AV.den,AV.den,h1]
 .rename_i hk;obtain⟨h1,h2,h3,h4⟩:=QDN (hJ:=hJ) hk r;rw[AV.den,AV.den,h1]
 .rfl
 .rename_i hl;simp only[AV.den];rw[ha.1,eqL_den r _ _ _ hl ha.2]
 .rfl
 .rename_i hl;simp only[AV.den];rw[ha.1,QSa r _ _ _ hl ha.2]
 .rfl
 .rw[AV.den,AV.den,ha]
 .simp only[AV.den];rw[eqL_den r _ _ _ h ha]
 .simp only[AV.den];rw[eqL_den r _ _ _ h ha]
 .rw[AV.den,AV.den,ha]
theorem eqL_den{Q:List Pr}{hJ:List (Nat×Blk)}(r:Nat->Loc):∀(l l':List AV) (ps:List Prop),eqL Q l l'=some ps->KX ps->AV.denL r l=AV.denL (KH Q hJ r) l'
 | [],[],_,_,_=>rfl
 | [],_::_,_,h,_=>by simp[eqL]at h
 | _::_,[],_,h,_=>by simp[eqL]at h
 | v::l,v'::l',ps,h,ha=>by
  simp only[eqL]at h;split at h<;>(try (cases h;done))
  rename_i p1 p2 h1 h2;simp only[qsI]at h;subst h;obtain⟨a1,a2⟩:=vD.1 ha;simp only[AV.denL];rw[QSa r _ _ _ h1 a1,eqL_den r _ _ _ h2 a2]
end
theorem QPd{Q:List Pr}:∀{l l':List AV} {ps:List Prop},eqL Q l l'=some ps->l.length=l'.length
 | [],[],_,_=>rfl
 | [],_::_,_,h=>by simp[eqL]at h
 | _::_,[],_,h=>by simp[eqL]at h
 | v::l,v'::l',ps,h=>by
  simp only[eqL]at h;split at h<;>(try (cases h;done))
  rename_i p1 p2 h1 h2;simp only[List.length_cons,QPd h2]
theorem QPn(r:Nat->Loc)(a b:List AV):AV.denL r (a++b)=AV.denL r a++AV.denL r b:=by simp only[Q5,List.map_append]
theorem QN3{Q:List Pr}{hJ:List (Nat×Blk)}(r:Nat->Loc):∀(l l':List (List AV)) (ps:List Prop),GD Q l l'=some ps->KX ps->AV.denL r l.flatten=AV.denL (KH Q hJ r) l'.flatten/\l.length=l'.length/\∀ z,(∀ x∈l,x.length=z)->∀ x∈l',x.length=z
 | [],[],_,_,_=>⟨rfl,rfl,λ_ h=>h⟩
 | [],_::_,_,h,_=>by simp[GD]at h
 | _::_,[],_,h,_=>by simp[GD]at h
 | v::l,v'::l',ps,h,ha=>by
  simp only[GD]at h;split at h<;>(try (cases h;done))
  rename_i p1 p2 h1 h2;simp only[qsI]at h;subst h;obtain⟨a1,a2⟩:=vD.1 ha;obtain⟨e1,e2,e3⟩:=QN3 (hJ:=hJ) r l l' _ h2 a2;refine⟨?_,by simp only[List.length_cons,e2],λz hz x hx=>?_⟩
  .rw[List.flatten_cons,List.flatten_cons,QPn,QPn,eqL_den r _ _ _ h1 a1,e1]
  .rcases List.mem_cons.1 hx with rfl|hx
   .rw[<-QPd h1];exact hz v qmc
   .exact e3 z (λy hy=>hz y (List.mem_cons_of_mem _ hy)) x hx
