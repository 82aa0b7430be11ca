/- - -/
import Derived.Test.YtekbmehgcofnkaaGreatVh
import Derived.OrdersIn
import Derived.LoopNIn
namespace Go.SX
open Go Go.RowKit Go.Proofs.YtekbmehgcofnkaaGreat
def FW(rd:Option Nat):Fence:={ Fence.wide with round:=rd }
variable {a:Act}{w:World}{Q:AV->List (Nat×Blk)->Prop}{b:Bool}{nid n base:Nat}{i:Int}{ops:Array Oper}{p:Nat->Bool}{r:Nat->Loc}{x:Operand}{lk:Nat->Option Blk}(tm:List AV)(h:List (Nat×Blk))(d:Option Nat)(o:Oper)(t:Nat)(v:AV)
theorem vK{P:Program}{o:Oper}{K:Act->World->Prop}{Q:Exit->Act->World->Prop}{rd:Option Nat}(h:o.wp P a w K Q)(hd:∀ c,o.op ≠ .defer c):o.wpIn (FW rd) 0 P a w K Q:=by
 refine⟨λ_ _=>trivial,?_⟩;rw[Oper.semAt_eq _ _ _ hd];unfold Oper.wp at h;generalize (execOp a.eval o).run P w=res at h ⊢;cases res with
 | ok x w'=>
  cases x with
  | value v=>exact h
  | skip=>exact h
  | defer d=>exact h
  | enter f args=>exact⟨λh=>(by cases h),callsIn_wide.2 h⟩
  | row row args=>exact⟨λh=>(by cases h),λc cs _=>let ⟨v,w',r,s⟩:=h c cs;⟨v,w',r,stepsIn_wide.2 s⟩⟩
  | _=>exact h.elim
 | halt x w'=>cases x<;>exact h
structure Env where
 P:Program
 C:FuncId->Option FC
 M:TypeId->String->Option FuncId
 sp:Bool
 bi:Op->Bool
 jn:Bool
 gc:Bool
 fk:Bool
structure Env.Sound (E:Env):Prop where
 c:∀ f fc,E.C f=some fc->QS E.P f fc
 m:QBI E.P E.M
 mixed:E.P.follows .mixedOrders=true
structure St where
 tm:List AV
 hp:List (Nat×Blk)
 nid:Nat
def look:List (Nat×Blk)->Nat->Option Blk
 | [],_=>none
 | (i,b)::t,id=>match Nat.beq i id with
  | true=>(match b.live with|true=>some b|false=>none)
  | false=>look t id
theorem Kw(i:Nat)(b:Blk)(t:List (Nat×Blk))(id:Nat):look ((i,b)::t) id=if i==id then (if b.live then some b else none)else look t id:=by
 by_cases h:i=id
 .subst h;have:Nat.beq i i=true:=Nat.beq_refl i;simp only[look,this,beq_self_eq_true,if_true];cases b.live<;>rfl
 .have h1:Nat.beq i id=false:=by
   cases hb:Nat.beq i id with
   | true=>exact absurd (qnb hb) h
   | false=>rfl
  have h2:(i==id)=false:=by simpa using h
  simp only[look,h1,h2];rfl
def QDr(i:Nat)(b:Blk):List (Nat×Blk)->Option (List (Nat×Blk))
 | []=>none
 | (j,c)::t=>match Nat.beq j i with
  | true=>some ((i,b)::t)
  | false=>(match QDr i b t with
   | some t'=>some ((j,c)::t')
   | none=>none)
def QHh(p:Nat×Blk)(h:List (Nat×Blk)):List (Nat×Blk):=match QDr p.1 p.2 h with
 | some h'=>h'
 | none=>p::h
def vD:List (Nat×Blk)->List (Nat×Blk)->List (Nat×Blk)
 | [],h=>h
 | p::u,h=>QHh p (vD u h)
theorem QTP{i:Nat}{b:Blk}:∀{h h':List (Nat×Blk)},QDr i b h=some h'->∀ id,look h' id=look ((i,b)::h) id
 | [],h',e,_=>by cases e
 | (j,c)::t,h',e,id=>by
  simp only[QDr]at e;split at e
  .rename_i hj;have hj:=qnb hj;subst hj;simp only[qsI]at e;subst e;rw[Kw,Kw,Kw];split<;>rfl
  .rename_i hj;split at e
   .rename_i t' ht;simp only[qsI]at e;subst e;have ih:=QTP ht id;rw[Kw]at ih;rw[Kw,ih,Kw,Kw]
    by_cases h1:i=id
    .subst h1
     have:(j==i)=false:=by
      cases hb:(j==i)with
      | true => have : j = i := by simpa using hb
                subst this; rw[Nat.beq_refl]at hj; cases hj
      | false=>rfl
     simp only[this,beq_self_eq_true,if_true];rfl
    .have:(i==id)=false:=by simpa using h1
     simp only[this];rfl
   .cases e
theorem QiY(p:Nat×Blk)(h:List (Nat×Blk))(id:Nat):look (QHh p h) id=look (p::h) id:=by
 unfold QHh;split
 .rename_i h' e;exact QTP e id
 .rfl
theorem jK:∀(u h:List (Nat×Blk)) (id:Nat),look (vD u h) id=look (u++h) id
 | [],_,_=>rfl
 | (i,b)::u,h,id=>by
  rw[vD,QiY,List.cons_append,Kw,Kw,jK u h id]
def WI(h:List (Nat×Blk)):List Nat->Option (List Blk)
 | []=>some []
 | i::l=>match look h i with
  | none=>none
  | some b=>match WI h l with
   | none=>none
   | some bs=>some (b::bs)
theorem HU{h:List (Nat×Blk)}:∀{l:List Nat} {bs:List Blk},WI h l=some bs->l.map (look h)=bs.map some
 | [],bs,e=>by simp only[WI,qsI]at e;subst e;rfl
 | i::l,bs,e=>by
  simp only[WI]at e;split at e<;>(try (cases e;done))
  rename_i b hb;split at e<;>(try (cases e;done))
  rename_i bs' hbs;simp only[qsI]at e;subst e;simp only[List.map_cons,hb,HU hbs]
theorem XQ{h:List (Nat×Blk)}:∀{id:Nat} {b:Blk},look h id=some b->b.live=true:=by
 induction h with
 | nil=>intro id b e;simp[look]at e
 | cons p h ih=>
  intro id b e;obtain⟨i,b'⟩:=p;simp only[Kw]at e;split at e
  .split at e
   .rename_i hl;simp only[qsI]at e;subst e;exact hl
   .cases e
  .exact ih e
def evA:Operand->AV
 | .tmp t=>(tm[t]?).getD (.tup [])
 | .const v=>ofValue v
 | .global g => .addr ⟨g,0,none⟩
 | .func f => .fn (.func f) []
def QJ:AV:=(tm[t]?).getD (.tup [])
def setO:List AV:=match d with
 | some d=>tm.set d v
 | none=>tm
structure Rec where
 val:AV
 upd:List (Nat×Blk)
 ids:List Nat
inductive QC where
 | leaf (v:AV) (h:List (Nat×Blk))
 | br (b:Bool) (t e:QC)
 | need (b:Bool) (t:QC)
 | all (f:(Nat->Value)->QC)
 | asm (p:Prop) (t:QC)
 | ask (p:Prop) (t:QC)
 | both (a b:QC)
 | bnd (b:Bool) (f:Bool->QC)
 | bndI (n:Int) (f:Int->QC)
 | fail (why:String)
def QC.ak:List Prop->QC->QC
 |[],t=>t
 |p::s,t=>.ask p (QC.ak s t)
abbrev rz(n:Nat):List Prop:=List.replicate n (0=0)
def QC.den(Q:AV->List (Nat×Blk)->Prop):QC->Prop
 | .leaf v h=>Q v h
 | .br b t e=>(b=true->t.den Q)/\(b=false->e.den Q)
 | .need b t=>b=true/\t.den Q
 | .all f=>∀ g,(f g).den Q
 | .asm p t=>p->t.den Q
 | .ask p t=>p/\t.den Q
 | .both a b=>a.den Q/\b.den Q
 | .bnd b f=>∀ x,x=b->(f x).den Q
 | .bndI n f=>∀ x,x=n->(f x).den Q
 | .fail _=>False
def QDx(c b:Bool)(t:QC):QC:=match c with
 | true => (match b with | true => t | false => .fail "a condition is false")
 | false => .need b t
theorem QQw{c:Bool}{t:QC}(h:(QDx c b t).den Q):b=true/\t.den Q:=by
 cases c<;>cases b
 .exact h
 .exact h
 .exact h.elim
 .exact⟨rfl,h⟩
def Q3(r:Rec)(st:St):St:={ st with tm:=setO st.tm o.dst r.val,hp:=vD r.upd st.hp }
def QIK(id:Nat):Bool:=match look h id with
 | some b=>b.own
 | none=>false
def Wu(nid:Nat)(ids:List Nat)(h:List (Nat×Blk))(eff:Eff):Bool:=
 eff.val.all (·<nid+8)&&eff.upd.all (λp=>p.2.all (·<nid+8)&&(inR nid p.1||(ids.contains p.1&&QIK h p.1)))
def jc:List (Nat×Blk)->List Nat
 | []=>[]
 | (id,b)::h=>(match b.live with
  | true=>id::(jc h).filter (· != id)
  | false=>(jc h).filter (· != id))
def QDL(b:Bool)(v:AV)(K:AV->QC):QC:=match b with
 | false=>K v
 | true=>(match v with
  | .int false k n => .bndI n λx=>K (.int false k x)
  | v=>K v)
theorem QkV{v:AV}{K:AV->QC}(h:(QDL b v K).den Q):(K v).den Q:=by
 unfold QDL at h;split at h
 .exact h
 .split at h
  .exact h _ rfl
  .exact h
def qT(E:Env)(o:Oper)(nid:Nat)(st:St)(K:Rec->QC):QC:=
 match qe (E.gc && !E.sp) E.P E.C E.M o.op (evA st.tm) nid (jc st.hp)with
 | (ids,g)=>
  match WI st.hp ids with
  | none => .fail "a block that is not known"
  | some blks=>
   match g blks with
   | none => .fail o.pos
   | some eff => if Wu nid ids st.hp eff then QDx eff.known eff.pre (QDL (E.bi o.op) eff.val λv=>QAX E.gc QCa v λv=>K ⟨v, eff.upd, ids⟩) else .fail "scope"
structure Ran (E:Env) (o:Oper) (nid:Nat) (st:St) (rec:Rec):Prop where
 ran:∃ all g blks eff,qe (E.gc && !E.sp) E.P E.C E.M o.op (evA st.tm) nid all=(rec.ids,g)/\WI st.hp rec.ids=some blks/\g blks=some eff/\eff.pre=true/\Wu nid rec.ids st.hp eff=true/\rec.val=eff.val/\rec.upd=eff.upd
theorem QUA{E:Env}{o:Oper}{st:St}{K:Rec->QC}(h:(qT E o nid st K).den Q):∃ rec,Ran E o nid st rec/\(K rec).den Q:=by
 unfold qT at h;split at h;rename_i ids g hV;split at h
 .exact h.elim
 .rename_i blks hb;split at h
  .exact h.elim
  .rename_i eff he;split at h
   .rename_i hok;obtain⟨hp,hK⟩:=QQw h;have hK:=QkV hK;rw[HP QDA]at hK;exact⟨_,⟨_,g,blks,eff,hV,hb,he,hp,hok,rfl,rfl⟩,hK⟩
   .exact h.elim
theorem Ran.noDefer{E:Env}{o:Oper}{st:St}{rec:Rec}(h:Ran E o nid st rec):∀ c,o.op ≠ .defer c:=by
 intro c hc;obtain⟨all,g,blks,eff,hV,_,hg,_⟩:=h.ran;rw[hc]at hV;cases hgc:(E.gc && !E.sp)<;>rw[hgc]at hV<;>simp only[qe,ju,QCA,QAW,noV,qpI]at hV<;>rw[<-hV.2]at hg<;>cases hg
def XS(ops:Array Oper)(tm:List AV)(o:Oper):Option Bool:=
 match o.guard with
 | none=>some true
 | some (j,want)=>match (ops[j]?).bind (·.dst)with
  | none=>some false
  | some d=>match QJ tm d with
   | .bool true b=>some (b==want)
   | .tup _=>some false
   | .agg _=>some false
   | .int .. => some false
   | _=>none
def qh(d:Nat)(b:Bool):List AV:=tm.set d (.bool true b)
def QBg(ops:Array Oper)(tm:List AV)(o:Oper):Option (Nat×Bool):=
 match o.guard with
 | some (j,_)=>match (ops[j]?).bind (·.dst)with
  | none=>none
  | some d=>match QJ tm d with
   | .bool false b=>some (d,b)
   | _=>none
 | none=>match o.op with
  | .pick (.tmp d) _ _=>match QJ tm d with
   | .bool false b=>some (d,b)
   | _=>none
  | _=>none
def QAB(E:Env)(ops:Array Oper)(tm:List AV)(o:Oper):Option (Nat×IntKind×Int×Nat):=match E.fk with
 | false=>none
 | true=>match XS ops tm o with
  | some true=>match o.op with
   | .indexAddr t x (.tmp d)=>match E.P.underlying t,evA tm x,QJ tm d with
    | some (.array len _),.ptr _ _ _,.int false k i=>some (d,k,i,len)
    | _,_,_=>none
   | .index t x (.tmp d)=>match E.P.underlying t,evA tm x,QJ tm d with
    | some (.array len _),.agg _,.int false k i=>some (d,k,i,len)
    | _,_,_=>none
   | _=>none
  | _=>none
def QIs(i:Int):Nat->Nat->(Nat->QC)->QC
 | 0,m,f=>f m
 | n+1,m,f => .br (decide (i=m)) (f m) (QIs i n (m+1) f)
def QIx(i:Int)(len:Nat)(f:Nat->QC):QC := .need (decide (0<=i/\i<len)) (QIs i (len-1) 0 f)
theorem QOz{Q:AV->List (Nat×Blk)->Prop}{i:Int}{f:Nat->QC}:∀{n m:Nat},(QIs i n m f).den Q->(m:Int)<=i->i<=(m:Int)+n->∃ k:Nat,i=k/\(f k).den Q
 | 0,m,h,h1,h2=>⟨m,by omega,h⟩
 | n+1,m,h,h1,h2=>by
  by_cases e:i=m
  .exact⟨m,e,h.1 (qde e)⟩
  .exact QOz (h.2 (decide_eq_false e)) (by omega) (by omega)
theorem QLq{len:Nat}{f:Nat->QC}(h:(QIx i len f).den Q):∃ k:Nat,i=k/\(f k).den Q:=by
 have:=qdt h.1;exact QOz h.2 (by omega) (by omega)
theorem QOH{E:Env}{tm:List AV}{o:Oper}{d:Nat}{k:IntKind}{len:Nat}(h:QAB E ops tm o=some (d,k,i,len)):QJ tm d = .int false k i:=by
 unfold QAB at h;split at h<;>(try (cases h;done))
 split at h<;>(try (cases h;done))
 split at h<;>(try (cases h;done))
 all_goals
  split at h<;>(try (cases h;done))
  rename_i hg;simp only[qsI,qpI]at h;obtain⟨rfl,rfl,rfl,_⟩:=h;exact hg
def Je:AV->AV
 | .opt _ v=>v
 | v=>v
def gdB(want b:Bool):Bool:=match want with
 | true=>b
 | false => !b
def zQ(ops:Array Oper)(tm:List AV)(o:Oper):Option Bool:=match o.guard with
 | some (j,want)=>match (ops[j]?).bind (·.dst)with
  | some d=>match QJ tm d with
   | .bool false b=>some (gdB want b)
   | .opt b' (.bool _ b)=>some (b'&&gdB want b)
   | _=>none
  | none=>none
 | none=>none
def Zd:AV->List Bool
 | .opt b _=>[b]
 | _=>[]
def GE:List Bool->Option Bool
 | []=>none
 | b::l=>match GE l with
  | none=>some b
  | some c=>some (b&&c)
theorem QKg:∀{l:List Bool},(∀ c,GE l=some c->c=true)->∀ b∈l,b=true
 | [],_,b,hb=>by cases hb
 | x::l,h,b,hb=>by
  cases hl:GE l with
  | none=>
   have hx:x=true:=h x (by simp only[GE,hl])
   rcases List.mem_cons.1 hb with rfl|hb
   .exact hx
   .exact QKg (λc hc=>by rw[hl]at hc;cases hc) b hb
  | some c=>
   have hx:(x&&c)=true:=h (x&&c) (by simp only[GE,hl])
   rw[qbA]at hx;rcases List.mem_cons.1 hb with rfl|hb
   .exact hx.1
   .exact QKg (λc' hc=>by rw[hl]at hc;cases hc;exact hx.2) b hb
def QBG(tm:List AV):List Operand->List Bool
 | []=>[]
 | x::l=>Zd (evA tm x)++QBG tm l
def gOf:Option Bool->Bool
 | none=>true
 | some g=>g
def QX4:Option Bool->AV->AV
 | none,v=>v
 | some g,v => .opt g v
def G8(g:Option Bool)(l:List Bool):Option Bool:=match GE l with
 | none=>none
 | some c=>(match g with
  | none=>some c
  | some g=>some (!g||c))
def okO(n:Option Bool):Prop:=∀ c,n=some c->c=true
theorem QNH{g:Option Bool}{l:List Bool}(h:okO (G8 g l))(hg:gOf g=true):∀ b∈l,b=true:=by
 refine QKg λc hc=>?_;unfold G8 at h;rw[hc]at h;cases g with
 | none=>exact h _ rfl
 | some g=>
  simp only[gOf]at hg;subst hg;have:=h _ rfl;simpa using this
def QBH(n:Option Bool)(t:QC):QC:=match n with
 | none=>t
 | some b => .need b t
theorem QGd{n:Option Bool}{t:QC}(h:(QBH n t).den Q):okO n/\t.den Q:=by
 cases n with
 | none=>exact⟨λc hc=>(by cases hc),h⟩
 | some b=>exact⟨λc hc=>(by cases hc;exact h.1),h.2⟩
def QEg(known pre:Bool):List Bool:=match known with
 | true=>(match pre with|true=>[]|false=>[false])
 | false=>[pre]
theorem Qhs{known pre:Bool}(h:∀ b∈QEg known pre,b=true):pre=true:=by
 cases known<;>cases pre<;>first|rfl|exact h _ (by simp[QEg])
def QKx(E:Env)(o:Oper)(nid:Nat)(st:St)(g:Bool):Option (Option Bool×Rec):=
 match qe (E.gc && !E.sp) E.P E.C E.M o.op (evA (st.tm.map Je)) nid (jc st.hp)with
 | (ids,gg)=>match WI st.hp ids with
  | none=>none
  | some blks=>match gg blks with
   | none=>none
   | some eff=>match eff.upd,Wu nid ids st.hp eff with
    | [],true=>(match G8 (some g) (QEg eff.known eff.pre++QBG st.tm o.op.operands.toList)with
     | none=>some (none,⟨.opt g eff.val,[],ids⟩)
     | some c=>some (some c,⟨.opt g eff.val,[],ids⟩))
    | _,_=>none
structure qI (E:Env) (ops:Array Oper) (o:Oper) (n:Nat) (st:St) (g:Bool) (u:AV) (ids:List Nat):Prop where
 gd:∀(a:Act) (r:Nat->Loc),(∀ t,t∈o.looksAt ops->a.tmps.getD t undef=(QJ st.tm t).den r)->Region.wanted o (yielded ops a.tmps)=g
 sc:u.all (·<n+8)=true
 off:g=false->∀ r,u.den r=undef
 run:g=true->∃ tm' v',tm'.length=st.tm.length/\(∀ x∈o.op.operands,∀ r,(evA tm' x).den r=(evA st.tm x).den r)/\(∀ t p,(QJ st.tm t).all p=true->(QJ tm' t).all p=true)/\Ran E o n { st with tm:=tm' } ⟨v',[],ids⟩/\∀ r,v'.den r=u.den r
theorem QNe:QJ (tm.map Je) t=Je (QJ tm t):=by
 unfold QJ;rw[List.getElem?_map];cases tm[t]? <;> rfl
theorem QQV(h:v.all p=true):(Je v).all p=true:=by cases v<;>exact h
theorem QH9{v:AV}(h:∀ b∈Zd v,b=true)(r:Nat->Loc):(Je v).den r=v.den r:=by
 cases v with
 | opt b v=>have:=h b (by simp[Zd]);subst this;simp only[Je,AV.den]
 | _=>rfl
theorem QdD(x:Operand):evA (tm.map Je) x=Je (evA tm x)∨evA (tm.map Je) x=evA tm x:=by
 cases x with
 | tmp t=>exact .inl (QNe tm t)
 | _=>exact .inr rfl
theorem QPa{tm:List AV}{r:Nat->Loc}:∀{l:List Operand},(∀ b∈QBG tm l,b=true)->∀ x∈l,(evA (tm.map Je) x).den r=(evA tm x).den r
 | [],_,x,hx=>by cases hx
 | y::l,h,x,hx=>by
  simp only[QBG,List.mem_append]at h;rcases List.mem_cons.1 hx with rfl|hx
  .rcases QdD tm x with e|e
   .rw[e];exact QH9 (λb hb=>h b (.inl hb)) r
   .rw[e]
  .exact QPa (λb hb=>h b (.inr hb)) x hx
theorem QBu{tm:List AV}{o:Oper}{x:Bool}(h:XS ops tm o=some x)(ha:∀ t,t∈o.looksAt ops->a.tmps.getD t undef=(QJ tm t).den r):
  Region.wanted o (yielded ops a.tmps)=x:=by
 unfold XS at h;unfold Region.wanted;cases hg:o.guard with
 | none=>simp only[hg,qsI]at h;subst h;rfl
 | some q=>
  obtain⟨j,want⟩:=q;simp only[hg]at h ⊢;unfold yielded;cases hd:(ops[j]?).bind (·.dst)with
  | none=>simp only[hd,qsI]at h;subst h;rfl
  | some d=>
   simp only[hd,Option.bind_some]at h ⊢;have had:=ha d (by unfold Oper.looksAt;simp[hg,hd])
   have key:∀ v,(QJ tm d).den r=v->v≠undef/\a.tmps[d]? = some v∨v=undef/\(a.tmps[d]? = none∨a.tmps[d]? = some undef):=by
    intro v hv;rw[hv]at had;cases hq:a.tmps[d]? with
    | none=>simp[hq]at had;exact .inr ⟨had.symm,.inl rfl⟩
    | some u => simp[hq]at had; subst had; by_cases hu : u = undef
                . subst hu; exact .inr ⟨rfl,.inr rfl⟩
                . exact .inl ⟨hu,rfl⟩
   split at h<;>(try (cases h;done))<;>rename_i he<;>simp only[qsI]at h<;>subst h<;>rw[he]at key
   .rcases key _ rfl with ⟨_,h2⟩|⟨h2,_⟩
    .rw[h2];simp[AV.den]
    .simp[AV.den,undef]at h2
   .rcases key _ rfl with ⟨_,h2⟩|⟨_,h2|h2⟩<;>rw[h2]<;>rfl
   .rcases key _ rfl with ⟨_,h2⟩|⟨_,h2|h2⟩<;>rw[h2]<;>rfl
   .rcases key _ rfl with ⟨_,h2⟩|⟨_,h2|h2⟩<;>rw[h2]<;>rfl
theorem QQf{tm:List AV}{o:Oper}{g:Bool}(h:zQ ops tm o=some g)(ha:∀ t,t∈o.looksAt ops->a.tmps.getD t undef=(QJ tm t).den r):
  Region.wanted o (yielded ops a.tmps)=g:=by
 unfold zQ at h;unfold Region.wanted;cases hg:o.guard with
 | none=>simp only[hg]at h;cases h
 | some q=>
  obtain⟨j,want⟩:=q;simp only[hg]at h ⊢;unfold yielded;cases hd:(ops[j]?).bind (·.dst)with
  | none=>simp only[hd]at h;cases h
  | some d=>
   simp only[hd,Option.bind_some]at h ⊢;have had:=ha d (by unfold Oper.looksAt;simp[hg,hd])
   have key:∀ v,(QJ tm d).den r=v->v≠undef/\a.tmps[d]? = some v∨v=undef/\(a.tmps[d]? = none∨a.tmps[d]? = some undef):=by
    intro v hv;rw[hv]at had;cases hq:a.tmps[d]? with
    | none=>simp[hq]at had;exact .inr ⟨had.symm,.inl rfl⟩
    | some u => simp[hq]at had; subst had; by_cases hu : u = undef
                . subst hu; exact .inr ⟨rfl,.inr rfl⟩
                . exact .inl ⟨hu,rfl⟩
   split at h<;>(try (cases h;done))
   .rename_i b he;simp only[qsI]at h;subst h;rw[he]at key;rcases key _ rfl with ⟨_,h2⟩|⟨h2,_⟩
    .rw[h2];cases want<;>cases b<;>rfl
    .simp[AV.den,undef]at h2
   .rename_i b' k b he;simp only[qsI]at h;subst h;rw[he]at key;cases b' with
    | true=>
     rcases key _ rfl with ⟨_,h2⟩|⟨h2,_⟩
     .rw[h2];cases want<;>cases b<;>rfl
     .simp[AV.den,undef]at h2
    | false=>
     rcases key _ rfl with ⟨h1,_⟩|⟨_,h2|h2⟩
     .exact absurd rfl h1
     .rw[h2];rfl
     .rw[h2];rfl
theorem Qf4{E:Env}{o:Oper}{st:St}{g:Bool}{m:Option Bool}{rec:Rec}(h:QKx E o n st g=some (m,rec))(hg:zQ ops st.tm o=some g)(hb:okO m):rec=⟨rec.val,[],rec.ids⟩/\qI E ops o n st g rec.val rec.ids:=by
 unfold QKx at h;split at h;rename_i ids gg hV;split at h<;>(try (cases h;done))
 rename_i blks hbl;split at h<;>(try (cases h;done))
 rename_i eff he;split at h<;>(try (cases h;done))
 rename_i hu hok
 obtain⟨h1,rfl⟩:m=G8 (some g) (QEg eff.known eff.pre++QBG st.tm o.op.operands.toList)/\rec=⟨.opt g eff.val,[],ids⟩:=by
  split at h<;>rename_i hi<;>simp only[qsI,qpI]at h<;>exact⟨h.1.symm.trans hi.symm,h.2.symm⟩
 rw[h1]at hb;refine⟨rfl,λa r ha=>QQf hg ha,?_,λhgf _=>by subst hgf;rfl,λhgt=>?_⟩
 .unfold Wu at hok;simp only[qbA]at hok;exact hok.1
 have hall:=QNH hb (by exact hgt)
 simp only[List.mem_append]at hall;refine⟨st.tm.map Je,eff.val,by simp,λx hx r=>QPa (λb hb=>hall b (.inr hb)) x (by simpa using hx),λt p hp=>?_,⟨_,gg,blks,eff,hV,hbl,he,?_,hok,rfl,hu.symm⟩,λ_=>by subst hgt;rfl⟩
 .rw[QNe];exact QQV _ hp
 .exact Qhs λb hb=>hall b (.inl hb)
def QAH(E:Env)(ops:Array Oper)(o:Oper)(nid:Nat)(st:St):Option (Option Bool×Rec):=match E.sp with
 | true=>(match zQ ops st.tm o with
  | some g=>QKx E o nid st g
  | none=>none)
 | false=>none
theorem QTh{E:Env}{o:Oper}{st:St}{m:Option Bool}{rec:Rec}(h:QAH E ops o n st=some (m,rec))(hb:okO m):∃ g,rec=⟨rec.val,[],rec.ids⟩/\qI E ops o n st g rec.val rec.ids:=by
 unfold QAH at h;split at h<;>(try (cases h;done))
 split at h<;>(try (cases h;done))
 rename_i g hg;exact⟨g,Qf4 h hg hb⟩
def QCc(x kp p kq q:Bool):Bool:=match kp with
 | true=>(match p with|true=>x||q|false => !x&&q)
 | false=>(match kq with
  | true=>(match q with|true => !x||p|false=>x&&p)
  | false=>cond x p q)
theorem QOt(x kp p kq q:Bool):QCc x kp p kq q=(match x with|true=>p|false=>q):=by cases x<;>cases kp<;>cases p<;>cases kq<;>cases q<;>rfl
def QJQ(ops:Array Oper)(tm:List AV)(o:Oper):Option (Option Bool):=match o.guard with
 | none=>some none
 | some _=>match XS ops tm o with
  | some true=>some none
  | some false=>none
  | none=>match zQ ops tm o with
   | some g=>some (some g)
   | none=>none
structure Pk where
 n:Option Bool
 g:Option Bool
 e:Bool
def Pk.rec_(p:Pk)(y:Bool):Rec:=⟨QX4 p.g (.bool false y),[],[]⟩
def QAv(E:Env)(ops:Array Oper)(o:Oper)(tm:List AV):Option Pk:=match E.sp with
 | false=>none
 | true=>match o.op with
  | .pick (.tmp d) a b=>match Je (QJ tm d)with
   | .bool false x=>match Je (evA tm a),Je (evA tm b)with
    | .bool kp p,.bool kq q=>match QJQ ops tm o with
     | some g=>(match G8 g (Zd (QJ tm d)++((Zd (evA tm a)).map (!x||·)++(Zd (evA tm b)).map (x||·)))with
      | none=>some ⟨none,g,QCc x kp p kq q⟩
      | some c=>some ⟨some c,g,QCc x kp p kq q⟩)
     | none=>none
    | _,_=>none
   | _=>none
  | _=>none
theorem QdH{tm:List AV}{o:Oper}{g:Option Bool}(h:QJQ ops tm o=some g)(ha:∀ t,t∈o.looksAt ops->a.tmps.getD t undef=(QJ tm t).den r):
  Region.wanted o (yielded ops a.tmps)=gOf g:=by
 unfold QJQ at h;split at h
 .rename_i hn;simp only[qsI]at h;subst h;unfold Region.wanted;rw[hn];rfl
 .split at h
  .rename_i hv;simp only[qsI]at h;subst h;exact QBu hv ha
  .cases h
  .split at h<;>(try (cases h;done))
   rename_i hb;simp only[qsI]at h;subst h;exact QQf hb ha
def Xh:Operand->List AV
 | .tmp t=>tm.set t (Je (QJ tm t))
 | _=>tm
theorem zv(d t:Nat)(v:AV):QJ (tm.set d v) t=if d=t/\d<tm.length then v else QJ tm t:=by
 unfold QJ;rw[List.getElem?_set]
 by_cases h:d=t
 .subst h
  by_cases g:d<tm.length
  .simp[g]
  .simp[g]
 .simp[h]
theorem QMa(x:Operand)(t:Nat):QJ (Xh tm x) t=QJ tm t∨QJ (Xh tm x) t=Je (QJ tm t)/\x = .tmp t:=by
 unfold Xh;split
 .rename_i s;rw[zv];split
  .rename_i h;rw[<-h.1];exact .inr ⟨rfl,rfl⟩
  .exact .inl rfl
 .exact .inl rfl
theorem QZ3{tm:List AV}{k:Bool}(h:Je (evA tm x) = .bool k b):evA (Xh tm x) x = .bool k b∨∃ k',evA (Xh tm x) x = .bool k' b:=by
 unfold Xh;split
 .rename_i s;have e:evA (tm.set s (Je (QJ tm s))) (.tmp s)=QJ (tm.set s (Je (QJ tm s))) s:=rfl;rw[e,zv];split
  .exact .inl h
  .rename_i hn
   have:QJ tm s = .tup []:=by
    unfold QJ;rw[List.getElem?_eq_none (by simpa using hn)];rfl
   have h':Je (QJ tm s) = .bool k b:=h;rw[this]at h';cases h'
 .rename_i hx;cases x with
  | tmp t=>exact absurd rfl (hx t)
  | const v=>
   left;show ofValue v=_;have h':Je (ofValue v) = .bool k b:=h;cases hv:ofValue v with
   | opt b w=>
    exfalso;unfold ofValue at hv;split at hv<;>(try (cases hv;done))
    unfold XL at hv;split at hv<;>cases hv
   | _=>rw[hv]at h';first|exact h'|cases h'
  | _=>cases h
theorem QUy{E:Env}{o:Oper}{st:St}{p:Pk}(h:QAv E ops o st.tm=some p)(hb:okO p.n):qI E ops o n st (gOf p.g) (p.rec_ p.e).val (p.rec_ p.e).ids:=by
 unfold QAv at h;split at h<;>(try (cases h;done))
 split at h<;>(try (cases h;done))
 rename_i d a b hop;split at h<;>(try (cases h;done))
 rename_i x hc;split at h<;>(try (cases h;done))
 rename_i kp p' kq q ha hbv;split at h<;>(try (cases h;done))
 rename_i g hg
 obtain⟨e1,rfl,e3⟩:p.n=G8 g (Zd (QJ st.tm d)++((Zd (evA st.tm a)).map (!x||·)++(Zd (evA st.tm b)).map (x||·)))/\p.g=g/\p.e=QCc x kp p' kq q:=by
  split at h<;>rename_i hi<;>simp only[qsI]at h<;>subst h<;>exact⟨hi.symm,rfl,rfl⟩
 rw[e1]at hb;refine⟨λa r ha=>QdH hg ha,?_,?_,λhgt=>?_⟩
 .unfold Pk.rec_;cases p.g<;>rfl
 .intro hgf r;unfold Pk.rec_;cases hpg:p.g with
  | none=>rw[hpg]at hgf;cases hgf
  | some g=>rw[hpg]at hgf;simp only[gOf]at hgf;subst hgf;rfl
 have hall:=QNH hb hgt;simp only[List.mem_append]at hall
 have hu:∀ y r,((p.rec_ y).val).den r = .bool y:=by
  intro y r;unfold Pk.rec_;cases hpg:p.g with
  | none=>rfl
  | some g=>rw[hpg]at hgt;simp only[gOf]at hgt;subst hgt;rfl
 obtain⟨arm,k,v,harm,hev,hcond,hv⟩:∃ (arm:Operand) (k v:Bool),arm=(match x with|true=>a|false=>b)/\Je (evA st.tm arm) = .bool k v/\(∀ c∈Zd (evA st.tm arm),c=true)/\QCc x kp p' kq q=v:=by
  cases x with
  | true=>exact⟨a,kp,p',rfl,ha,λc hcm=>by
    have:=hall (!true||c) (.inr (.inl (List.mem_map.2 ⟨c,hcm,rfl⟩)))
    simpa using this,QOt _ _ _ _ _⟩
  | false=>exact⟨b,kq,q,rfl,hbv,λc hcm=>by
    have:=hall (false||c) (.inr (.inr (List.mem_map.2 ⟨c,hcm,rfl⟩)))
    simpa using this,QOt _ _ _ _ _⟩
 have hdl:d<st.tm.length:=by
  rcases Nat.lt_or_ge d st.tm.length with h|h
  .exact h
  .unfold QJ at hc;rw[List.getElem?_eq_none h]at hc;cases hc
 have hbl:(Xh st.tm arm).length=st.tm.length:=by unfold Xh;split<;>simp
 have hden:∀ t r,(QJ ((Xh st.tm arm).set d (.bool true x)) t).den r=(QJ st.tm t).den r:=by
  intro t r;rw[zv];split
  .rename_i hd;rw[<-hd.1,<-QH9 (λc hcm=>hall c (.inl hcm)) r,hc];rfl
  .rcases QMa st.tm arm t with e|⟨e,harm'⟩
   .rw[e]
   .rw[e];refine QH9 (λc hcm=>hcond c ?_) r;rw[harm'];exact hcm
 have hevd:evA ((Xh st.tm arm).set d (.bool true x)) (.tmp d) = .bool true x:=by
  show QJ _ d=_;rw[zv,if_pos ⟨rfl,by rw[hbl];exact hdl⟩]
 have heva:∃ k',evA ((Xh st.tm arm).set d (.bool true x)) arm = .bool k' v:=by
  have h1:∃ k',evA (Xh st.tm arm) arm = .bool k' v:=by
   rcases QZ3 hev with h|h
   .exact⟨_,h⟩
   .exact h
  cases harm2:arm with
  | tmp t=>
   show ∃ k',QJ _ t=_;rw[zv];split
   .rename_i hd;have h2:Je (QJ st.tm t) = .bool k v:=by rw[harm2]at hev;exact hev
    rw[<-hd.1,hc]at h2;cases h2;exact⟨true,rfl⟩
   .rw[harm2]at h1;exact h1
  | const c=>rw[harm2]at h1;exact h1
  | global c=>rw[harm2]at h1;exact h1
  | func c=>rw[harm2]at h1;exact h1
 obtain⟨k',heva⟩:=heva;refine⟨(Xh st.tm arm).set d (.bool true x),.bool k' v,by simp[hbl],λy _ r=>?_,λt pp hp=>?_,⟨jc st.hp,λ_=>some ⟨true,true,.bool k' v,[]⟩,[],⟨true,true,.bool k' v,[]⟩,?_,rfl,rfl,rfl,rfl,rfl,rfl⟩,λr=>?_⟩
 .cases y with
  | tmp t=>exact hden t r
  | _=>rfl
 .rw[zv];split
  .rfl
  .rcases QMa st.tm arm t with e|⟨e,_⟩
   .rw[e];exact hp
   .rw[e];exact QQV _ hp
 .rw[hop]
  have hvop:QAW E.P (.pick (.tmp d) a b) (evA ((Xh st.tm arm).set d (.bool true x)))=okE (.bool k' v):=by
   simp only[QAW,hevd];cases x with
   | true=>simp only at harm;rw[<-harm,heva]
   | false=>simp only at harm;rw[<-harm,heva]
  simp only[‹E.sp=true›,Bool.not_true,Bool.and_false,qe,ju,QCA,hvop,okE];rfl
 .rw[hu,e3,hv];rfl
def Z7(E:Env)(ops:Array Oper)(base:Nat):Nat->List Oper->St->(List Rec->St->QC)->QC
 | _,[],st,K=>K [] st
 | k,o::l,st,K=>
  let go:=λ(st:St)=>match XS ops st.tm o with
   | some true=>qT E o (base+8*k) st λrec=>Z7 E ops base (k+1) l (Q3 o rec st) λrs st'=>K (rec::rs) st'
   | some false=>Z7 E ops base (k+1) l (Q3 o ⟨.tup [],[],[]⟩ st) λrs st'=>K (⟨.tup [],[],[]⟩::rs) st'
   | none => .fail "a guard"
  match QAv E ops o st.tm with
  | some p=>QBH p.n (.bnd p.e λy=>Z7 E ops base (k+1) l (Q3 o (p.rec_ y) st) λrs st'=>K (p.rec_ y::rs) st')
  | none=>match QAH E ops o (base+8*k) st with
   | some (n,rec)=>QBH n (Z7 E ops base (k+1) l (Q3 o rec st) λrs st'=>K (rec::rs) st')
   | none=>match QBg ops st.tm o with
    | none=>(match QAB E ops st.tm o with
     | none=>go st
     | some (d,k,i,len)=>QIx i len λm=>go { st with tm:=st.tm.set d (.int true k m) })
    | some (d,b) => .br b (go { st with tm:=qh st.tm d true }) (go { st with tm:=qh st.tm d false })
def Eqv(tm tm':List AV):Prop:=tm.length=tm'.length/\∀ t,(∀ r,(QJ tm t).den r=(QJ tm' t).den r)/\∀ p,(QJ tm t).all p=(QJ tm' t).all p
theorem QAx(d t:Nat)(v:AV):QJ (tm.set d v) t=if d=t/\d<tm.length then v else QJ tm t:=by
 unfold QJ;rw[List.getElem?_set]
 by_cases h:d=t
 .subst h
  by_cases g:d<tm.length
  .simp[g]
  .simp[g]
 .simp[h]
theorem QCi{tm:List AV}{d:Nat}{c:Bool}(h:QJ tm d = .bool c b)(b':Bool)(hb:b=b'):Eqv tm (qh tm d b'):=by
 subst hb;refine⟨by simp[qh],λt=>?_⟩
 unfold qh;rw[QAx];split
 .rename_i e;rw[<-e.1,h];exact⟨λ_=>rfl,λ_=>rfl⟩
 .exact⟨λ_=>rfl,λ_=>rfl⟩
theorem QPr{tm:List AV}{d:Nat}{k:IntKind}(h:QJ tm d = .int false k i)(m:Nat)(hm:i=m):Eqv tm (tm.set d (.int true k m)):=by
 subst hm;refine⟨by simp,λt=>?_⟩
 rw[QAx];split
 .rename_i e;rw[<-e.1,h];exact⟨λ_=>rfl,λ_=>rfl⟩
 .exact⟨λ_=>rfl,λ_=>rfl⟩
theorem Eqv.refl:Eqv tm tm:=⟨rfl,λ_=>⟨λ_=>rfl,λ_=>rfl⟩⟩
theorem Eqv.symm{a b:List AV}(h:Eqv a b):Eqv b a:=⟨h.1.symm,λt=>⟨λr=>((h.2 t).1 r).symm,λp=>((h.2 t).2 p).symm⟩⟩
theorem Eqv.trans{a b c:List AV}(h:Eqv a b)(k:Eqv b c):Eqv a c:=⟨h.1.trans k.1,λt=>⟨λr=>((h.2 t).1 r).trans ((k.2 t).1 r),λp=>((h.2 t).2 p).trans ((k.2 t).2 p)⟩⟩
theorem QBv:(setO tm d v).length=tm.length:=by cases d<;>simp[setO]
theorem Zl(t:Nat):QJ (setO tm d v) t=if d=some t/\t<tm.length then v else QJ tm t:=by
 cases d with
 | none=>simp[setO]
 | some d=>
  simp only[setO,QAx,qsI]
  by_cases h:d=t
  .subst h;rfl
  .simp[h]
theorem Eqv.setO{a b:List AV}(h:Eqv a b)(d:Option Nat)(v:AV):Eqv (setO a d v) (setO b d v):=by
 refine⟨by rw[QBv,QBv,h.1],λt=>?_⟩
 rw[Zl,Zl,h.1];split
 .exact⟨λ_=>rfl,λ_=>rfl⟩
 .exact h.2 t
inductive YF (E:Env) (ops:Array Oper) (base:Nat):Nat->List Oper->St->List Rec->St->Prop
 | nil {k st}:YF E ops base k [] st [] st
 | run {k o l st tm rec rs st'} (he:Eqv st.tm tm) (hg:XS ops tm o=some true) (h:Ran E o (base+8*k) { st with tm:=tm } rec)
   (hr:YF E ops base (k+1) l (Q3 o rec { st with tm:=tm }) rs st'):YF E ops base k (o::l) st (rec::rs) st'
 | skip {k o l st tm rs st'} (he:Eqv st.tm tm) (hg:XS ops tm o=some false)
   (hr:YF E ops base (k+1) l (Q3 o ⟨.tup [],[],[]⟩ { st with tm:=tm }) rs st'):YF E ops base k (o::l) st (⟨.tup [],[],[]⟩::rs) st'
 | spec {k o l st g u ids rs st'} (h:qI E ops o (base+8*k) st g u ids)
   (hr:YF E ops base (k+1) l (Q3 o ⟨u,[],ids⟩ st) rs st'):YF E ops base k (o::l) st (⟨u,[],ids⟩::rs) st'
theorem QVP{tm:List AV}{o:Oper}{d:Nat}(h:QBg ops tm o=some (d,b)):QJ tm d = .bool false b:=by
 unfold QBg at h;split at h
 .split at h
  .cases h
  .split at h
   .rename_i hg;simp only[qsI,qpI]at h;obtain⟨rfl,rfl⟩:=h;exact hg
   .cases h
 .split at h
  .split at h
   .rename_i hg;simp only[qsI,qpI]at h;obtain⟨rfl,rfl⟩:=h;exact hg
   .cases h
  .cases h
theorem QCQ{E:Env}{ops:Array Oper}{base:Nat}{Q:AV->List (Nat×Blk)->Prop}:∀(l:List Oper) (k:Nat) (st:St) (K:List Rec->St->QC),(Z7 E ops base k l st K).den Q ->
  ∃ rs st',YF E ops base k l st rs st'/\(K rs st').den Q
 | [],k,st,K,h=>⟨[],st,.nil,h⟩
 | o::l,k,st,K,h=>by
  have go:∀ tm,Eqv st.tm tm->(match XS ops tm o with
   | some true=>qT E o (base+8*k) { st with tm:=tm } λrec=>Z7 E ops base (k+1) l (Q3 o rec { st with tm:=tm }) λrs st'=>K (rec::rs) st'
   | some false=>Z7 E ops base (k+1) l (Q3 o ⟨.tup [],[],[]⟩ { st with tm:=tm }) λrs st'=>K (⟨.tup [],[],[]⟩::rs) st'
   | none => .fail "a guard" : QC).den Q -> ∃ rs st', YF E ops base k (o :: l) st rs st' /\ (K rs st').den Q := by
   intro tm he h;split at h
   .rename_i hg;obtain⟨rec,h1,h2⟩:=QUA h;obtain⟨rs,st',h3,h4⟩:=QCQ l _ _ _ h2;exact⟨_,_,.run he hg h1 h3,h4⟩
   .rename_i hg;obtain⟨rs,st',h3,h4⟩:=QCQ l _ _ _ h;exact⟨_,_,.skip he hg h3,h4⟩
   .exact h.elim
  simp only[Z7]at h;split at h
  .rename_i p hs;obtain⟨hb,h⟩:=QGd h;have hsp:=QUy (n:=base+8*k) hs hb;obtain⟨rs,st',h3,h4⟩:=QCQ l _ _ _ (h _ rfl);exact⟨_,_,.spec hsp h3,h4⟩
  split at h
  .rename_i m rec hs;obtain⟨hb,h⟩:=QGd h;obtain⟨g,e,hsp⟩:=QTh hs hb;obtain⟨rs,st',h3,h4⟩:=QCQ l _ _ _ h;rw[e]at h3 h4;exact⟨_,_,.spec hsp h3,h4⟩
  split at h
  .split at h
   .exact go st.tm (Eqv.refl _) h
   .rename_i d k' i len ha;obtain⟨m,e,h⟩:=QLq h;exact go _ (QPr (QOH ha) m e) h
  .rename_i d b ha;have hs:=QVP ha;cases hb:b with
   | true=>exact go _ (QCi hs true hb) (h.1 hb)
   | false=>exact go _ (QCi hs false hb) (h.2 hb)
structure Ctx where
 w:World
 ch:Nat->Prop
 n:Nat
 r:Nat->Loc
 rd:Option Nat
def QAJ(b:Nat):Deferred:={ target := .collected b,args := #[] }
def Dfr(G:Ctx)(r:Nat->Loc)(lk:Nat->Option Blk)(a:Act):Prop:=∃ bs:List Nat,a.defers=bs.map QAJ/\bs.Nodup/\∀ b∈bs,G.w.heap.size<=b/\∃ id,G.n<=id/\lk id=some .dfr/\(r id).foot b
theorem Dfr.none{G:Ctx}(h:a.defers=[]):Dfr G r lk a:=⟨[],h,List.nodup_nil,by simp⟩
theorem Dfr.to{G:Ctx}{r':Nat->Loc}{lk':Nat->Option Blk}{a':Act}(h:Dfr G r lk a)(ha:a'.defers=a.defers)(hl:∀ id,G.n<=id->lk id=some .dfr->lk' id=some .dfr/\r' id=r id):Dfr G r' lk' a':=by
 obtain⟨bs,h1,h2,h3⟩:=h;refine⟨bs,ha.trans h1,h2,λb hb=>?_⟩;obtain⟨k0,id,k1,k2,k3⟩:=h3 b hb;obtain⟨j1,j2⟩:=hl id k1 k2;exact⟨k0,id,k1,j1,by rw[j2];exact k3⟩
structure Inv (G:Ctx) (N:Nat) (r:Nat->Loc) (tf:Nat->AV) (lk:Nat->Option Blk) (a:Act) (w:World):Prop where
 size:a.tmps.size=N
 defers:Dfr G r lk a
 tm:∀ t,a.tmps.getD t undef=(tf t).den r
 rep:∀ id b,lk id=some b->QN r id w b
 live:∀ id b,lk id=some b->b.live=true
 sep:∀ id id' b b',lk id=some b->lk id'=some b'->id≠id'->b.own=true->∀ k,Qo r id b k->¬ Qo r id' b' k
 ext:∀ id,id<G.n->r id=G.r id
 fr:Fr G.w w G.ch
 own:∀ id b,lk id=some b->b.own=true->∀ k,Qo r id b k->G.ch k∨G.w.heap.size<=k
structure GI (nid:Nat) (tf:Nat->AV) (lk:Nat->Option Blk):Prop where
 tm:∀ t,(tf t).all (λi=>!inR nid i)=true
 out:∀ id b,lk id=some b->inR nid id=false
 blk:∀ id b,lk id=some b->b.all (λi=>!inR nid i)=true
def vS(N:Nat)(tf:Nat->AV)(d:Option Nat)(v:AV):Nat->AV:=λt=>if d=some t/\t<N then v else tf t
def Jp(u:List (Nat×Blk))(lk:Nat->Option Blk)(id:Nat):Option Blk:=match u with
 | []=>lk id
 | (i,b)::t=>if i==id then (if b.live then some b else none)else Jp t lk id
theorem QAD{u:List (Nat×Blk)}{id:Nat}{b:Blk}(h:Jp u lk id=some b):(∃ p∈u,p.1=id/\p.2=b/\b.live=true)∨(lk id=some b/\∀ p∈u,p.1≠id):=by
 induction u with
 | nil=>exact .inr ⟨h,by simp⟩
 | cons p u ih=>
  obtain⟨i,b'⟩:=p;simp only[Jp]at h;split at h
  .rename_i he;have he:i=id:=by simpa using he
   split at h
   .rename_i hl;simp only[qsI]at h;subst h;exact .inl ⟨(i,b'),by simp,he,rfl,hl⟩
   .cases h
  .rename_i he;have he:i≠id:=by simpa using he
   rcases ih h with ⟨p,hp,h1⟩|⟨h1,h2⟩
   .exact .inl ⟨p,by simp[hp],h1⟩
   .refine .inr ⟨h1,λp hp=>?_⟩;rcases List.mem_cons.1 hp with rfl|hp
    .exact he
    .exact h2 p hp
theorem QHY{u:List (Nat×Blk)}{id:Nat}{b:Blk}(h:Jp u lk id=some b):(∃ p∈u,p.1=id/\p.2=b/\b.live=true/\True)∨(lk id=some b/\∀ p∈u,p.1≠id):=by
 rcases QAD h with ⟨p,h1,h2,h3,h4⟩|h
 .exact .inl ⟨p,h1,h2,h3,h4,trivial⟩
 .exact .inr h
theorem QYU{u:List (Nat×Blk)}{id:Nat}{b:Blk}(h:∀ p∈u,p.1≠id)(hb:lk id=some b):Jp u lk id=some b:=by
 induction u with
 | nil=>exact hb
 | cons p u ih=>
  obtain⟨i,b'⟩:=p;have:(i==id)=false:=by have:=h (i,b') (by simp);simpa using this
  simp only[Jp,this];exact ih λp hp=>h p (by simp[hp])
theorem QEU(u h:List (Nat×Blk))(id:Nat):look (u++h) id=Jp u (look h) id:=by
 induction u with
 | nil=>rfl
 | cons p u ih=>obtain⟨i,b⟩:=p;simp only[List.cons_append,Kw,Jp];rw[ih]
theorem Act.getD_put(a:Act)(d:Option Nat)(v:Value)(t:Nat):(a.put d v).tmps.getD t undef=if d=some t/\t<a.tmps.size then v else a.tmps.getD t undef:=by
 cases d with
 | none=>simp[Act.put]
 | some d=>
  simp only[Act.put,Array.getD_eq_getD_getElem?,Array.getElem?_setIfInBounds,qsI]
  by_cases h:d=t
  .subst h
   by_cases g:d<a.tmps.size
   .simp[g]
   .simp[g]
  .simp[h]
theorem Act.put_size(a:Act)(d:Option Nat)(v:Value):(a.put d v).tmps.size=a.tmps.size:=by
 cases d<;>simp[Act.put]
theorem Act.put_defers(a:Act)(d:Option Nat)(v:Value):(a.put d v).defers=a.defers:=by
 cases d<;>rfl
theorem Inv.step{G:Ctx}{N:Nat}{r':Nat->Loc}{tf:Nat->AV}{w':World}{u:List (Nat×Blk)}{d:Option Nat}{v:AV}(h:Inv G N r tf lk a w)(hf:GI nid tf lk)(hn:G.n<=nid)(hp:Qv lk r nid u w r' w')(hold:∀ p∈u,inR nid p.1=false->∃ b,lk p.1=some b/\b.own=true):Inv G N r' (vS N tf d v) (Jp u lk) (a.put d (v.den r')) w':=by
 have hr:∀ i,(!inR nid i)=true->r i=r' i:=λi hi=>(hp.same i (by simpa using hi)).symm
 have hft:∀ id b k,lk id=some b->(Qo r' id b k↔Qo r id b k):=by
  intro id b k hb;have:=hp.same id (hf.out id b hb);unfold Qo;rw[this]
 have hbk:∀ id b,lk id=some b->(∀ p∈u,p.1≠id)->∀ k,Qo r id b k->bk w' k=bk w k:=by
  intro id b hb hne k hk;refine hp.fr.block k ((h.rep id b hb).lt (h.live id b hb) k hk) ?_;rintro⟨p,hpu,hin,b0,hb0,hk0⟩;obtain⟨b',hb',how⟩:=hold p hpu hin;rw[hb']at hb0;cases hb0;exact h.sep p.1 id _ b hb' hb (hne p hpu) how k hk0 hk
 have hlt:∀ id b,lk id=some b->∀ k,Qo r id b k->k<w.heap.size:=λid b hb=>(h.rep id b hb).lt (h.live id b hb)
 have hnewO:∀ p∈u,p.2.live=true->inR nid p.1=true->∀ id b,lk id=some b->b.own=true->(∀ q∈u,q.1=id->q.2.live=true)->∀ k,Qo r' p.1 p.2 k->¬ Qo r id b k:=by
  intro p hpu hl hin id b hb hob hst k hk hk2;rcases hp.new p hpu hin hl k hk with h1|⟨q,hq,h1,h2,b0,hb0,h3⟩|⟨_,id0,b0,hb0,ho0,h3⟩
  .have:=hlt id b hb k hk2;omega
  .obtain⟨b',hb',how⟩:=hold q hq h1
   have hqi:q.1≠id:=by
    intro e;have e1:=h2 q hq rfl;rw[hst q hq e]at e1;cases e1
   rw[hb']at hb0;cases hb0;exact h.sep q.1 id _ b hb' hb hqi how k h3 hk2
  .have hne:id≠id0:=by
    rintro rfl;rw[hb]at hb0;cases hb0;rw[hob]at ho0;cases ho0
   exact h.sep id id0 b b0 hb hb0 hne hob k hk2 h3
 have hnew:∀ p∈u,p.2.live=true->inR nid p.1=true->p.2.own=true->∀ id b,lk id=some b->(∀ q∈u,q.1=id->q.2.live=true)->∀ k,Qo r' p.1 p.2 k->¬ Qo r id b k:=by
  intro p hpu hl hin hpo id b hb hne k hk hk2;rcases hp.new p hpu hin hl k hk with h1|⟨q,hq,h1,h2,b0,hb0,h3⟩|⟨hno,_⟩
  .have:=hlt id b hb k hk2;omega
  .obtain⟨b',hb',how⟩:=hold q hq h1
   have hqi:q.1≠id:=by
    intro e;have e1:=h2 q hq rfl;rw[hne q hq e]at e1;cases e1
   rw[hb']at hb0;cases hb0;exact h.sep q.1 id _ b hb' hb hqi how k h3 hk2
  .rw[hpo]at hno;cases hno
 have hdf:Dfr G r' (Jp u lk) (a.put d (v.den r')):=by
  refine h.defers.to (Act.put_defers _ _ _) λid _ hid=>⟨?_,hp.same id (hf.out id _ hid)⟩
  have hne:∀ p∈u,p.1≠id:=by
   intro p hpu he;have hin:inR nid p.1=false:=by rw[he];exact hf.out id _ hid
   obtain⟨b,hb,ho⟩:=hold p hpu hin;rw[he,hid]at hb;simp only[qsI]at hb;subst hb;cases ho
  exact QYU hne hid
 refine⟨by rw[Act.put_size];exact h.size,hdf,λt=>?_,λid b hb=>?_,λid b hb=>?_,λid id' b b' hb hb' hne how=>?_,λid hid=>?_,?_,λid b hb how=>?_⟩
 .rw[Act.getD_put,h.size];unfold vS;split
  .rfl
  .rw[h.tm t,XT hr _ (hf.tm t)]
 .rcases QAD hb with ⟨p,hpu,rfl,rfl,_⟩|⟨hb,hne⟩
  .exact hp.rep p hpu
  .exact(h.rep id b hb).keep hr (hp.same id (hf.out id b hb)).symm hp.fr.size (hf.blk id b hb) (λ_=>hbk id b hb hne)
 .rcases QAD hb with ⟨p,_,_,_,hl⟩|⟨hb,_⟩
  .exact hl
  .exact h.live id b hb
 .intro k hk hk';rcases QHY hb with ⟨p,hpu,rfl,rfl,hl,hpl⟩|⟨hb1,hne1⟩<;>rcases QHY hb' with ⟨q,hqu,rfl,rfl,hl',hql⟩|⟨hb2,hne2⟩
  .cases hin:inR nid p.1<;>cases hin':inR nid q.1
   .obtain⟨b1,g1,o1⟩:=hold p hpu hin;obtain⟨b2,g2,o2⟩:=hold q hqu hin';obtain⟨c1,d1,e1⟩:=hp.stay p hpu hin hl k hk;obtain⟨c2,d2,e2⟩:=hp.stay q hqu hin' hl' k hk';rw[g1]at d1;cases d1;rw[g2]at d2;cases d2;exact h.sep _ _ _ _ g1 g2 hne o1 k e1 e2
   .obtain⟨b1,g1,o1⟩:=hold p hpu hin;obtain⟨c1,d1,e1⟩:=hp.stay p hpu hin hl k hk;rw[g1]at d1;cases d1;rcases hp.new q hqu hin' hl' k hk' with h1|⟨z,hz,h1,h2,c3,d3,h3⟩|⟨_,id0,b0,hb0,ho0,h3⟩
    .have:=hlt _ _ g1 k e1;omega
    .obtain⟨b3,g3,o3⟩:=hold z hz h1;rw[g3]at d3;cases d3
     have hzp:z.1≠p.1:=by
      intro e;have:=h2 p hpu e.symm;rw[hl]at this;cases this
     exact h.sep z.1 p.1 _ b1 g3 g1 hzp o3 k h3 e1
    .have hne0:p.1≠id0:=by
      intro e;rw[<-e,g1]at hb0;cases hb0;rw[o1]at ho0;cases ho0
     exact h.sep p.1 id0 b1 b0 g1 hb0 hne0 o1 k e1 h3
   .obtain⟨b2,g2,o2⟩:=hold q hqu hin';obtain⟨c2,d2,e2⟩:=hp.stay q hqu hin' hl' k hk';rw[g2]at d2;cases d2;rcases hp.new p hpu hin hl k hk with h1|⟨z,hz,h1,h2,c3,d3,h3⟩|⟨hno,_⟩
    .have:=hlt _ _ g2 k e2;omega
    .obtain⟨b3,g3,o3⟩:=hold z hz h1;rw[g3]at d3;cases d3
     have hzp:z.1≠q.1:=by
      intro e;have:=h2 q hqu e.symm;rw[hl']at this;cases this
     exact h.sep z.1 q.1 _ b2 g3 g2 hzp o3 k h3 e2
    .rw[how]at hno;cases hno
   .exact hp.apart p hpu q hqu hin hin' hne how hl' k hk hk'
  .rw[hft _ _ _ hb2]at hk';cases hin:inR nid p.1
   .obtain⟨b1,g1,o1⟩:=hold p hpu hin;obtain⟨c1,d1,e1⟩:=hp.stay p hpu hin hl k hk;rw[g1]at d1;cases d1;exact h.sep _ _ _ _ g1 hb2 hne o1 k e1 hk'
   .exact hnew p hpu hl hin how id' b' hb2 (λq hq e=>absurd e (hne2 q hq)) k hk hk'
  .rw[hft _ _ _ hb1]at hk;cases hin':inR nid q.1
   .obtain⟨b2,g2,o2⟩:=hold q hqu hin';obtain⟨c2,d2,e2⟩:=hp.stay q hqu hin' hl' k hk';rw[g2]at d2;cases d2;exact h.sep _ _ _ _ hb1 g2 hne how k hk e2
   .exact hnewO q hqu hl' hin' id b hb1 how (λz hz e=>absurd e (hne1 z hz)) k hk' hk
  .rw[hft _ _ _ hb1]at hk;rw[hft _ _ _ hb2]at hk';exact h.sep _ _ _ _ hb1 hb2 hne how k hk hk'
 .rw[hp.same id (by unfold inR;simp;omega)]
  exact h.ext id hid
 .refine⟨hp.fr.os.trans h.fr.os,hp.fr.tape.trans h.fr.tape,hp.fr.output.trans h.fr.output,Nat.le_trans h.fr.size hp.fr.size,Nat.le_trans h.fr.drawn hp.fr.drawn,λk hk hc=>?_⟩;rw[hp.fr.block k (Nat.lt_of_lt_of_le hk h.fr.size) ?_,h.fr.block k hk hc];rintro⟨p,hpu,hin,b0,hb0,hk0⟩;obtain⟨b',hb',how⟩:=hold p hpu hin;rw[hb']at hb0;cases hb0;rcases h.own _ _ hb' how k hk0 with h1|h1
  .exact hc h1
  .omega
 .intro k hk;rcases QHY hb with ⟨p,hpu,rfl,rfl,hl,_⟩|⟨hb1,_⟩
  .cases hin:inR nid p.1
   .obtain⟨b1,g1,o1⟩:=hold p hpu hin;obtain⟨c1,d1,e1⟩:=hp.stay p hpu hin hl k hk;rw[g1]at d1;cases d1;exact h.own _ _ g1 o1 k e1
   .rcases hp.new p hpu hin hl k hk with h1|⟨q,hq,h1,h2,c3,d3,h3⟩|⟨hno,_⟩
    .exact .inr (Nat.le_trans h.fr.size h1)
    .obtain⟨b1,g1,o1⟩:=hold q hq h1;rw[g1]at d3;cases d3;exact h.own _ _ g1 o1 k h3
    .rw[how]at hno;cases hno
  .rw[hft _ _ _ hb1]at hk;exact h.own _ _ hb1 how k hk
structure K9 (n:Nat) (st:St):Prop where
 tm:∀ t,(QJ st.tm t).all (·<n)=true
 out:∀ id b,look st.hp id=some b->id<n
 blk:∀ id b,look st.hp id=some b->b.all (·<n)=true
theorem Blk.all_mono{q:Nat->Bool}(h:∀ id,p id=true->q id=true):∀ b:Blk,b.all p=true->b.all q=true
 | .cells _ _ l,hb=>allL_mono h l hb
 | .rowl _ _ l,hb=>by
  simp only[Blk.all,List.all_eq_true]at hb ⊢;exact λx hx=>allL_mono h x (hb x hx)
 | .gone,_=>rfl
 | .cellsR _ _ l,hb=>allL_mono h l hb
 | .rowlR _ _ l,hb=>by
  simp only[Blk.all,List.all_eq_true]at hb ⊢;exact λx hx=>allL_mono h x (hb x hx)
 | .lp _ _ l _ _ _,hb=>allL_mono h l hb
 | .dfr,_=>rfl
 | .mp ..,_=>rfl
 | .rowz ..,_=>rfl
 | .frz ..,_=>rfl
 | .itm l _ _ _ _,hb=>allL_mono h l hb
mutual
theorem HJ:∀ v:AV,v.all (λ_=>true)=true
 | .int .. | .bool .. | .addr .. | .nilp | .nils | .nilm | .nilf | .nili | .str .. | .raw .. | .ptr .. | .slice .. | .slz .. | .map .. | .yld .. => rfl
 | .fn _ l=>all_trueL l
 | .mth _ l=>all_trueL l
 | .alt _ v w=>by simp only[AV.all,HJ v,HJ w];rfl
 | .ifc _ v=>HJ v
 | .opt _ v=>HJ v
 | .agg l=>all_trueL l
 | .tup l=>all_trueL l
theorem all_trueL:∀ l:List AV,AV.allL (λ_=>true) l=true
 | []=>rfl
 | v::l=>by simp only[AV.allL,HJ v,all_trueL l];rfl
end
theorem QVA(b:Blk):b.all (λ_=>true)=true:=by
 cases b<;>simp only[Blk.all,all_trueL,List.all_eq_true,implies_true]
theorem jA(h:n<=nid):∀ id,decide (id<n)=true->(!inR nid id)=true:=by
 intro id hid;simp only[qdE]at hid;simp[inR];omega
theorem K9.free{st:St}(h:K9 n st)(hn:n<=nid):GI nid (QJ st.tm) (look st.hp):=
 ⟨λt=>all_mono (jA hn) _ (h.tm t),λid b hb=>by
  have:=jA hn id (by simpa using h.out id b hb);simpa using this,λid b hb=>Blk.all_mono (jA hn) _ (h.blk id b hb)⟩
theorem K9.eqv{st:St}{tm:List AV}(h:K9 n st)(he:Eqv st.tm tm):K9 n { st with tm:=tm }:=
 ⟨λt=>by rw[<-(he.2 t).2];exact h.tm t,h.out,h.blk⟩
theorem QFE{u h:List (Nat×Blk)}{id:Nat}{b:Blk}(e:look (u++h) id=some b):(∃ p∈u,p.1=id/\p.2=b)∨look h id=some b:=by
 rw[QEU]at e;rcases QAD e with ⟨p,hp,h1,h2,_⟩|⟨h1,_⟩
 .exact .inl ⟨p,hp,h1,h2⟩
 .exact .inr h1
theorem KK:∀{h:List (Nat×Blk)} {id:Nat} {b:Blk},look h id=some b->(id,b)∈h
 | (i,b')::h,id,b,e=>by
  simp only[Kw]at e;split at e
  .rename_i hi;split at e<;>(try (cases e;done))
   simp only[qsI]at e;subst e;have:i=id:=by simpa using hi
   subst this;exact qmc
  .exact List.mem_cons_of_mem _ (KK e)
theorem VO{m:Nat}(h:m<=n):∀ id,decide (id<m)=true->decide (id<n)=true:=by
 intro id;simp only[qdE];omega
theorem QJu{h:List (Nat×Blk)}{id:Nat}(e:QIK h id=true):∃ b,look h id=some b/\b.own=true:=by
 unfold QIK at e;split at e
 .rename_i b hb;exact⟨b,hb,e⟩
 .cases e
structure QEu (n:Nat) (rec:Rec):Prop where
 val:rec.val.all (·<n)=true
 upd:∀ p∈rec.upd,p.2.all (·<n)=true
theorem Ran.ok{E:Env}{o:Oper}{st:St}{rec:Rec}(h:Ran E o nid st rec):
  QEu (nid+8) rec/\∀ p∈rec.upd,inR nid p.1=true∨(p.1∈rec.ids/\∃ b,look st.hp p.1=some b/\b.own=true):=by
 obtain⟨_,g,blks,eff,_,_,_,_,hok,h1,h2⟩:=h.ran;unfold Wu at hok;simp only[qbA,List.all_eq_true,qbO]at hok;refine⟨⟨by rw[h1];exact hok.1,λp hp=>(hok.2 p (h2 ▸ hp)).1⟩,λp hp=>?_⟩
 rcases(hok.2 p (h2 ▸ hp)).2 with h|h
 .exact .inl h
 .exact .inr ⟨by simpa using h.1,QJu h.2⟩
theorem K9.apply{st:St}{o:Oper}{rec:Rec}(h:K9 n st)(hn:n<=nid+8)(hr:QEu (nid+8) rec)(hu:∀ p∈rec.upd,p.1<nid+8):K9 (nid+8) (Q3 o rec st):=by
 refine⟨λt=>?_,λid b hb=>?_,λid b hb=>?_⟩
 .unfold Q3;rw[Zl];split
  .exact hr.val
  .exact all_mono (VO hn) _ (h.tm t)
 .rcases QFE ((jK _ _ _).symm.trans hb)with ⟨p,hp,rfl,_⟩|hb
  .exact hu p hp
  .have:=h.out id b hb;omega
 .rcases QFE ((jK _ _ _).symm.trans hb)with ⟨p,hp,_,rfl⟩|hb
  .exact hr.upd p hp
  .exact Blk.all_mono (VO hn) _ (h.blk id b hb)
theorem QJA{nid id:Nat}(h:inR nid id=true):id<nid+8:=by
 unfold inR at h;simp at h;omega
theorem Ran.scopedAt{E:Env}{o:Oper}{st:St}{rec:Rec}(h:Ran E o nid st rec)(hs:K9 nid st):K9 (nid+8) (Q3 o rec st):=
 hs.apply (by omega) h.ok.1 λp hp=>by
  rcases h.ok.2 p hp with h1|⟨_,b,hb,_⟩
  .exact QJA h1
  .have:=hs.out _ _ hb;omega
theorem K9.skip{n m:Nat}{st:St}{o:Oper}(h:K9 n st)(hn:n<=m):K9 m (Q3 o ⟨.tup [],[],[]⟩ st):=by
 refine⟨λt=>?_,λid b hb=>?_,λid b hb=>?_⟩
 .unfold Q3;rw[Zl];split
  .rfl
  .exact all_mono (VO hn) _ (h.tm t)
 .have:=h.out id b hb;omega
 .exact Blk.all_mono (VO hn) _ (h.blk id b hb)
theorem zw{tm:List AV}(h:∀ t,x = .tmp t->a.tmps.getD t undef=(QJ tm t).den r):a.eval x=(evA tm x).den r:=by
 cases x with
 | tmp t=>exact h t rfl
 | const v=>exact(QhL r v).symm
 | global g=>rfl
 | func f=>rfl
theorem W8{tm:List AV}(h:∀ t,(QJ tm t).all p=true):(evA tm x).all p=true:=by
 cases x with
 | tmp t=>exact h t
 | const v=>exact QOI p v
 | global g=>rfl
 | func f=>rfl
def Rep(G:Ctx)(n:Nat)(st:St)(a:Act)(w:World):Prop:=(∃ r,Inv G st.tm.length r (QJ st.tm) (look st.hp) a w)/\K9 n st
theorem Inv.eqv{G:Ctx}{st:St}{tm:List AV}(he:Eqv st.tm tm)(h:Inv G st.tm.length r (QJ st.tm) (look st.hp) a w):Inv G tm.length r (QJ tm) (look st.hp) a w:=
 ⟨by rw[h.size,he.1],h.defers,λt=>by rw[h.tm t,(he.2 t).1],h.rep,h.live,h.sep,h.ext,h.fr,h.own⟩
theorem Inv.hok{G:Ctx}{N:Nat}{tf:Nat->AV}(h:Inv G N r tf lk a w)(hf:GI nid tf lk):HOk r w nid lk:=
 ⟨hf.out,h.rep,hf.blk,λid id' b b' h1 h2 hne ho _=>h.sep id id' b b' h1 h2 hne ho⟩
theorem QB3(st:St)(o:Oper)(rec:Rec):QJ (Q3 o rec st).tm=vS st.tm.length (QJ st.tm) o.dst rec.val:=by
 funext t;unfold Q3 vS;rw[Zl]
theorem QBr(st:St)(o:Oper)(rec:Rec):look (Q3 o rec st).hp=Jp rec.upd (look st.hp):=by
 funext id;exact(jK _ _ _).trans (QEU _ _ _)
theorem XI(st:St)(o:Oper)(rec:Rec):(Q3 o rec st).tm.length=st.tm.length:=QBv _ _ _
def QOK(acc:List Nat)(o:Oper):Nat:=o.after.toList.foldl (λm e=>if Region.binds .any e then m ||| (1 <<< e.on) ||| acc.getD e.on 0 else m) 0
def JX:List Nat->List Oper->List Nat
 | acc,[]=>acc
 | acc,o::l=>JX (acc++[QOK acc o]) l
def noR(n:Nat)(rec:Rec):Bool:=rec.val.all (λi=>!inR n i)&&rec.upd.all (λp=>!inR n p.1&&p.2.all (λi=>!inR n i))
def Yv(ops:Array Oper)(base i:Nat)(x:Oper×Rec)(j:Nat)(y:Oper×Rec):Bool:=
 x.1.apart ops y.1&&x.2.upd.all (λp=>!y.2.ids.contains p.1&&y.2.upd.all (λq=>p.1 != q.1))&&y.2.upd.all (λq=>!x.2.ids.contains q.1)&&noR (base+8*i) y.2&&noR (base+8*j) x.2
def goP(ops:Array Oper)(base i:Nat)(x:Oper×Rec):Nat->List (Oper×Rec)->List Nat->Bool
 | j,y::l,m::ms=>(m.testBit i||Yv ops base i x j y)&&goP ops base i x (j+1) l ms
 | _,_,_=>true
def QBs(ops:Array Oper)(base:Nat):Nat->List (Oper×Rec)->List Nat->Bool
 | k,x::l,_::ms=>goP ops base k x (k+1) l ms&&QBs ops base (k+1) l ms
 | _,_,_=>true
def jb(l:List Oper):Bool:=go 0 l where
 go:Nat->List Oper->Bool
 | _,[]=>true
 | k,o::l=>o.after.toList.all (λe=>!Region.binds .any e||e.on<k)&&go (k+1) l
def HH(base:Nat)(x:Oper×Rec):Bool:=x.2.upd.isEmpty&&x.2.val.all (λi=>decide (i<base))
def QEr:Nat:=match o.dst with
 | some t=>t+1
 | none=>0
def QDt(x:Nat):List Nat->Bool
 | []=>false
 | y::l=>Nat.beq x y||QDt x l
def QFc:List Nat->Bool
 | []=>true
 | x::l=>(Nat.beq x 0 || !(QDt x l))&&QFc l
def okT(t m:Nat):Nat->List Nat->Bool
 | _,[]=>true
 | i,d::ds=>(!(Nat.beq d t)||m.testBit i)&&okT t m (i+1) ds
def QEo(ops:Array Oper)(ds:List Nat):List Oper->List Nat->Bool
 | o::l,m::ms=>(o.looksAt ops).all (λt=>okT (t+1) m 0 ds)&&QEo ops ds l ms
 | _,_=>true
def Hq(ops:Array Oper)(base k mk:Nat)(x:Oper×Rec):Nat->List (Oper×Rec)->List Nat->Bool
 | j,y::l,m::ms=>(match Nat.blt k j with
  | true=>m.testBit k||Yv ops base k x j y
  | false=>(match Nat.beq j k with
   | true=>true
   | false=>mk.testBit j||Yv ops base j y k x))&&Hq ops base k mk x (j+1) l ms
 | _,_,_=>true
def QBm(ops:Array Oper)(base:Nat)(all:List (Oper×Rec))(ms:List Nat):Nat->List (Oper×Rec)->List Nat->Bool
 | k,x::l,m::ms'=>(HH base x||Hq ops base k m x 0 all ms)&&QBm ops base all ms (k+1) l ms'
 | _,_,_=>true
def QGX(ops:Array Oper)(base:Nat)(l:List Oper)(rs:List Rec)(ms:List Nat):Bool:=
 QFc (l.map QEr)&&QEo ops (l.map QEr) l ms&&QBm ops base (l.zip rs) ms 0 (l.zip rs) ms
def QKT(ops:Array Oper)(base:Nat)(l:List Oper)(rs:List Rec):Bool:=
 jb l&&Region.noSelect ops&&(QGX ops base l rs (JX [] l)||QBs ops base 0 (l.zip rs) (JX [] l))
theorem QTC{x:Nat}:∀{l:List Nat},QDt x l=false->x ∉ l
 | [],_,h=>by cases h
 | y::l,h,hm=>by
  simp only[QDt,Bool.or_eq_false_iff]at h;rcases List.mem_cons.1 hm with rfl|hm
  .simp at h
  .exact QTC h.2 hm
theorem QSF:∀{l:List Nat},QFc l=true->∀{i j x:Nat},i<j->l[i]? = some (x+1)->l[j]? ≠ some (x+1)
 | [],_,i,j,x,_,h,_=>by simp at h
 | y::l,h,i,j,x,hij,hi,hj=>by
  simp only[QFc,qbA,qbO,Bool.not_eq_true']at h;obtain⟨j,rfl⟩:∃ q,j=q+1:=⟨j-1,by omega⟩
  simp only[List.getElem?_cons_succ]at hj;cases i with
  | zero=>
   simp only[List.getElem?_cons_zero,qsI]at hi;subst hi;rcases h.1 with h1|h1
   .simp at h1
   .exact QTC h1 (List.mem_of_getElem? hj)
  | succ i=>
   simp only[List.getElem?_cons_succ]at hi;exact QSF h.2 (by omega) hi hj
theorem QVJ{t m:Nat}:∀{ds:List Nat} {i:Nat},okT t m i ds=true->∀{k:Nat},ds[k]? = some t->m.testBit (i+k)=true
 | [],_,_,k,h=>by simp at h
 | d::ds,i,h,k,hk=>by
  simp only[okT,qbA,qbO,Bool.not_eq_true']at h;cases k with
  | zero=>
   simp only[List.getElem?_cons_zero,qsI]at hk;subst hk;rcases h.1 with h1|h1
   .simp at h1
   .simpa using h1
  | succ k=>
   have:=QVJ h.2 (k:=k) (by simpa using hk)
   rw[show i+(k+1)=i+1+k by omega];exact this
theorem QG2{ops:Array Oper}{ds:List Nat}:∀{l:List Oper} {ms:List Nat},QEo ops ds l ms=true->∀{j:Nat} {o:Oper} {m:Nat},l[j]? = some o->ms[j]? = some m->∀ t∈o.looksAt ops,∀{k:Nat},ds[k]? = some (t+1)->m.testBit k=true
 | [],_,_,j,o,m,h,_,_,_,_,_=>by simp at h
 | _::_,[],_,j,o,m,_,h,_,_,_,_=>by simp at h
 | x::l,y::ms,h,j,o,m,h1,h2,t,ht,k,hk=>by
  simp only[QEo,qbA,List.all_eq_true]at h;cases j with
  | zero=>
   simp only[List.getElem?_cons_zero,qsI]at h1 h2;subst h1 h2;have:=QVJ (h.1 t ht) hk;simpa using this
  | succ j=>exact QG2 h.2 (by simpa using h1) (by simpa using h2) t ht hk
theorem QHq{ops:Array Oper}{base k mk:Nat}{x:Oper×Rec}:∀{l:List (Oper×Rec)} {ms:List Nat} {j0:Nat},Hq ops base k mk x j0 l ms=true->∀{j:Nat} {y:Oper×Rec} {m:Nat},l[j]? = some y->ms[j]? = some m ->
  (k<j0+j->m.testBit k=true∨Yv ops base k x (j0+j) y=true)/\(j0+j<k->mk.testBit (j0+j)=true∨Yv ops base (j0+j) y k x=true)
 | [],_,_,_,j,y,m,h,_=>by simp at h
 | _::_,[],_,_,j,y,m,_,h=>by simp at h
 | z::l,n::ms,j0,h,0,y,m,h1,h2=>by
  simp only[List.getElem?_cons_zero,qsI]at h1 h2;subst h1 h2;simp only[Hq,qbA]at h;have h:=h.1;refine⟨λhlt=>?_,λhlt=>?_⟩
  .have e:Nat.blt k j0=true:=by rw[Nat.blt_eq];omega
   rw[e]at h;simpa using h
  .have e:Nat.blt k j0=false:=by rw[Bool.eq_false_iff,ne_eq,Nat.blt_eq];omega
   have e2:Nat.beq j0 k=false:=by rw[Bool.eq_false_iff,ne_eq,Nat.beq_eq];omega
   rw[e]at h;simp only[e2]at h;simpa using h
 | z::l,n::ms,j0,h,j+1,y,m,h1,h2=>by
  simp only[List.getElem?_cons_succ]at h1 h2;simp only[Hq,qbA]at h;have:=QHq h.2 h1 h2;rw[show j0+(j+1)=j0+1+j by omega];exact this
theorem QKf{ops:Array Oper}{base:Nat}{all:List (Oper×Rec)}{ms0:List Nat}:∀{l:List (Oper×Rec)} {ms:List Nat} {k0:Nat},QBm ops base all ms0 k0 l ms=true->∀{k:Nat} {x:Oper×Rec} {m:Nat},l[k]? = some x->ms[k]? = some m->HH base x=true∨Hq ops base (k0+k) m x 0 all ms0=true
 | [],_,_,_,k,x,m,h,_=>by simp at h
 | _::_,[],_,_,k,x,m,_,h=>by simp at h
 | z::l,n::ms,k0,h,0,x,m,h1,h2=>by
  simp only[List.getElem?_cons_zero,qsI]at h1 h2;subst h1 h2;simp only[QBm,qbA,qbO]at h;exact h.1
 | z::l,n::ms,k0,h,k+1,x,m,h1,h2=>by
  simp only[List.getElem?_cons_succ]at h1 h2;simp only[QBm,qbA]at h;have:=QKf h.2 h1 h2;rw[show k0+(k+1)=k0+1+k by omega];exact this
theorem QVu{x:Oper×Rec}(h:HH base x=true):noR (base+n) x.2=true:=by
 unfold HH at h;simp only[qbA,List.isEmpty_iff]at h;unfold noR;rw[h.1];simp only[List.all_nil,Bool.and_true];exact all_mono (λid hid=>by simp only[qdE]at hid;simp[inR];omega) _ h.2
theorem Qin{l:List Oper}{rs:List Rec}{ms:List Nat}(h:QGX ops base l rs ms=true)(hlen:rs.length=l.length):∀(i j:Nat) (x y:Oper×Rec) (m:Nat),i<j->(l.zip rs)[i]? = some x->(l.zip rs)[j]? = some y->ms[j]? = some m->ms[i]? ≠ none->(∀ mi k,ms[i]? = some mi->mi.testBit k=true->k<i)->m.testBit i=true∨Yv ops base i x j y=true:=by
 intro i j x y m hij hx hy hm hmi hback;unfold QGX at h;simp only[qbA]at h;obtain⟨⟨hA,hB⟩,hC⟩:=h;obtain⟨mi,hmi⟩:∃ mi,ms[i]? = some mi:=Option.ne_none_iff_exists'.1 hmi;rcases QKf hC hx hmi with lx|gx
 .rcases QKf hC hy hm with ly|gy
  .by_cases hb:m.testBit i=true
   .exact .inl hb
   .refine .inr ?_;obtain⟨hxo,_⟩:=List.getElem?_zip_eq_some.1 hx;obtain⟨hyo,_⟩:=List.getElem?_zip_eq_some.1 hy
    have dN:∀(k:Nat) (o:Oper) (d:Nat),l[k]? = some o->o.dst=some d->(l.map QEr)[k]? = some (d+1):=by
     intro k o d ho hd;rw[List.getElem?_map,ho];simp[QEr,hd]
    have ap:x.1.apart ops y.1=true:=by
     unfold Oper.apart;rw[qbA];constructor
     .split
      .rename_i d hd;rw[qbA];constructor
       .rw[Bool.not_eq_true',Bool.eq_false_iff];intro hc;exact hb (QG2 hB hyo hm d (by simpa using hc) (dN i x.1 d hxo hd))
       .rw[bne_iff_ne];intro he;exact QSF hA hij (dN i x.1 d hxo hd) (dN j y.1 d hyo he)
      .rfl
     .split
      .rename_i d hd;rw[Bool.not_eq_true',Bool.eq_false_iff];intro hc;have:=QG2 hB hxo hmi d (by simpa using hc) (dN j y.1 d hyo hd)
       have:=hback mi j hmi this;omega
      .rfl
    have ux:x.2.upd=[]:=by unfold HH at lx;simp only[qbA,List.isEmpty_iff]at lx;exact lx.1
    have uy:y.2.upd=[]:=by unfold HH at ly;simp only[qbA,List.isEmpty_iff]at ly;exact ly.1
    unfold Yv;rw[ap,ux,uy,QVu lx,QVu ly];rfl
  .have:=QHq gy hx hmi;simp only[Nat.zero_add]at this;exact this.2 hij
 .have:=QHq gx hy hm;simp only[Nat.zero_add]at this;exact this.1 hij
theorem QRK{ops:Array Oper}{base i:Nat}{x:Oper×Rec}:∀{l:List (Oper×Rec)} {ms:List Nat} {j:Nat},goP ops base i x j l ms=true->∀{k y m},l[k]? = some y->ms[k]? = some m->m.testBit i=true∨Yv ops base i x (j+k) y=true
 | [],_,_,_,k,y,m,h,_=>by simp at h
 | _::_,[],_,_,k,y,m,_,h=>by simp at h
 | z::l,n::ms,j,h,0,y,m,h1,h2=>by
  simp only[List.getElem?_cons_zero,qsI]at h1 h2;subst h1 h2;simp only[goP,qbA,qbO]at h;exact h.1
 | z::l,n::ms,j,h,k+1,y,m,h1,h2=>by
  simp only[List.getElem?_cons_succ]at h1 h2;simp only[goP,qbA]at h;have:=QRK h.2 h1 h2;rw[show j+(k+1)=j+1+k by omega];exact this
theorem QlF:∀(l:List (Oper×Rec)) (ms:List Nat) (k:Nat),ms.length=l.length->QBs ops base k l ms=true->∀(i j i' j':Nat) (x y:Oper×Rec) (m:Nat),i<j->i'=k+i->j'=k+j->l[i]? = some x->l[j]? = some y->ms[j]? = some m->m.testBit i'=true∨Yv ops base i' x j' y=true:=by
 intro l
 induction l with
 | nil=>intro ms k _ _ i j i' j' x y m _ _ _ h;simp at h
 | cons z l ih=>
  intro ms k hl h i j i' j' x y m hij hi' hj' h1 h2 h3;cases ms with
  | nil=>simp at hl
  | cons n ms=>
   simp only[QBs,qbA]at h;obtain⟨j,rfl⟩:∃ q,j=q+1:=⟨j-1,by omega⟩
   simp only[List.getElem?_cons_succ]at h2 h3;cases i with
   | zero=>
    simp only[List.getElem?_cons_zero,qsI]at h1;subst h1;have:=QRK h.1 h2 h3;have e1:k=i':=by omega
    have e2:k+1+j=j':=by omega
    rw[e1,<-e1,e2,e1]at this;exact this
   | succ i=>
    simp only[List.getElem?_cons_succ]at h1;exact ih ms (k+1) (by simpa using hl) h.2 i j i' j' x y m (by omega) (by omega) (by omega) h1 h2 h3
theorem QRk(acc:List Nat)(b:Nat):∀(es:List Edge) (m:Nat),(es.foldl (λm e=>if Region.binds .any e then m ||| (1 <<< e.on) ||| acc.getD e.on 0 else m) m).testBit b=true ->
  m.testBit b=true∨∃ e∈es,Region.binds .any e=true/\(e.on=b∨(acc.getD e.on 0).testBit b=true)
 | [],m,h => .inl h
 | e::es,m,h=>by
  rw[List.foldl_cons]at h;rcases QRk acc b es _ h with h1|⟨e',h1,h2⟩
  .split at h1
   .rename_i hb;simp only[Nat.testBit_or,qbO]at h1;rcases h1 with (h1|h1)|h1
    .exact .inl h1
    .refine .inr ⟨e,by simp,hb,.inl ?_⟩
     rw[Nat.one_shiftLeft,Nat.testBit_two_pow]at h1;simpa using h1
    .exact .inr ⟨e,by simp,hb,.inr h1⟩
   .exact .inl h1
  .exact .inr ⟨e',by simp[h1],h2⟩
theorem QA2(L:Nat->Prop)(all:List Oper)(hdown:∀(j:Nat) (o:Oper),all[j]? = some o->L j->∀ e∈o.after.toList,Region.binds .any e=true->L e.on):
  ∀(l:List Oper) (pre:List Oper) (acc:List Nat),all=pre++l->acc.length=pre.length ->
   (∀(j:Nat) (o:Oper) (m:Nat),all[j]? = some o->acc[j]? = some m->(∀ e∈o.after.toList,Region.binds .any e=true->L e.on)->∀ b,m.testBit b=true->L b) ->
   (JX acc l).length=all.length/\∀(j:Nat) (o:Oper) (m:Nat),all[j]? = some o->(JX acc l)[j]? = some m->(∀ e∈o.after.toList,Region.binds .any e=true->L e.on)->∀ b,m.testBit b=true->L b
 | [],pre,acc,hall,hlen,h=>⟨by rw[hall];simpa[JX]using hlen,h⟩
 | o::l,pre,acc,hall,hlen,h=>by
  refine QA2 L all hdown l (pre++[o]) _ (by rw[hall];simp) (by simp[hlen]) ?_
  intro j o' m ho' hm hpre b hb;rw[List.getElem?_append]at hm;split at hm
  .exact h j o' m ho' hm hpre b hb
  .rename_i hj
   have hj':j-acc.length=0:=by
    have:=(List.getElem?_eq_some_iff.1 hm).1;simp at this;omega
   have ho:o'=o:=by
    have hj2:j=pre.length:=by omega
    rw[hall,hj2]at ho';simpa using ho'.symm
   subst ho;rw[hj']at hm;simp only[List.getElem?_cons_zero,qsI]at hm;subst hm;unfold QOK at hb;rcases QRk acc b _ _ hb with h1|⟨e,he,hbi,h1|h1⟩
   .simp at h1
   .rw[<-h1];exact hpre e he hbi
   .have hLe:=hpre e he hbi;cases hae:acc[e.on]? with
    | none=>rw[List.getD_eq_getElem?_getD,hae]at h1;simp at h1
    | some m2=>
     rw[List.getD_eq_getElem?_getD,hae]at h1;have hlt:=(List.getElem?_eq_some_iff.1 hae).1;obtain⟨o2,ho2⟩:∃ o2,all[e.on]? = some o2:=⟨_,List.getElem?_eq_getElem (by rw[hall,List.length_append];omega)⟩
     exact h e.on o2 m2 ho2 hae (hdown e.on o2 ho2 hLe) b h1
