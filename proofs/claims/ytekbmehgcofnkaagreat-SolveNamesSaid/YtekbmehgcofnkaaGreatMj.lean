/- - -/
import Derived.Test.YtekbmehgcofnkaaGreatMi
import Derived.Orders
import Derived.OrdersIn
import Derived.TacticsIn
import Derived.LoopNIn
namespace Go.SX
open Go Go.RowKit Go.Proofs.YtekbmehgcofnkaaGreat
def FW(rd:Option Nat):Fence:={ Fence.wide with round:=rd }
variable {o:Oper}{a:Act}{w:World}{Q:AV->List (Nat×Blk)->Prop}{b:Bool}{nid n:Nat}{i:Int}{ops:Array Oper}{p:Nat->Bool}{r:Nat->Loc}{x:Operand}{lk:Nat->Option Blk}(tm:List AV)(h:List (Nat×Blk))(d:Option Nat)(t:Nat)(v:AV)
theorem vM{P:Program}{K:Act->World->Prop}{Q:Exit->Act->World->Prop}{rd:Option Nat}(h:o.wp P a w K Q)(hd:∀ c,o.op ≠ .defer c):o.wpIn (FW rd) 0 P a w K Q:=by
 refine⟨λ_ _=>trivial,?_⟩;rw[Oper.semAt_eq _ _ _ hd];unfold Oper.wp at h;generalize (execOp a.eval o).run P w=res at h ⊢;cases res with
 | ok x w'=>
  cases x with
  | value v=>exact h
  | skip=>exact h
  | defer d=>exact h
  | enter f args=>exact⟨λh=>(by cases h),callsIn_wide.2 h⟩
  | row row args=>exact⟨λh=>(by cases h),λc cs _=>let ⟨v,w',r,s⟩:=h c cs;⟨v,w',r,stepsIn_wide.2 s⟩⟩
  | _=>exact h.elim
 | halt x w'=>cases x<;>exact h
structure Env where
 P:Program
 C:FuncId->Option FC
 M:TypeId->String->Option FuncId
 sp:Bool
 bi:Op->Bool
 jn:Bool
 gc:Bool
 fk:Bool
structure Env.Sound (E:Env):Prop where
 c:∀ f fc,E.C f=some fc->QS E.P f fc
 m:Hr E.P E.M
 mixed:E.P.follows .mixedOrders=true
structure St where
 tm:List AV
 hp:List (Nat×Blk)
 nid:Nat
def look:List (Nat×Blk)->Nat->Option Blk
 | [],_=>none
 | (i,b)::t,id=>match Nat.beq i id with
  | true=>(match b.live with|true=>some b|false=>none)
  | false=>look t id
theorem Kk(i:Nat)(b:Blk)(t:List (Nat×Blk))(id:Nat):look ((i,b)::t) id=if i==id then (if b.live then some b else none)else look t id:=by
 by_cases h:i=id
 .subst h;have:Nat.beq i i=true:=Nat.beq_refl i;simp only[look,this,beq_self_eq_true,if_true];cases b.live<;>rfl
 .have h1:Nat.beq i id=false:=by
   cases hb:Nat.beq i id with
   | true=>exact absurd (qnb hb) h
   | false=>rfl
  have h2:(i==id)=false:=by simpa using h
  simp only[look,h1,h2];rfl
def QCA(i:Nat)(b:Blk):List (Nat×Blk)->Option (List (Nat×Blk))
 | []=>none
 | (j,c)::t=>match Nat.beq j i with
  | true=>some ((i,b)::t)
  | false=>(match QCA i b t with
   | some t'=>some ((j,c)::t')
   | none=>none)
def QJM(p:Nat×Blk)(h:List (Nat×Blk)):List (Nat×Blk):=match QCA p.1 p.2 h with
 | some h'=>h'
 | none=>p::h
def jq:List (Nat×Blk)->List (Nat×Blk)->List (Nat×Blk)
 | [],h=>h
 | p::u,h=>QJM p (jq u h)
theorem QNu{i:Nat}{b:Blk}:∀{h h':List (Nat×Blk)},QCA i b h=some h'->∀ id,look h' id=look ((i,b)::h) id
 | [],h',e,_=>by cases e
 | (j,c)::t,h',e,id=>by
  simp only[QCA]at e;split at e
  .rename_i hj;have hj:=qnb hj;subst hj;simp only[qsI]at e;subst e;rw[Kk,Kk,Kk];split<;>rfl
  .rename_i hj;split at e
   .rename_i t' ht;simp only[qsI]at e;subst e;have ih:=QNu ht id;rw[Kk]at ih;rw[Kk,ih,Kk,Kk]
    by_cases h1:i=id
    .subst h1
     have:(j==i)=false:=by
      cases hb:(j==i)with
      | true => have : j = i := by simpa using hb
                subst this; rw[Nat.beq_refl]at hj; cases hj
      | false=>rfl
     simp only[this,beq_self_eq_true,if_true];rfl
    .have:(i==id)=false:=by simpa using h1
     simp only[this];rfl
   .cases e
theorem QZ2(p:Nat×Blk)(h:List (Nat×Blk))(id:Nat):look (QJM p h) id=look (p::h) id:=by
 unfold QJM;split
 .rename_i h' e;exact QNu e id
 .rfl
theorem qk:∀(u h:List (Nat×Blk)) (id:Nat),look (jq u h) id=look (u++h) id
 | [],_,_=>rfl
 | (i,b)::u,h,id=>by
  rw[jq,QZ2,List.cons_append,Kk,Kk,qk u h id]
def Z3(h:List (Nat×Blk)):List Nat->Option (List Blk)
 | []=>some []
 | i::l=>match look h i with
  | none=>none
  | some b=>match Z3 h l with
   | none=>none
   | some bs=>some (b::bs)
theorem HE{h:List (Nat×Blk)}:∀{l:List Nat} {bs:List Blk},Z3 h l=some bs->l.map (look h)=bs.map some
 | [],bs,e=>by simp only[Z3,qsI]at e;subst e;rfl
 | i::l,bs,e=>by
  simp only[Z3]at e;split at e<;>(try (cases e;done))
  rename_i b hb;split at e<;>(try (cases e;done))
  rename_i bs' hbs;simp only[qsI]at e;subst e;simp only[List.map_cons,hb,HE hbs]
theorem V3{h:List (Nat×Blk)}:∀{id:Nat} {b:Blk},look h id=some b->b.live=true:=by
 induction h with
 | nil=>intro id b e;simp[look]at e
 | cons p h ih=>
  intro id b e;obtain⟨i,b'⟩:=p;simp only[Kk]at e;split at e
  .split at e
   .rename_i hl;simp only[qsI]at e;subst e;exact hl
   .cases e
  .exact ih e
def evA:Operand->AV
 | .tmp t=>(tm[t]?).getD (.tup [])
 | .const v=>ofValue v
 | .global g => .addr ⟨g,0,none⟩
 | .func f => .fn (.func f) []
def QJ:AV:=(tm[t]?).getD (.tup [])
def setO:List AV:=match d with
 | some d=>tm.set d v
 | none=>tm
structure Rec where
 val:AV
 upd:List (Nat×Blk)
 ids:List Nat
inductive QC where
 | leaf (v:AV) (h:List (Nat×Blk))
 | br (b:Bool) (t e:QC)
 | need (b:Bool) (t:QC)
 | all (f:(Nat->Value)->QC)
 | asm (p:Prop) (t:QC)
 | ask (p:Prop) (t:QC)
 | both (a b:QC)
 | bnd (b:Bool) (f:Bool->QC)
 | bndI (n:Int) (f:Int->QC)
 | fail (why:String)
def QC.ak:List Prop->QC->QC
 |[],t=>t
 |p::s,t=>.ask p (QC.ak s t)
abbrev rz(n:Nat):List Prop:=List.replicate n (0=0)
def QC.den(Q:AV->List (Nat×Blk)->Prop):QC->Prop
 | .leaf v h=>Q v h
 | .br b t e=>(b=true->t.den Q)/\(b=false->e.den Q)
 | .need b t=>b=true/\t.den Q
 | .all f=>∀ g,(f g).den Q
 | .asm p t=>p->t.den Q
 | .ask p t=>p/\t.den Q
 | .both a b=>a.den Q/\b.den Q
 | .bnd b f=>∀ x,x=b->(f x).den Q
 | .bndI n f=>∀ x,x=n->(f x).den Q
 | .fail _=>False
def QER(c b:Bool)(t:QC):QC:=match c with
 | true => (match b with | true => t | false => .fail "a condition is false")
 | false => .need b t
theorem QK4{c:Bool}{t:QC}(h:(QER c b t).den Q):b=true/\t.den Q:=by
 cases c<;>cases b
 .exact h
 .exact h
 .exact h.elim
 .exact⟨rfl,h⟩
def Qu(o:Oper)(r:Rec)(st:St):St:={ st with tm:=setO st.tm o.dst r.val,hp:=jq r.upd st.hp }
def QGb(id:Nat):Bool:=match look h id with
 | some b=>b.own
 | none=>false
def Zh(nid:Nat)(ids:List Nat)(h:List (Nat×Blk))(eff:Eff):Bool:=
 eff.val.all (·<nid+8)&&eff.upd.all (λp=>p.2.all (·<nid+8)&&(inR nid p.1||(ids.contains p.1&&QGb h p.1)))
def qu:List (Nat×Blk)->List Nat
 | []=>[]
 | (id,b)::h=>(match b.live with
  | true=>id::(qu h).filter (· != id)
  | false=>(qu h).filter (· != id))
def QC9(b:Bool)(v:AV)(K:AV->QC):QC:=match b with
 | false=>K v
 | true=>(match v with
  | .int false k n => .bndI n λx=>K (.int false k x)
  | v=>K v)
theorem Qc1{v:AV}{K:AV->QC}(h:(QC9 b v K).den Q):(K v).den Q:=by
 unfold QC9 at h;split at h
 .exact h
 .split at h
  .exact h _ rfl
  .exact h
def We(E:Env)(o:Oper)(nid:Nat)(st:St)(K:Rec->QC):QC:=
 match qV (E.gc && !E.sp) E.P E.C E.M o.op (evA st.tm) nid (qu st.hp)with
 | (ids,g)=>
  match Z3 st.hp ids with
  | none => .fail "a block that is not known"
  | some blks=>
   match g blks with
   | none => .fail o.pos
   | some eff => if Zh nid ids st.hp eff then QER eff.known eff.pre (QC9 (E.bi o.op) eff.val λv=>GR E.gc QAc v λv=>K ⟨v, eff.upd, ids⟩) else .fail "scope"
structure Ran (E:Env) (o:Oper) (nid:Nat) (st:St) (rec:Rec):Prop where
 ran:∃ all g blks eff,qV (E.gc && !E.sp) E.P E.C E.M o.op (evA st.tm) nid all=(rec.ids,g)/\Z3 st.hp rec.ids=some blks/\g blks=some eff/\eff.pre=true/\Zh nid rec.ids st.hp eff=true/\rec.val=eff.val/\rec.upd=eff.upd
theorem QTt{E:Env}{st:St}{K:Rec->QC}(h:(We E o nid st K).den Q):∃ rec,Ran E o nid st rec/\(K rec).den Q:=by
 unfold We at h;split at h;rename_i ids g hV;split at h
 .exact h.elim
 .rename_i blks hb;split at h
  .exact h.elim
  .rename_i eff he;split at h
   .rename_i hok;obtain⟨hp,hK⟩:=QK4 h;have hK:=Qc1 hK;rw[Gk QDn]at hK;exact⟨_,⟨_,g,blks,eff,hV,hb,he,hp,hok,rfl,rfl⟩,hK⟩
   .exact h.elim
theorem Ran.noDefer{E:Env}{st:St}{rec:Rec}(h:Ran E o nid st rec):∀ c,o.op ≠ .defer c:=by
 intro c hc;obtain⟨all,g,blks,eff,hV,_,hg,_⟩:=h.ran;rw[hc]at hV;cases hgc:(E.gc && !E.sp)<;>rw[hgc]at hV<;>simp only[qV,j8,QBt,GG,noV,qpI]at hV<;>rw[<-hV.2]at hg<;>cases hg
def XC(ops:Array Oper)(tm:List AV)(o:Oper):Option Bool:=
 match o.guard with
 | none=>some true
 | some (j,want)=>match (ops[j]?).bind (·.dst)with
  | none=>some false
  | some d=>match QJ tm d with
   | .bool true b=>some (b==want)
   | .tup _=>some false
   | .agg _=>some false
   | .int .. => some false
   | _=>none
def qR(d:Nat)(b:Bool):List AV:=tm.set d (.bool true b)
def QBI(ops:Array Oper)(tm:List AV)(o:Oper):Option (Nat×Bool):=
 match o.guard with
 | some (j,_)=>match (ops[j]?).bind (·.dst)with
  | none=>none
  | some d=>match QJ tm d with
   | .bool false b=>some (d,b)
   | _=>none
 | none=>match o.op with
  | .pick (.tmp d) _ _=>match QJ tm d with
   | .bool false b=>some (d,b)
   | _=>none
  | _=>none
def GB(E:Env)(ops:Array Oper)(tm:List AV)(o:Oper):Option (Nat×IntKind×Int×Nat):=match E.fk with
 | false=>none
 | true=>match XC ops tm o with
  | some true=>match o.op with
   | .indexAddr t x (.tmp d)=>match E.P.underlying t,evA tm x,QJ tm d with
    | some (.array len _),.ptr _ _ _,.int false k i=>some (d,k,i,len)
    | _,_,_=>none
   | .index t x (.tmp d)=>match E.P.underlying t,evA tm x,QJ tm d with
    | some (.array len _),.agg _,.int false k i=>some (d,k,i,len)
    | _,_,_=>none
   | _=>none
  | _=>none
def QGD(i:Int):Nat->Nat->(Nat->QC)->QC
 | 0,m,f=>f m
 | n+1,m,f => .br (decide (i=m)) (f m) (QGD i n (m+1) f)
def QGa(i:Int)(len:Nat)(f:Nat->QC):QC := .need (decide (0<=i/\i<len)) (QGD i (len-1) 0 f)
theorem QL9{Q:AV->List (Nat×Blk)->Prop}{i:Int}{f:Nat->QC}:∀{n m:Nat},(QGD i n m f).den Q->(m:Int)<=i->i<=(m:Int)+n->∃ k:Nat,i=k/\(f k).den Q
 | 0,m,h,h1,h2=>⟨m,by omega,h⟩
 | n+1,m,h,h1,h2=>by
  by_cases e:i=m
  .exact⟨m,e,h.1 (qde e)⟩
  .exact QL9 (h.2 (decide_eq_false e)) (by omega) (by omega)
theorem QMa{len:Nat}{f:Nat->QC}(h:(QGa i len f).den Q):∃ k:Nat,i=k/\(f k).den Q:=by
 have:=qdt h.1;exact QL9 h.2 (by omega) (by omega)
theorem QQ9{E:Env}{tm:List AV}{d:Nat}{k:IntKind}{len:Nat}(h:GB E ops tm o=some (d,k,i,len)):QJ tm d = .int false k i:=by
 unfold GB at h;split at h<;>(try (cases h;done))
 split at h<;>(try (cases h;done))
 split at h<;>(try (cases h;done))
 all_goals
  split at h<;>(try (cases h;done))
  rename_i hg;simp only[qsI,qpI]at h;obtain⟨rfl,rfl,rfl,_⟩:=h;exact hg
def JU:AV->AV
 | .opt _ v=>v
 | v=>v
def gdB(want b:Bool):Bool:=match want with
 | true=>b
 | false => !b
def vJ(ops:Array Oper)(tm:List AV)(o:Oper):Option Bool:=match o.guard with
 | some (j,want)=>match (ops[j]?).bind (·.dst)with
  | some d=>match QJ tm d with
   | .bool false b=>some (gdB want b)
   | .opt b' (.bool _ b)=>some (b'&&gdB want b)
   | _=>none
  | none=>none
 | none=>none
def ZZ:AV->List Bool
 | .opt b _=>[b]
 | _=>[]
def Hk:List Bool->Option Bool
 | []=>none
 | b::l=>match Hk l with
  | none=>some b
  | some c=>some (b&&c)
theorem QHu:∀{l:List Bool},(∀ c,Hk l=some c->c=true)->∀ b∈l,b=true
 | [],_,b,hb=>by cases hb
 | x::l,h,b,hb=>by
  cases hl:Hk l with
  | none=>
   have hx:x=true:=h x (by simp only[Hk,hl])
   rcases List.mem_cons.1 hb with rfl|hb
   .exact hx
   .exact QHu (λc hc=>by rw[hl]at hc;cases hc) b hb
  | some c=>
   have hx:(x&&c)=true:=h (x&&c) (by simp only[Hk,hl])
   rw[qbA]at hx;rcases List.mem_cons.1 hb with rfl|hb
   .exact hx.1
   .exact QHu (λc' hc=>by rw[hl]at hc;cases hc;exact hx.2) b hb
def QAq(tm:List AV):List Operand->List Bool
 | []=>[]
 | x::l=>ZZ (evA tm x)++QAq tm l
def gOf:Option Bool->Bool
 | none=>true
 | some g=>g
def Qgr:Option Bool->AV->AV
 | none,v=>v
 | some g,v => .opt g v
def zt(g:Option Bool)(l:List Bool):Option Bool:=match Hk l with
 | none=>none
 | some c=>(match g with
  | none=>some c
  | some g=>some (!g||c))
def okO(n:Option Bool):Prop:=∀ c,n=some c->c=true
theorem QOu{g:Option Bool}{l:List Bool}(h:okO (zt g l))(hg:gOf g=true):∀ b∈l,b=true:=by
 refine QHu λc hc=>?_;unfold zt at h;rw[hc]at h;cases g with
 | none=>exact h _ rfl
 | some g=>
  simp only[gOf]at hg;subst hg;have:=h _ rfl;simpa using this
def QAL(n:Option Bool)(t:QC):QC:=match n with
 | none=>t
 | some b => .need b t
theorem QDx{n:Option Bool}{t:QC}(h:(QAL n t).den Q):okO n/\t.den Q:=by
 cases n with
 | none=>exact⟨λc hc=>(by cases hc),h⟩
 | some b=>exact⟨λc hc=>(by cases hc;exact h.1),h.2⟩
def QDM(known pre:Bool):List Bool:=match known with
 | true=>(match pre with|true=>[]|false=>[false])
 | false=>[pre]
theorem QdM{known pre:Bool}(h:∀ b∈QDM known pre,b=true):pre=true:=by
 cases known<;>cases pre<;>first|rfl|exact h _ (by simp[QDM])
def QIs(E:Env)(o:Oper)(nid:Nat)(st:St)(g:Bool):Option (Option Bool×Rec):=
 match qV (E.gc && !E.sp) E.P E.C E.M o.op (evA (st.tm.map JU)) nid (qu st.hp)with
 | (ids,gg)=>match Z3 st.hp ids with
  | none=>none
  | some blks=>match gg blks with
   | none=>none
   | some eff=>match eff.upd,Zh nid ids st.hp eff with
    | [],true=>(match zt (some g) (QDM eff.known eff.pre++QAq st.tm o.op.operands.toList)with
     | none=>some (none,⟨.opt g eff.val,[],ids⟩)
     | some c=>some (some c,⟨.opt g eff.val,[],ids⟩))
    | _,_=>none
structure qf (E:Env) (ops:Array Oper) (o:Oper) (n:Nat) (st:St) (g:Bool) (u:AV) (ids:List Nat):Prop where
 gd:∀(a:Act) (r:Nat->Loc),(∀ t,t∈o.looksAt ops->a.tmps.getD t undef=(QJ st.tm t).den r)->Region.wanted o (yielded ops a.tmps)=g
 sc:u.all (·<n+8)=true
 off:g=false->∀ r,u.den r=undef
 run:g=true->∃ tm' v',tm'.length=st.tm.length/\(∀ x∈o.op.operands,∀ r,(evA tm' x).den r=(evA st.tm x).den r)/\(∀ t p,(QJ st.tm t).all p=true->(QJ tm' t).all p=true)/\Ran E o n { st with tm:=tm' } ⟨v',[],ids⟩/\∀ r,v'.den r=u.den r
theorem QR9:QJ (tm.map JU) t=JU (QJ tm t):=by
 unfold QJ;rw[List.getElem?_map];cases tm[t]? <;> rfl
theorem QTb(h:v.all p=true):(JU v).all p=true:=by cases v<;>exact h
theorem QHg{v:AV}(h:∀ b∈ZZ v,b=true)(r:Nat->Loc):(JU v).den r=v.den r:=by
 cases v with
 | opt b v=>have:=h b (by simp[ZZ]);subst this;simp only[JU,AV.den]
 | _=>rfl
theorem QcE(x:Operand):evA (tm.map JU) x=JU (evA tm x)∨evA (tm.map JU) x=evA tm x:=by
 cases x with
 | tmp t=>exact .inl (QR9 tm t)
 | _=>exact .inr rfl
theorem QMl{tm:List AV}{r:Nat->Loc}:∀{l:List Operand},(∀ b∈QAq tm l,b=true)->∀ x∈l,(evA (tm.map JU) x).den r=(evA tm x).den r
 | [],_,x,hx=>by cases hx
 | y::l,h,x,hx=>by
  simp only[QAq,List.mem_append]at h;rcases List.mem_cons.1 hx with rfl|hx
  .rcases QcE tm x with e|e
   .rw[e];exact QHg (λb hb=>h b (.inl hb)) r
   .rw[e]
  .exact QMl (λb hb=>h b (.inr hb)) x hx
theorem QBy{tm:List AV}{x:Bool}(h:XC ops tm o=some x)(ha:∀ t,t∈o.looksAt ops->a.tmps.getD t undef=(QJ tm t).den r):
  Region.wanted o (yielded ops a.tmps)=x:=by
 unfold XC at h;unfold Region.wanted;cases hg:o.guard with
 | none=>simp only[hg,qsI]at h;subst h;rfl
 | some q=>
  obtain⟨j,want⟩:=q;simp only[hg]at h ⊢;unfold yielded;cases hd:(ops[j]?).bind (·.dst)with
  | none=>simp only[hd,qsI]at h;subst h;rfl
  | some d=>
   simp only[hd,Option.bind_some]at h ⊢;have had:=ha d (by unfold Oper.looksAt;simp[hg,hd])
   have key:∀ v,(QJ tm d).den r=v->v≠undef/\a.tmps[d]? = some v∨v=undef/\(a.tmps[d]? = none∨a.tmps[d]? = some undef):=by
    intro v hv;rw[hv]at had;cases hq:a.tmps[d]? with
    | none=>simp[hq]at had;exact .inr ⟨had.symm,.inl rfl⟩
    | some u => simp[hq]at had; subst had; by_cases hu : u = undef
                . subst hu; exact .inr ⟨rfl,.inr rfl⟩
                . exact .inl ⟨hu,rfl⟩
   split at h<;>(try (cases h;done))<;>rename_i he<;>simp only[qsI]at h<;>subst h<;>rw[he]at key
   .rcases key _ rfl with ⟨_,h2⟩|⟨h2,_⟩
    .rw[h2];simp[AV.den]
    .simp[AV.den,undef]at h2
   .rcases key _ rfl with ⟨_,h2⟩|⟨_,h2|h2⟩<;>rw[h2]<;>rfl
   .rcases key _ rfl with ⟨_,h2⟩|⟨_,h2|h2⟩<;>rw[h2]<;>rfl
   .rcases key _ rfl with ⟨_,h2⟩|⟨_,h2|h2⟩<;>rw[h2]<;>rfl
theorem QMt{tm:List AV}{g:Bool}(h:vJ ops tm o=some g)(ha:∀ t,t∈o.looksAt ops->a.tmps.getD t undef=(QJ tm t).den r):
  Region.wanted o (yielded ops a.tmps)=g:=by
 unfold vJ at h;unfold Region.wanted;cases hg:o.guard with
 | none=>simp only[hg]at h;cases h
 | some q=>
  obtain⟨j,want⟩:=q;simp only[hg]at h ⊢;unfold yielded;cases hd:(ops[j]?).bind (·.dst)with
  | none=>simp only[hd]at h;cases h
  | some d=>
   simp only[hd,Option.bind_some]at h ⊢;have had:=ha d (by unfold Oper.looksAt;simp[hg,hd])
   have key:∀ v,(QJ tm d).den r=v->v≠undef/\a.tmps[d]? = some v∨v=undef/\(a.tmps[d]? = none∨a.tmps[d]? = some undef):=by
    intro v hv;rw[hv]at had;cases hq:a.tmps[d]? with
    | none=>simp[hq]at had;exact .inr ⟨had.symm,.inl rfl⟩
    | some u => simp[hq]at had; subst had; by_cases hu : u = undef
                . subst hu; exact .inr ⟨rfl,.inr rfl⟩
                . exact .inl ⟨hu,rfl⟩
   split at h<;>(try (cases h;done))
   .rename_i b he;simp only[qsI]at h;subst h;rw[he]at key;rcases key _ rfl with ⟨_,h2⟩|⟨h2,_⟩
    .rw[h2];cases want<;>cases b<;>rfl
    .simp[AV.den,undef]at h2
   .rename_i b' k b he;simp only[qsI]at h;subst h;rw[he]at key;cases b' with
    | true=>
     rcases key _ rfl with ⟨_,h2⟩|⟨h2,_⟩
     .rw[h2];cases want<;>cases b<;>rfl
     .simp[AV.den,undef]at h2
    | false=>
     rcases key _ rfl with ⟨h1,_⟩|⟨_,h2|h2⟩
     .exact absurd rfl h1
     .rw[h2];rfl
     .rw[h2];rfl
theorem QXT{E:Env}{st:St}{g:Bool}{m:Option Bool}{rec:Rec}(h:QIs E o n st g=some (m,rec))(hg:vJ ops st.tm o=some g)(hb:okO m):rec=⟨rec.val,[],rec.ids⟩/\qf E ops o n st g rec.val rec.ids:=by
 unfold QIs at h;split at h;rename_i ids gg hV;split at h<;>(try (cases h;done))
 rename_i blks hbl;split at h<;>(try (cases h;done))
 rename_i eff he;split at h<;>(try (cases h;done))
 rename_i hu hok
 obtain⟨h1,rfl⟩:m=zt (some g) (QDM eff.known eff.pre++QAq st.tm o.op.operands.toList)/\rec=⟨.opt g eff.val,[],ids⟩:=by
  split at h<;>rename_i hi<;>simp only[qsI,qpI]at h<;>exact⟨h.1.symm.trans hi.symm,h.2.symm⟩
 rw[h1]at hb;refine⟨rfl,λa r ha=>QMt hg ha,?_,λhgf _=>by subst hgf;rfl,λhgt=>?_⟩
 .unfold Zh at hok;simp only[qbA]at hok;exact hok.1
 have hall:=QOu hb (by exact hgt)
 simp only[List.mem_append]at hall;refine⟨st.tm.map JU,eff.val,by simp,λx hx r=>QMl (λb hb=>hall b (.inr hb)) x (by simpa using hx),λt p hp=>?_,⟨_,gg,blks,eff,hV,hbl,he,?_,hok,rfl,hu.symm⟩,λ_=>by subst hgt;rfl⟩
 .rw[QR9];exact QTb _ hp
 .exact QdM λb hb=>hall b (.inl hb)
def HQ(E:Env)(ops:Array Oper)(o:Oper)(nid:Nat)(st:St):Option (Option Bool×Rec):=match E.sp with
 | true=>(match vJ ops st.tm o with
  | some g=>QIs E o nid st g
  | none=>none)
 | false=>none
theorem QS4{E:Env}{st:St}{m:Option Bool}{rec:Rec}(h:HQ E ops o n st=some (m,rec))(hb:okO m):∃ g,rec=⟨rec.val,[],rec.ids⟩/\qf E ops o n st g rec.val rec.ids:=by
 unfold HQ at h;split at h<;>(try (cases h;done))
 split at h<;>(try (cases h;done))
 rename_i g hg;exact⟨g,QXT h hg hb⟩
def QAA(x kp p kq q:Bool):Bool:=match kp with
 | true=>(match p with|true=>x||q|false => !x&&q)
 | false=>(match kq with
  | true=>(match q with|true => !x||p|false=>x&&p)
  | false=>cond x p q)
theorem QQQ(x kp p kq q:Bool):QAA x kp p kq q=(match x with|true=>p|false=>q):=by cases x<;>cases kp<;>cases p<;>cases kq<;>cases q<;>rfl
def QGt(ops:Array Oper)(tm:List AV)(o:Oper):Option (Option Bool):=match o.guard with
 | none=>some none
 | some _=>match XC ops tm o with
  | some true=>some none
  | some false=>none
  | none=>match vJ ops tm o with
   | some g=>some (some g)
   | none=>none
structure Pk where
 n:Option Bool
 g:Option Bool
 e:Bool
def Pk.rec_(p:Pk)(y:Bool):Rec:=⟨Qgr p.g (.bool false y),[],[]⟩
def Hp(E:Env)(ops:Array Oper)(o:Oper)(tm:List AV):Option Pk:=match E.sp with
 | false=>none
 | true=>match o.op with
  | .pick (.tmp d) a b=>match JU (QJ tm d)with
   | .bool false x=>match JU (evA tm a),JU (evA tm b)with
    | .bool kp p,.bool kq q=>match QGt ops tm o with
     | some g=>(match zt g (ZZ (QJ tm d)++((ZZ (evA tm a)).map (!x||·)++(ZZ (evA tm b)).map (x||·)))with
      | none=>some ⟨none,g,QAA x kp p kq q⟩
      | some c=>some ⟨some c,g,QAA x kp p kq q⟩)
     | none=>none
    | _,_=>none
   | _=>none
  | _=>none
theorem QhZ{tm:List AV}{g:Option Bool}(h:QGt ops tm o=some g)(ha:∀ t,t∈o.looksAt ops->a.tmps.getD t undef=(QJ tm t).den r):
  Region.wanted o (yielded ops a.tmps)=gOf g:=by
 unfold QGt at h;split at h
 .rename_i hn;simp only[qsI]at h;subst h;unfold Region.wanted;rw[hn];rfl
 .split at h
  .rename_i hv;simp only[qsI]at h;subst h;exact QBy hv ha
  .cases h
  .split at h<;>(try (cases h;done))
   rename_i hb;simp only[qsI]at h;subst h;exact QMt hb ha
def XE:Operand->List AV
 | .tmp t=>tm.set t (JU (QJ tm t))
 | _=>tm
theorem Hl(d t:Nat)(v:AV):QJ (tm.set d v) t=if d=t/\d<tm.length then v else QJ tm t:=by
 unfold QJ;rw[List.getElem?_set]
 by_cases h:d=t
 .subst h
  by_cases g:d<tm.length
  .simp[g]
  .simp[g]
 .simp[h]
theorem QQO(x:Operand)(t:Nat):QJ (XE tm x) t=QJ tm t∨QJ (XE tm x) t=JU (QJ tm t)/\x = .tmp t:=by
 unfold XE;split
 .rename_i s;rw[Hl];split
  .rename_i h;rw[<-h.1];exact .inr ⟨rfl,rfl⟩
  .exact .inl rfl
 .exact .inl rfl
theorem QVD{tm:List AV}{k:Bool}(h:JU (evA tm x) = .bool k b):evA (XE tm x) x = .bool k b∨∃ k',evA (XE tm x) x = .bool k' b:=by
 unfold XE;split
 .rename_i s;have e:evA (tm.set s (JU (QJ tm s))) (.tmp s)=QJ (tm.set s (JU (QJ tm s))) s:=rfl;rw[e,Hl];split
  .exact .inl h
  .rename_i hn
   have:QJ tm s = .tup []:=by
    unfold QJ;rw[List.getElem?_eq_none (by simpa using hn)];rfl
   have h':JU (QJ tm s) = .bool k b:=h;rw[this]at h';cases h'
 .rename_i hx;cases x with
  | tmp t=>exact absurd rfl (hx t)
  | const v=>
   left;show ofValue v=_;have h':JU (ofValue v) = .bool k b:=h;cases hv:ofValue v with
   | opt b w=>
    exfalso;unfold ofValue at hv;split at hv<;>(try (cases hv;done))
    unfold Vz at hv;split at hv<;>cases hv
   | _=>rw[hv]at h';first|exact h'|cases h'
  | _=>cases h
theorem QQd{E:Env}{st:St}{p:Pk}(h:Hp E ops o st.tm=some p)(hb:okO p.n):qf E ops o n st (gOf p.g) (p.rec_ p.e).val (p.rec_ p.e).ids:=by
 unfold Hp at h;split at h<;>(try (cases h;done))
 split at h<;>(try (cases h;done))
 rename_i d a b hop;split at h<;>(try (cases h;done))
 rename_i x hc;split at h<;>(try (cases h;done))
 rename_i kp p' kq q ha hbv;split at h<;>(try (cases h;done))
 rename_i g hg
 obtain⟨e1,rfl,e3⟩:p.n=zt g (ZZ (QJ st.tm d)++((ZZ (evA st.tm a)).map (!x||·)++(ZZ (evA st.tm b)).map (x||·)))/\p.g=g/\p.e=QAA x kp p' kq q:=by
  split at h<;>rename_i hi<;>simp only[qsI]at h<;>subst h<;>exact⟨hi.symm,rfl,rfl⟩
 rw[e1]at hb;refine⟨λa r ha=>QhZ hg ha,?_,?_,λhgt=>?_⟩
 .unfold Pk.rec_;cases p.g<;>rfl
 .intro hgf r;unfold Pk.rec_;cases hpg:p.g with
  | none=>rw[hpg]at hgf;cases hgf
  | some g=>rw[hpg]at hgf;simp only[gOf]at hgf;subst hgf;rfl
 have hall:=QOu hb hgt;simp only[List.mem_append]at hall
 have hu:∀ y r,((p.rec_ y).val).den r = .bool y:=by
  intro y r;unfold Pk.rec_;cases hpg:p.g with
  | none=>rfl
  | some g=>rw[hpg]at hgt;simp only[gOf]at hgt;subst hgt;rfl
 obtain⟨arm,k,v,harm,hev,hcond,hv⟩:∃ (arm:Operand) (k v:Bool),arm=(match x with|true=>a|false=>b)/\JU (evA st.tm arm) = .bool k v/\(∀ c∈ZZ (evA st.tm arm),c=true)/\QAA x kp p' kq q=v:=by
  cases x with
  | true=>exact⟨a,kp,p',rfl,ha,λc hcm=>by
    have:=hall (!true||c) (.inr (.inl (List.mem_map.2 ⟨c,hcm,rfl⟩)))
    simpa using this,QQQ _ _ _ _ _⟩
  | false=>exact⟨b,kq,q,rfl,hbv,λc hcm=>by
    have:=hall (false||c) (.inr (.inr (List.mem_map.2 ⟨c,hcm,rfl⟩)))
    simpa using this,QQQ _ _ _ _ _⟩
 have hdl:d<st.tm.length:=by
  rcases Nat.lt_or_ge d st.tm.length with h|h
  .exact h
  .unfold QJ at hc;rw[List.getElem?_eq_none h]at hc;cases hc
 have hbl:(XE st.tm arm).length=st.tm.length:=by unfold XE;split<;>simp
 have hden:∀ t r,(QJ ((XE st.tm arm).set d (.bool true x)) t).den r=(QJ st.tm t).den r:=by
  intro t r;rw[Hl];split
  .rename_i hd;rw[<-hd.1,<-QHg (λc hcm=>hall c (.inl hcm)) r,hc];rfl
  .rcases QQO st.tm arm t with e|⟨e,harm'⟩
   .rw[e]
   .rw[e];refine QHg (λc hcm=>hcond c ?_) r;rw[harm'];exact hcm
 have hevd:evA ((XE st.tm arm).set d (.bool true x)) (.tmp d) = .bool true x:=by
  show QJ _ d=_;rw[Hl,if_pos ⟨rfl,by rw[hbl];exact hdl⟩]
 have heva:∃ k',evA ((XE st.tm arm).set d (.bool true x)) arm = .bool k' v:=by
  have h1:∃ k',evA (XE st.tm arm) arm = .bool k' v:=by
   rcases QVD hev with h|h
   .exact⟨_,h⟩
   .exact h
  cases harm2:arm with
  | tmp t=>
   show ∃ k',QJ _ t=_;rw[Hl];split
   .rename_i hd;have h2:JU (QJ st.tm t) = .bool k v:=by rw[harm2]at hev;exact hev
    rw[<-hd.1,hc]at h2;cases h2;exact⟨true,rfl⟩
   .rw[harm2]at h1;exact h1
  | const c=>rw[harm2]at h1;exact h1
  | global c=>rw[harm2]at h1;exact h1
  | func c=>rw[harm2]at h1;exact h1
 obtain⟨k',heva⟩:=heva;refine⟨(XE st.tm arm).set d (.bool true x),.bool k' v,by simp[hbl],λy _ r=>?_,λt pp hp=>?_,⟨qu st.hp,λ_=>some ⟨true,true,.bool k' v,[]⟩,[],⟨true,true,.bool k' v,[]⟩,?_,rfl,rfl,rfl,rfl,rfl,rfl⟩,λr=>?_⟩
 .cases y with
  | tmp t=>exact hden t r
  | _=>rfl
 .rw[Hl];split
  .rfl
  .rcases QQO st.tm arm t with e|⟨e,_⟩
   .rw[e];exact hp
   .rw[e];exact QTb _ hp
 .rw[hop]
  have hvop:GG E.P (.pick (.tmp d) a b) (evA ((XE st.tm arm).set d (.bool true x)))=okE (.bool k' v):=by
   simp only[GG,hevd];cases x with
   | true=>simp only at harm;rw[<-harm,heva]
   | false=>simp only at harm;rw[<-harm,heva]
  simp only[‹E.sp=true›,Bool.not_true,Bool.and_false,qV,j8,QBt,hvop,okE];rfl
 .rw[hu,e3,hv];rfl
def Z5(E:Env)(ops:Array Oper)(base:Nat):Nat->List Oper->St->(List Rec->St->QC)->QC
 | _,[],st,K=>K [] st
 | k,o::l,st,K=>
  let go:=λ(st:St)=>match XC ops st.tm o with
   | some true=>We E o (base+8*k) st λrec=>Z5 E ops base (k+1) l (Qu o rec st) λrs st'=>K (rec::rs) st'
   | some false=>Z5 E ops base (k+1) l (Qu o ⟨.tup [],[],[]⟩ st) λrs st'=>K (⟨.tup [],[],[]⟩::rs) st'
   | none => .fail "a guard"
  match Hp E ops o st.tm with
  | some p=>QAL p.n (.bnd p.e λy=>Z5 E ops base (k+1) l (Qu o (p.rec_ y) st) λrs st'=>K (p.rec_ y::rs) st')
  | none=>match HQ E ops o (base+8*k) st with
   | some (n,rec)=>QAL n (Z5 E ops base (k+1) l (Qu o rec st) λrs st'=>K (rec::rs) st')
   | none=>match QBI ops st.tm o with
    | none=>(match GB E ops st.tm o with
     | none=>go st
     | some (d,k,i,len)=>QGa i len λm=>go { st with tm:=st.tm.set d (.int true k m) })
    | some (d,b) => .br b (go { st with tm:=qR st.tm d true }) (go { st with tm:=qR st.tm d false })
def Eqv(tm tm':List AV):Prop:=tm.length=tm'.length/\∀ t,(∀ r,(QJ tm t).den r=(QJ tm' t).den r)/\∀ p,(QJ tm t).all p=(QJ tm' t).all p
theorem QA5(d t:Nat)(v:AV):QJ (tm.set d v) t=if d=t/\d<tm.length then v else QJ tm t:=by
 unfold QJ;rw[List.getElem?_set]
 by_cases h:d=t
 .subst h
  by_cases g:d<tm.length
  .simp[g]
  .simp[g]
 .simp[h]
theorem QAw{tm:List AV}{d:Nat}{c:Bool}(h:QJ tm d = .bool c b)(b':Bool)(hb:b=b'):Eqv tm (qR tm d b'):=by
 subst hb;refine⟨by simp[qR],λt=>?_⟩
 unfold qR;rw[QA5];split
 .rename_i e;rw[<-e.1,h];exact⟨λ_=>rfl,λ_=>rfl⟩
 .exact⟨λ_=>rfl,λ_=>rfl⟩
theorem QQf{tm:List AV}{d:Nat}{k:IntKind}(h:QJ tm d = .int false k i)(m:Nat)(hm:i=m):Eqv tm (tm.set d (.int true k m)):=by
 subst hm;refine⟨by simp,λt=>?_⟩
 rw[QA5];split
 .rename_i e;rw[<-e.1,h];exact⟨λ_=>rfl,λ_=>rfl⟩
 .exact⟨λ_=>rfl,λ_=>rfl⟩
theorem Eqv.refl:Eqv tm tm:=⟨rfl,λ_=>⟨λ_=>rfl,λ_=>rfl⟩⟩
theorem Eqv.symm{a b:List AV}(h:Eqv a b):Eqv b a:=⟨h.1.symm,λt=>⟨λr=>((h.2 t).1 r).symm,λp=>((h.2 t).2 p).symm⟩⟩
theorem Eqv.trans{a b c:List AV}(h:Eqv a b)(k:Eqv b c):Eqv a c:=⟨h.1.trans k.1,λt=>⟨λr=>((h.2 t).1 r).trans ((k.2 t).1 r),λp=>((h.2 t).2 p).trans ((k.2 t).2 p)⟩⟩
theorem Hy:(setO tm d v).length=tm.length:=by cases d<;>simp[setO]
theorem ZJ(t:Nat):QJ (setO tm d v) t=if d=some t/\t<tm.length then v else QJ tm t:=by
 cases d with
 | none=>simp[setO]
 | some d=>
  simp only[setO,QA5,qsI]
  by_cases h:d=t
  .subst h;rfl
  .simp[h]
theorem Eqv.setO{a b:List AV}(h:Eqv a b)(d:Option Nat)(v:AV):Eqv (setO a d v) (setO b d v):=by
 refine⟨by rw[Hy,Hy,h.1],λt=>?_⟩
 rw[ZJ,ZJ,h.1];split
 .exact⟨λ_=>rfl,λ_=>rfl⟩
 .exact h.2 t
inductive YV (E:Env) (ops:Array Oper) (base:Nat):Nat->List Oper->St->List Rec->St->Prop
 | nil {k st}:YV E ops base k [] st [] st
 | run {k o l st tm rec rs st'} (he:Eqv st.tm tm) (hg:XC ops tm o=some true) (h:Ran E o (base+8*k) { st with tm:=tm } rec)
   (hr:YV E ops base (k+1) l (Qu o rec { st with tm:=tm }) rs st'):YV E ops base k (o::l) st (rec::rs) st'
 | skip {k o l st tm rs st'} (he:Eqv st.tm tm) (hg:XC ops tm o=some false)
   (hr:YV E ops base (k+1) l (Qu o ⟨.tup [],[],[]⟩ { st with tm:=tm }) rs st'):YV E ops base k (o::l) st (⟨.tup [],[],[]⟩::rs) st'
 | spec {k o l st g u ids rs st'} (h:qf E ops o (base+8*k) st g u ids)
   (hr:YV E ops base (k+1) l (Qu o ⟨u,[],ids⟩ st) rs st'):YV E ops base k (o::l) st (⟨u,[],ids⟩::rs) st'
theorem QOx{tm:List AV}{d:Nat}(h:QBI ops tm o=some (d,b)):QJ tm d = .bool false b:=by
 unfold QBI at h;split at h
 .split at h
  .cases h
  .split at h
   .rename_i hg;simp only[qsI,qpI]at h;obtain⟨rfl,rfl⟩:=h;exact hg
   .cases h
 .split at h
  .split at h
   .rename_i hg;simp only[qsI,qpI]at h;obtain⟨rfl,rfl⟩:=h;exact hg
   .cases h
  .cases h
theorem QAQ{E:Env}{ops:Array Oper}{base:Nat}{Q:AV->List (Nat×Blk)->Prop}:∀(l:List Oper) (k:Nat) (st:St) (K:List Rec->St->QC),(Z5 E ops base k l st K).den Q ->
  ∃ rs st',YV E ops base k l st rs st'/\(K rs st').den Q
 | [],k,st,K,h=>⟨[],st,.nil,h⟩
 | o::l,k,st,K,h=>by
  have go:∀ tm,Eqv st.tm tm->(match XC ops tm o with
   | some true=>We E o (base+8*k) { st with tm:=tm } λrec=>Z5 E ops base (k+1) l (Qu o rec { st with tm:=tm }) λrs st'=>K (rec::rs) st'
   | some false=>Z5 E ops base (k+1) l (Qu o ⟨.tup [],[],[]⟩ { st with tm:=tm }) λrs st'=>K (⟨.tup [],[],[]⟩::rs) st'
   | none => .fail "a guard" : QC).den Q -> ∃ rs st', YV E ops base k (o :: l) st rs st' /\ (K rs st').den Q := by
   intro tm he h;split at h
   .rename_i hg;obtain⟨rec,h1,h2⟩:=QTt h;obtain⟨rs,st',h3,h4⟩:=QAQ l _ _ _ h2;exact⟨_,_,.run he hg h1 h3,h4⟩
   .rename_i hg;obtain⟨rs,st',h3,h4⟩:=QAQ l _ _ _ h;exact⟨_,_,.skip he hg h3,h4⟩
   .exact h.elim
  simp only[Z5]at h;split at h
  .rename_i p hs;obtain⟨hb,h⟩:=QDx h;have hsp:=QQd (n:=base+8*k) hs hb;obtain⟨rs,st',h3,h4⟩:=QAQ l _ _ _ (h _ rfl);exact⟨_,_,.spec hsp h3,h4⟩
  split at h
  .rename_i m rec hs;obtain⟨hb,h⟩:=QDx h;obtain⟨g,e,hsp⟩:=QS4 hs hb;obtain⟨rs,st',h3,h4⟩:=QAQ l _ _ _ h;rw[e]at h3 h4;exact⟨_,_,.spec hsp h3,h4⟩
  split at h
  .split at h
   .exact go st.tm (Eqv.refl _) h
   .rename_i d k' i len ha;obtain⟨m,e,h⟩:=QMa h;exact go _ (QQf (QQ9 ha) m e) h
  .rename_i d b ha;have hs:=QOx ha;cases hb:b with
   | true=>exact go _ (QAw hs true hb) (h.1 hb)
   | false=>exact go _ (QAw hs false hb) (h.2 hb)
structure Ctx where
 w:World
 ch:Nat->Prop
 n:Nat
 r:Nat->Loc
 rd:Option Nat
def zS(b:Nat):Deferred:={ target := .collected b,args := #[] }
def Dfr(G:Ctx)(r:Nat->Loc)(lk:Nat->Option Blk)(a:Act):Prop:=∃ bs:List Nat,a.defers=bs.map zS/\bs.Nodup/\∀ b∈bs,G.w.heap.size<=b/\∃ id,G.n<=id/\lk id=some .dfr/\(r id).foot b
theorem Dfr.none{G:Ctx}(h:a.defers=[]):Dfr G r lk a:=⟨[],h,List.nodup_nil,by simp⟩
theorem Dfr.to{G:Ctx}{r':Nat->Loc}{lk':Nat->Option Blk}{a':Act}(h:Dfr G r lk a)(ha:a'.defers=a.defers)(hl:∀ id,G.n<=id->lk id=some .dfr->lk' id=some .dfr/\r' id=r id):Dfr G r' lk' a':=by
 obtain⟨bs,h1,h2,h3⟩:=h;refine⟨bs,ha.trans h1,h2,λb hb=>?_⟩;obtain⟨k0,id,k1,k2,k3⟩:=h3 b hb;obtain⟨j1,j2⟩:=hl id k1 k2;exact⟨k0,id,k1,j1,by rw[j2];exact k3⟩
structure Inv (G:Ctx) (N:Nat) (r:Nat->Loc) (tf:Nat->AV) (lk:Nat->Option Blk) (a:Act) (w:World):Prop where
 size:a.tmps.size=N
 defers:Dfr G r lk a
 tm:∀ t,a.tmps.getD t undef=(tf t).den r
 rep:∀ id b,lk id=some b->QL r id w b
 live:∀ id b,lk id=some b->b.live=true
 sep:∀ id id' b b',lk id=some b->lk id'=some b'->id≠id'->b.own=true->∀ k,Qc r id b k->¬ Qc r id' b' k
 ext:∀ id,id<G.n->r id=G.r id
 fr:Fr G.w w G.ch
 own:∀ id b,lk id=some b->b.own=true->∀ k,Qc r id b k->G.ch k∨G.w.heap.size<=k
structure zd (nid:Nat) (tf:Nat->AV) (lk:Nat->Option Blk):Prop where
 tm:∀ t,(tf t).all (λi=>!inR nid i)=true
 out:∀ id b,lk id=some b->inR nid id=false
 blk:∀ id b,lk id=some b->b.all (λi=>!inR nid i)=true
def ve(N:Nat)(tf:Nat->AV)(d:Option Nat)(v:AV):Nat->AV:=λt=>if d=some t/\t<N then v else tf t
def Jd(u:List (Nat×Blk))(lk:Nat->Option Blk)(id:Nat):Option Blk:=match u with
 | []=>lk id
 | (i,b)::t=>if i==id then (if b.live then some b else none)else Jd t lk id
theorem vx{u:List (Nat×Blk)}{id:Nat}{b:Blk}(h:Jd u lk id=some b):(∃ p∈u,p.1=id/\p.2=b/\b.live=true)∨(lk id=some b/\∀ p∈u,p.1≠id):=by
 induction u with
 | nil=>exact .inr ⟨h,by simp⟩
 | cons p u ih=>
  obtain⟨i,b'⟩:=p;simp only[Jd]at h;split at h
  .rename_i he;have he:i=id:=by simpa using he
   split at h
   .rename_i hl;simp only[qsI]at h;subst h;exact .inl ⟨(i,b'),by simp,he,rfl,hl⟩
   .cases h
  .rename_i he;have he:i≠id:=by simpa using he
   rcases ih h with ⟨p,hp,h1⟩|⟨h1,h2⟩
   .exact .inl ⟨p,by simp[hp],h1⟩
   .refine .inr ⟨h1,λp hp=>?_⟩;rcases List.mem_cons.1 hp with rfl|hp
    .exact he
    .exact h2 p hp
theorem QGs{u:List (Nat×Blk)}{id:Nat}{b:Blk}(h:Jd u lk id=some b):(∃ p∈u,p.1=id/\p.2=b/\b.live=true/\True)∨(lk id=some b/\∀ p∈u,p.1≠id):=by
 rcases vx h with ⟨p,h1,h2,h3,h4⟩|h
 .exact .inl ⟨p,h1,h2,h3,h4,trivial⟩
 .exact .inr h
theorem QXC{u:List (Nat×Blk)}{id:Nat}{b:Blk}(h:∀ p∈u,p.1≠id)(hb:lk id=some b):Jd u lk id=some b:=by
 induction u with
 | nil=>exact hb
 | cons p u ih=>
  obtain⟨i,b'⟩:=p;have:(i==id)=false:=by have:=h (i,b') (by simp);simpa using this
  simp only[Jd,this];exact ih λp hp=>h p (by simp[hp])
theorem QDf(u h:List (Nat×Blk))(id:Nat):look (u++h) id=Jd u (look h) id:=by
 induction u with
 | nil=>rfl
 | cons p u ih=>obtain⟨i,b⟩:=p;simp only[List.cons_append,Kk,Jd];rw[ih]
theorem Act.getD_put(a:Act)(d:Option Nat)(v:Value)(t:Nat):(a.put d v).tmps.getD t undef=if d=some t/\t<a.tmps.size then v else a.tmps.getD t undef:=by
 cases d with
 | none=>simp[Act.put]
 | some d=>
  simp only[Act.put,Array.getD_eq_getD_getElem?,Array.getElem?_setIfInBounds,qsI]
  by_cases h:d=t
  .subst h
   by_cases g:d<a.tmps.size
   .simp[g]
   .simp[g]
  .simp[h]
theorem Act.put_size(a:Act)(d:Option Nat)(v:Value):(a.put d v).tmps.size=a.tmps.size:=by
 cases d<;>simp[Act.put]
theorem Act.put_defers(a:Act)(d:Option Nat)(v:Value):(a.put d v).defers=a.defers:=by
 cases d<;>rfl
theorem Inv.step{G:Ctx}{N:Nat}{r':Nat->Loc}{tf:Nat->AV}{w':World}{u:List (Nat×Blk)}{d:Option Nat}{v:AV}(h:Inv G N r tf lk a w)(hf:zd nid tf lk)(hn:G.n<=nid)(hp:Qi lk r nid u w r' w')(hold:∀ p∈u,inR nid p.1=false->∃ b,lk p.1=some b/\b.own=true):Inv G N r' (ve N tf d v) (Jd u lk) (a.put d (v.den r')) w':=by
 have hr:∀ i,(!inR nid i)=true->r i=r' i:=λi hi=>(hp.same i (by simpa using hi)).symm
 have hft:∀ id b k,lk id=some b->(Qc r' id b k↔Qc r id b k):=by
  intro id b k hb;have:=hp.same id (hf.out id b hb);unfold Qc;rw[this]
 have hbk:∀ id b,lk id=some b->(∀ p∈u,p.1≠id)->∀ k,Qc r id b k->bk w' k=bk w k:=by
  intro id b hb hne k hk;refine hp.fr.block k ((h.rep id b hb).lt (h.live id b hb) k hk) ?_;rintro⟨p,hpu,hin,b0,hb0,hk0⟩;obtain⟨b',hb',how⟩:=hold p hpu hin;rw[hb']at hb0;cases hb0;exact h.sep p.1 id _ b hb' hb (hne p hpu) how k hk0 hk
 have hlt:∀ id b,lk id=some b->∀ k,Qc r id b k->k<w.heap.size:=λid b hb=>(h.rep id b hb).lt (h.live id b hb)
 have hnewO:∀ p∈u,p.2.live=true->inR nid p.1=true->∀ id b,lk id=some b->b.own=true->(∀ q∈u,q.1=id->q.2.live=true)->∀ k,Qc r' p.1 p.2 k->¬ Qc r id b k:=by
  intro p hpu hl hin id b hb hob hst k hk hk2;rcases hp.new p hpu hin hl k hk with h1|⟨q,hq,h1,h2,b0,hb0,h3⟩|⟨_,id0,b0,hb0,ho0,h3⟩
  .have:=hlt id b hb k hk2;omega
  .obtain⟨b',hb',how⟩:=hold q hq h1
   have hqi:q.1≠id:=by
    intro e;have e1:=h2 q hq rfl;rw[hst q hq e]at e1;cases e1
   rw[hb']at hb0;cases hb0;exact h.sep q.1 id _ b hb' hb hqi how k h3 hk2
  .have hne:id≠id0:=by
    rintro rfl;rw[hb]at hb0;cases hb0;rw[hob]at ho0;cases ho0
   exact h.sep id id0 b b0 hb hb0 hne hob k hk2 h3
 have hnew:∀ p∈u,p.2.live=true->inR nid p.1=true->p.2.own=true->∀ id b,lk id=some b->(∀ q∈u,q.1=id->q.2.live=true)->∀ k,Qc r' p.1 p.2 k->¬ Qc r id b k:=by
  intro p hpu hl hin hpo id b hb hne k hk hk2;rcases hp.new p hpu hin hl k hk with h1|⟨q,hq,h1,h2,b0,hb0,h3⟩|⟨hno,_⟩
  .have:=hlt id b hb k hk2;omega
  .obtain⟨b',hb',how⟩:=hold q hq h1
   have hqi:q.1≠id:=by
    intro e;have e1:=h2 q hq rfl;rw[hne q hq e]at e1;cases e1
   rw[hb']at hb0;cases hb0;exact h.sep q.1 id _ b hb' hb hqi how k h3 hk2
  .rw[hpo]at hno;cases hno
 have hdf:Dfr G r' (Jd u lk) (a.put d (v.den r')):=by
  refine h.defers.to (Act.put_defers _ _ _) λid _ hid=>⟨?_,hp.same id (hf.out id _ hid)⟩
  have hne:∀ p∈u,p.1≠id:=by
   intro p hpu he;have hin:inR nid p.1=false:=by rw[he];exact hf.out id _ hid
   obtain⟨b,hb,ho⟩:=hold p hpu hin;rw[he,hid]at hb;simp only[qsI]at hb;subst hb;cases ho
  exact QXC hne hid
 refine⟨by rw[Act.put_size];exact h.size,hdf,λt=>?_,λid b hb=>?_,λid b hb=>?_,λid id' b b' hb hb' hne how=>?_,λid hid=>?_,?_,λid b hb how=>?_⟩
 .rw[Act.getD_put,h.size];unfold ve;split
  .rfl
  .rw[h.tm t,Jf hr _ (hf.tm t)]
 .rcases vx hb with ⟨p,hpu,rfl,rfl,_⟩|⟨hb,hne⟩
  .exact hp.rep p hpu
  .exact(h.rep id b hb).keep hr (hp.same id (hf.out id b hb)).symm hp.fr.size (hf.blk id b hb) (λ_=>hbk id b hb hne)
 .rcases vx hb with ⟨p,_,_,_,hl⟩|⟨hb,_⟩
  .exact hl
  .exact h.live id b hb
 .intro k hk hk';rcases QGs hb with ⟨p,hpu,rfl,rfl,hl,hpl⟩|⟨hb1,hne1⟩<;>rcases QGs hb' with ⟨q,hqu,rfl,rfl,hl',hql⟩|⟨hb2,hne2⟩
  .cases hin:inR nid p.1<;>cases hin':inR nid q.1
   .obtain⟨b1,g1,o1⟩:=hold p hpu hin;obtain⟨b2,g2,o2⟩:=hold q hqu hin';obtain⟨c1,d1,e1⟩:=hp.stay p hpu hin hl k hk;obtain⟨c2,d2,e2⟩:=hp.stay q hqu hin' hl' k hk';rw[g1]at d1;cases d1;rw[g2]at d2;cases d2;exact h.sep _ _ _ _ g1 g2 hne o1 k e1 e2
   .obtain⟨b1,g1,o1⟩:=hold p hpu hin;obtain⟨c1,d1,e1⟩:=hp.stay p hpu hin hl k hk;rw[g1]at d1;cases d1;rcases hp.new q hqu hin' hl' k hk' with h1|⟨z,hz,h1,h2,c3,d3,h3⟩|⟨_,id0,b0,hb0,ho0,h3⟩
    .have:=hlt _ _ g1 k e1;omega
    .obtain⟨b3,g3,o3⟩:=hold z hz h1;rw[g3]at d3;cases d3
     have hzp:z.1≠p.1:=by
      intro e;have:=h2 p hpu e.symm;rw[hl]at this;cases this
     exact h.sep z.1 p.1 _ b1 g3 g1 hzp o3 k h3 e1
    .have hne0:p.1≠id0:=by
      intro e;rw[<-e,g1]at hb0;cases hb0;rw[o1]at ho0;cases ho0
     exact h.sep p.1 id0 b1 b0 g1 hb0 hne0 o1 k e1 h3
   .obtain⟨b2,g2,o2⟩:=hold q hqu hin';obtain⟨c2,d2,e2⟩:=hp.stay q hqu hin' hl' k hk';rw[g2]at d2;cases d2;rcases hp.new p hpu hin hl k hk with h1|⟨z,hz,h1,h2,c3,d3,h3⟩|⟨hno,_⟩
    .have:=hlt _ _ g2 k e2;omega
    .obtain⟨b3,g3,o3⟩:=hold z hz h1;rw[g3]at d3;cases d3
     have hzp:z.1≠q.1:=by
      intro e;have:=h2 q hqu e.symm;rw[hl']at this;cases this
     exact h.sep z.1 q.1 _ b2 g3 g2 hzp o3 k h3 e2
    .rw[how]at hno;cases hno
   .exact hp.apart p hpu q hqu hin hin' hne how hl' k hk hk'
  .rw[hft _ _ _ hb2]at hk';cases hin:inR nid p.1
   .obtain⟨b1,g1,o1⟩:=hold p hpu hin;obtain⟨c1,d1,e1⟩:=hp.stay p hpu hin hl k hk;rw[g1]at d1;cases d1;exact h.sep _ _ _ _ g1 hb2 hne o1 k e1 hk'
   .exact hnew p hpu hl hin how id' b' hb2 (λq hq e=>absurd e (hne2 q hq)) k hk hk'
  .rw[hft _ _ _ hb1]at hk;cases hin':inR nid q.1
   .obtain⟨b2,g2,o2⟩:=hold q hqu hin';obtain⟨c2,d2,e2⟩:=hp.stay q hqu hin' hl' k hk';rw[g2]at d2;cases d2;exact h.sep _ _ _ _ hb1 g2 hne how k hk e2
   .exact hnewO q hqu hl' hin' id b hb1 how (λz hz e=>absurd e (hne1 z hz)) k hk' hk
  .rw[hft _ _ _ hb1]at hk;rw[hft _ _ _ hb2]at hk';exact h.sep _ _ _ _ hb1 hb2 hne how k hk hk'
 .rw[hp.same id (by unfold inR;simp;omega)]
  exact h.ext id hid
 .refine⟨hp.fr.os.trans h.fr.os,hp.fr.tape.trans h.fr.tape,hp.fr.output.trans h.fr.output,Nat.le_trans h.fr.size hp.fr.size,Nat.le_trans h.fr.drawn hp.fr.drawn,λk hk hc=>?_⟩;rw[hp.fr.block k (Nat.lt_of_lt_of_le hk h.fr.size) ?_,h.fr.block k hk hc];rintro⟨p,hpu,hin,b0,hb0,hk0⟩;obtain⟨b',hb',how⟩:=hold p hpu hin;rw[hb']at hb0;cases hb0;rcases h.own _ _ hb' how k hk0 with h1|h1
  .exact hc h1
  .omega
 .intro k hk;rcases QGs hb with ⟨p,hpu,rfl,rfl,hl,_⟩|⟨hb1,_⟩
  .cases hin:inR nid p.1
   .obtain⟨b1,g1,o1⟩:=hold p hpu hin;obtain⟨c1,d1,e1⟩:=hp.stay p hpu hin hl k hk;rw[g1]at d1;cases d1;exact h.own _ _ g1 o1 k e1
   .rcases hp.new p hpu hin hl k hk with h1|⟨q,hq,h1,h2,c3,d3,h3⟩|⟨hno,_⟩
    .exact .inr (Nat.le_trans h.fr.size h1)
    .obtain⟨b1,g1,o1⟩:=hold q hq h1;rw[g1]at d3;cases d3;exact h.own _ _ g1 o1 k h3
    .rw[how]at hno;cases hno
  .rw[hft _ _ _ hb1]at hk;exact h.own _ _ hb1 how k hk
structure Kx (n:Nat) (st:St):Prop where
 tm:∀ t,(QJ st.tm t).all (·<n)=true
 out:∀ id b,look st.hp id=some b->id<n
 blk:∀ id b,look st.hp id=some b->b.all (·<n)=true
theorem Blk.all_mono{q:Nat->Bool}(h:∀ id,p id=true->q id=true):∀ b:Blk,b.all p=true->b.all q=true
 | .cells _ _ l,hb=>allL_mono h l hb
 | .rowl _ _ l,hb=>by
  simp only[Blk.all,List.all_eq_true]at hb ⊢;exact λx hx=>allL_mono h x (hb x hx)
 | .arr ..,_=>rfl
 | .gone,_=>rfl
 | .cellsR _ _ l,hb=>allL_mono h l hb
 | .rowlR _ _ l,hb=>by
  simp only[Blk.all,List.all_eq_true]at hb ⊢;exact λx hx=>allL_mono h x (hb x hx)
 | .lp _ _ l _ _ _,hb=>allL_mono h l hb
 | .dfr,_=>rfl
 | .mp ..,_=>rfl
 | .rowz ..,_=>rfl
 | .frz ..,_=>rfl
 | .frz2 ..,_=>rfl
 | .mpf ..,_=>rfl
 | .itm l _ _ _ _,hb=>allL_mono h l hb
mutual
theorem HT:∀ v:AV,v.all (λ_=>true)=true
 | .int .. | .bool .. | .addr .. | .nilp | .nils | .nilm | .nilf | .nili | .str .. | .raw .. | .ptr .. | .slice .. | .slz .. | .map .. | .yld .. => rfl
 | .fn _ l=>all_trueL l
 | .mth _ l=>all_trueL l
 | .alt _ v w=>by simp only[AV.all,HT v,HT w];rfl
 | .ifc _ v=>HT v
 | .opt _ v=>HT v
 | .agg l=>all_trueL l
 | .tup l=>all_trueL l
theorem all_trueL:∀ l:List AV,AV.allL (λ_=>true) l=true
 | []=>rfl
 | v::l=>by simp only[AV.allL,HT v,all_trueL l];rfl
end
theorem QO0(b:Blk):b.all (λ_=>true)=true:=by
 cases b<;>simp only[Blk.all,all_trueL,List.all_eq_true,implies_true]
theorem Wt(h:n<=nid):∀ id,decide (id<n)=true->(!inR nid id)=true:=by
 intro id hid;simp only[qdE]at hid;simp[inR];omega
theorem Kx.free{st:St}(h:Kx n st)(hn:n<=nid):zd nid (QJ st.tm) (look st.hp):=
 ⟨λt=>all_mono (Wt hn) _ (h.tm t),λid b hb=>by
  have:=Wt hn id (by simpa using h.out id b hb);simpa using this,λid b hb=>Blk.all_mono (Wt hn) _ (h.blk id b hb)⟩
theorem Kx.eqv{st:St}{tm:List AV}(h:Kx n st)(he:Eqv st.tm tm):Kx n { st with tm:=tm }:=
 ⟨λt=>by rw[<-(he.2 t).2];exact h.tm t,h.out,h.blk⟩
theorem QCR{u h:List (Nat×Blk)}{id:Nat}{b:Blk}(e:look (u++h) id=some b):(∃ p∈u,p.1=id/\p.2=b)∨look h id=some b:=by
 rw[QDf]at e;rcases vx e with ⟨p,hp,h1,h2,_⟩|⟨h1,_⟩
 .exact .inl ⟨p,hp,h1,h2⟩
 .exact .inr h1
theorem Q7:∀{h:List (Nat×Blk)} {id:Nat} {b:Blk},look h id=some b->(id,b)∈h
 | (i,b')::h,id,b,e=>by
  simp only[Kk]at e;split at e
  .rename_i hi;split at e<;>(try (cases e;done))
   simp only[qsI]at e;subst e;have:i=id:=by simpa using hi
   subst this;exact qmc
  .exact List.mem_cons_of_mem _ (Q7 e)
theorem VL{m:Nat}(h:m<=n):∀ id,decide (id<m)=true->decide (id<n)=true:=by
 intro id;simp only[qdE];omega
theorem QHz{h:List (Nat×Blk)}{id:Nat}(e:QGb h id=true):∃ b,look h id=some b/\b.own=true:=by
 unfold QGb at e;split at e
 .rename_i b hb;exact⟨b,hb,e⟩
 .cases e
structure QDI (n:Nat) (rec:Rec):Prop where
 val:rec.val.all (·<n)=true
 upd:∀ p∈rec.upd,p.2.all (·<n)=true
theorem Ran.ok{E:Env}{st:St}{rec:Rec}(h:Ran E o nid st rec):
  QDI (nid+8) rec/\∀ p∈rec.upd,inR nid p.1=true∨(p.1∈rec.ids/\∃ b,look st.hp p.1=some b/\b.own=true):=by
 obtain⟨_,g,blks,eff,_,_,_,_,hok,h1,h2⟩:=h.ran;unfold Zh at hok;simp only[qbA,List.all_eq_true,qbO]at hok;refine⟨⟨by rw[h1];exact hok.1,λp hp=>(hok.2 p (h2 ▸ hp)).1⟩,λp hp=>?_⟩
 rcases(hok.2 p (h2 ▸ hp)).2 with h|h
 .exact .inl h
 .exact .inr ⟨by simpa using h.1,QHz h.2⟩
theorem Kx.apply{st:St}{rec:Rec}(h:Kx n st)(hn:n<=nid+8)(hr:QDI (nid+8) rec)(hu:∀ p∈rec.upd,p.1<nid+8):Kx (nid+8) (Qu o rec st):=by
 refine⟨λt=>?_,λid b hb=>?_,λid b hb=>?_⟩
 .unfold Qu;rw[ZJ];split
  .exact hr.val
  .exact all_mono (VL hn) _ (h.tm t)
 .rcases QCR ((qk _ _ _).symm.trans hb)with ⟨p,hp,rfl,_⟩|hb
  .exact hu p hp
  .have:=h.out id b hb;omega
 .rcases QCR ((qk _ _ _).symm.trans hb)with ⟨p,hp,_,rfl⟩|hb
  .exact hr.upd p hp
  .exact Blk.all_mono (VL hn) _ (h.blk id b hb)
theorem QIc{nid id:Nat}(h:inR nid id=true):id<nid+8:=by
 unfold inR at h;simp at h;omega
theorem Ran.scopedAt{E:Env}{st:St}{rec:Rec}(h:Ran E o nid st rec)(hs:Kx nid st):Kx (nid+8) (Qu o rec st):=
 hs.apply (by omega) h.ok.1 λp hp=>by
  rcases h.ok.2 p hp with h1|⟨_,b,hb,_⟩
  .exact QIc h1
  .have:=hs.out _ _ hb;omega
theorem Kx.skip{n m:Nat}{st:St}{o:Oper}(h:Kx n st)(hn:n<=m):Kx m (Qu o ⟨.tup [],[],[]⟩ st):=by
 refine⟨λt=>?_,λid b hb=>?_,λid b hb=>?_⟩
 .unfold Qu;rw[ZJ];split
  .rfl
  .exact all_mono (VL hn) _ (h.tm t)
 .have:=h.out id b hb;omega
 .exact Blk.all_mono (VL hn) _ (h.blk id b hb)
theorem zo{tm:List AV}(h:∀ t,x = .tmp t->a.tmps.getD t undef=(QJ tm t).den r):a.eval x=(evA tm x).den r:=by
 cases x with
 | tmp t=>exact h t rfl
 | const v=>exact(QHE r v).symm
 | global g=>rfl
 | func f=>rfl
theorem qn{tm:List AV}(h:∀ t,(QJ tm t).all p=true):(evA tm x).all p=true:=by
 cases x with
 | tmp t=>exact h t
 | const v=>exact QMN p v
 | global g=>rfl
 | func f=>rfl
def Rep(G:Ctx)(n:Nat)(st:St)(a:Act)(w:World):Prop:=(∃ r,Inv G st.tm.length r (QJ st.tm) (look st.hp) a w)/\Kx n st
theorem Inv.eqv{G:Ctx}{st:St}{tm:List AV}(he:Eqv st.tm tm)(h:Inv G st.tm.length r (QJ st.tm) (look st.hp) a w):Inv G tm.length r (QJ tm) (look st.hp) a w:=
 ⟨by rw[h.size,he.1],h.defers,λt=>by rw[h.tm t,(he.2 t).1],h.rep,h.live,h.sep,h.ext,h.fr,h.own⟩
theorem Inv.hok{G:Ctx}{N:Nat}{tf:Nat->AV}(h:Inv G N r tf lk a w)(hf:zd nid tf lk):HOk r w nid lk:=
 ⟨hf.out,h.rep,hf.blk,λid id' b b' h1 h2 hne ho _=>h.sep id id' b b' h1 h2 hne ho⟩
theorem QBf(st:St)(o:Oper)(rec:Rec):QJ (Qu o rec st).tm=ve st.tm.length (QJ st.tm) o.dst rec.val:=by
 funext t;unfold Qu ve;rw[ZJ]
theorem H8(st:St)(o:Oper)(rec:Rec):look (Qu o rec st).hp=Jd rec.upd (look st.hp):=by
 funext id;exact(qk _ _ _).trans (QDf _ _ _)
theorem V1(st:St)(o:Oper)(rec:Rec):(Qu o rec st).tm.length=st.tm.length:=Hy _ _ _
