/- Abstract states; a region's operations, in the text's order and in any order. -/
import Derived.Test.YtbpffdkemeoajaaMmh
import Derived.Orders
import Derived.OrdersIn
import Derived.TacticsIn
import Derived.LoopNIn
namespace Go.SX
open Go Go.RowKit Go.Proofs.Ytbpffdkemeoajaa
def FW (rd:Option Nat):Fence:={ Fence.wide with round:=rd }
theorem jP {P:Program} {o:Oper} {a:Act} {w:World} {K:Act→World→Prop} {Q:Exit→Act→World→Prop} {rd:Option Nat} (h:o.wp P a w K Q) (hd:∀ c,o.op ≠ .defer c):o.wpIn (FW rd) 0 P a w K Q:=by
 refine ⟨fun _ _=>trivial,?_⟩
 rw [Oper.semAt_eq _ _ _ hd]
 unfold Oper.wp at h
 generalize (execOp a.eval o).run P w=res at h ⊢
 cases res with
 | ok x w'=>
  cases x with
  | value v=>exact h
  | skip=>exact h
  | defer d=>exact h
  | enter f args=>exact ⟨fun h=>(by cases h),callsIn_wide.2 h⟩
  | row row args=>exact ⟨fun h=>(by cases h),fun c cs _=>let ⟨v,w',r,s⟩:=h c cs;⟨v,w',r,stepsIn_wide.2 s⟩⟩
  | _=>exact h.elim
 | halt x w'=>cases x<;>exact h
structure Env where
 P:Program
 C:FuncId→Option FC
 M:TypeId→String→Option FuncId
 sp:Bool
 bi:Op→Bool
 jn:Bool
 gc:Bool
 fk:Bool
structure Env.Sound (E:Env):Prop where
 c:∀ f fc,E.C f=some fc→QM E.P f fc
 m:jy E.P E.M
 mixed:E.P.follows .mixedOrders=true
structure St where
 tm:List AV
 hp:List (Nat×Blk)
 nid:Nat
def look:List (Nat×Blk)→Nat→Option Blk
 | [],_=>none
 | (i,b)::t,id=>match Nat.beq i id with
  | true=>(match b.live with|true=>some b|false=>none)
  | false=>look t id
theorem KZ (i:Nat) (b:Blk) (t:List (Nat×Blk)) (id:Nat):look ((i,b)::t) id=if i == id then (if b.live then some b else none) else look t id:=by
 by_cases h:i=id
 ·subst h
  have:Nat.beq i i=true:=Nat.beq_refl i
  simp only [look,this,beq_self_eq_true,if_true]
  cases b.live<;>rfl
 ·have h1:Nat.beq i id=false:=by
   cases hb:Nat.beq i id with
   | true=>exact absurd (Nat.eq_of_beq_eq_true hb) h
   | false=>rfl
  have h2:(i == id)=false:=by simpa using h
  simp only [look,h1,h2];rfl
def H8 (i:Nat) (b:Blk):List (Nat×Blk)→Option (List (Nat×Blk))
 | []=>none
 | (j,c)::t=>match Nat.beq j i with
  | true=>some ((i,b)::t)
  | false=>(match H8 i b t with
   | some t'=>some ((j,c)::t')
   | none=>none)
def QBa (p:Nat×Blk) (h:List (Nat×Blk)):List (Nat×Blk):=match H8 p.1 p.2 h with
 | some h'=>h'
 | none=>p::h
def Ho:List (Nat×Blk)→List (Nat×Blk)→List (Nat×Blk)
 | [],h=>h
 | p::u,h=>QBa p (Ho u h)
theorem QF6 {i:Nat} {b:Blk}:∀ {h h':List (Nat×Blk)},H8 i b h=some h'→∀ id,look h' id=look ((i,b)::h) id
 | [],h',e,_=>by cases e
 | (j,c)::t,h',e,id=>by
  simp only [H8] at e
  split at e
  ·rename_i hj
   have hj:=Nat.eq_of_beq_eq_true hj
   subst hj
   simp only [Option.some.injEq] at e;subst e
   rw [KZ,KZ,KZ]
   split<;>rfl
  ·rename_i hj
   split at e
   ·rename_i t' ht
    simp only [Option.some.injEq] at e;subst e
    have ih:=QF6 ht id
    rw [KZ] at ih
    rw [KZ,ih,KZ,KZ]
    by_cases h1:i=id
    ·subst h1
     have:(j == i)=false:=by
      cases hb:(j == i) with
      | true => have : j = i := by simpa using hb
                subst this; rw [Nat.beq_refl] at hj; cases hj
      | false=>rfl
     simp only [this,beq_self_eq_true,if_true]
     rfl
    ·have:(i == id)=false:=by simpa using h1
     simp only [this];rfl
   ·cases e
theorem QQZ (p:Nat×Blk) (h:List (Nat×Blk)) (id:Nat):look (QBa p h) id=look (p::h) id:=by
 unfold QBa
 split
 ·rename_i h' e;exact QF6 e id
 ·rfl
theorem jE:∀ (u h:List (Nat×Blk)) (id:Nat),look (Ho u h) id=look (u++h) id
 | [],_,_=>rfl
 | (i,b)::u,h,id=>by
  rw [Ho,QQZ,List.cons_append,KZ,KZ,jE u h id]
def X7 (h:List (Nat×Blk)):List Nat→Option (List Blk)
 | []=>some []
 | i::l=>match look h i with
  | none=>none
  | some b=>match X7 h l with
   | none=>none
   | some bs=>some (b::bs)
theorem ve {h:List (Nat×Blk)}:∀ {l:List Nat} {bs:List Blk},X7 h l=some bs→l.map (look h)=bs.map some
 | [],bs,e=>by simp only [X7,Option.some.injEq] at e;subst e;rfl
 | i::l,bs,e=>by
  simp only [X7] at e
  split at e<;>(try (cases e;done))
  rename_i b hb
  split at e<;>(try (cases e;done))
  rename_i bs' hbs
  simp only [Option.some.injEq] at e;subst e
  simp only [List.map_cons,hb,ve hbs]
theorem VT {h:List (Nat×Blk)}:∀ {id:Nat} {b:Blk},look h id=some b→b.live=true:=by
 induction h with
 | nil=>intro id b e;simp [look] at e
 | cons p h ih=>
  intro id b e
  obtain ⟨i,b'⟩:=p
  simp only [KZ] at e
  split at e
  ·split at e
   ·rename_i hl;simp only [Option.some.injEq] at e;subst e;exact hl
   ·cases e
  ·exact ih e
def evA (tm:List AV):Operand→AV
 | .tmp t=>(tm[t]?).getD (.tup [])
 | .const v=>ofValue v
 | .global g => .addr ⟨g,0,none⟩
 | .func f => .fn (.func f) []
def QG (tm:List AV) (t:Nat):AV:=(tm[t]?).getD (.tup [])
def setO (tm:List AV) (d:Option Nat) (v:AV):List AV:=match d with
 | some d=>tm.set d v
 | none=>tm
structure Rec where
 val:AV
 upd:List (Nat×Blk)
 ids:List Nat
inductive QC where
 | leaf (v:AV) (h:List (Nat×Blk))
 | br (b:Bool) (t e:QC)
 | need (b:Bool) (t:QC)
 | all (f:(Nat→Value)→QC)
 | asm (p:Prop) (t:QC)
 | ask (p:Prop) (t:QC)
 | both (a b:QC)
 | bnd (b:Bool) (f:Bool→QC)
 | bndI (n:Int) (f:Int→QC)
 | fail (why:String)
def QC.den (Q:AV→List (Nat×Blk)→Prop):QC→Prop
 | .leaf v h=>Q v h
 | .br b t e=>(b=true→t.den Q)∧(b=false→e.den Q)
 | .need b t=>b=true∧t.den Q
 | .all f=>∀ g,(f g).den Q
 | .asm p t=>p→t.den Q
 | .ask p t=>p∧t.den Q
 | .both a b=>a.den Q∧b.den Q
 | .bnd b f=>∀ x,x=b→(f x).den Q
 | .bndI n f=>∀ x,x=n→(f x).den Q
 | .fail _=>False
def QCD (c b:Bool) (t:QC):QC:=match c with
 | true => (match b with | true => t | false => .fail "a condition is false")
 | false => .need b t
theorem QTR {Q:AV→List (Nat×Blk)→Prop} {c b:Bool} {t:QC} (h:(QCD c b t).den Q):b=true∧t.den Q:=by
 cases c<;>cases b
 ·exact h
 ·exact h
 ·exact h.elim
 ·exact ⟨rfl,h⟩
def Qv (o:Oper) (r:Rec) (st:St):St:={ st with tm:=setO st.tm o.dst r.val,hp:=Ho r.upd st.hp }
def QBj (h:List (Nat×Blk)) (id:Nat):Bool:=match look h id with
 | some b=>b.own
 | none=>false
def Zg (nid:Nat) (ids:List Nat) (h:List (Nat×Blk)) (eff:Eff):Bool:=
 eff.val.all (· < nid + 8)&&eff.upd.all (fun p=>p.2.all (· < nid + 8)&&(inR nid p.1||(ids.contains p.1&&QBj h p.1)))
def WP:List (Nat×Blk)→List Nat
 | []=>[]
 | (id,b)::h=>(match b.live with
  | true=>id::(WP h).filter (· != id)
  | false=>(WP h).filter (· != id))
def zG (b:Bool) (v:AV) (K:AV→QC):QC:=match b with
 | false=>K v
 | true=>(match v with
  | .int false k n => .bndI n fun x=>K (.int false k x)
  | v=>K v)
theorem QNn {Q:AV→List (Nat×Blk)→Prop} {b:Bool} {v:AV} {K:AV→QC} (h:(zG b v K).den Q):(K v).den Q:=by
 unfold zG at h
 split at h
 ·exact h
 ·split at h
  ·exact h _ rfl
  ·exact h
def X9 (E:Env) (o:Oper) (nid:Nat) (st:St) (K:Rec→QC):QC:=
 match X8 (E.gc && !E.sp) E.P E.C E.M o.op (evA st.tm) nid (WP st.hp) with
 | (ids,g)=>
  match X7 st.hp ids with
  | none => .fail "a block that is not known"
  | some blks=>
   match g blks with
   | none => .fail o.pos
   | some eff => if Zg nid ids st.hp eff then QCD eff.known eff.pre (zG (E.bi o.op) eff.val fun v => W3 E.gc vP v fun v => K ⟨v, eff.upd, ids⟩) else .fail "scope"
structure Ran (E:Env) (o:Oper) (nid:Nat) (st:St) (rec:Rec):Prop where
 ran:∃ all g blks eff,X8 (E.gc && !E.sp) E.P E.C E.M o.op (evA st.tm) nid all=(rec.ids,g)∧X7 st.hp rec.ids=some blks∧g blks=some eff∧eff.pre=true∧Zg nid rec.ids st.hp eff=true∧rec.val=eff.val∧rec.upd=eff.upd
theorem QEH {E:Env} {o:Oper} {nid:Nat} {st:St} {K:Rec→QC} {Q:AV→List (Nat×Blk)→Prop} (h:(X9 E o nid st K).den Q):∃ rec,Ran E o nid st rec∧(K rec).den Q:=by
 unfold X9 at h
 split at h
 rename_i ids g hV
 split at h
 ·exact h.elim
 ·rename_i blks hb
  split at h
  ·exact h.elim
  ·rename_i eff he
   split at h
   ·rename_i hok
    obtain ⟨hp,hK⟩:=QTR h
    have hK:=QNn hK
    rw [Wq HU] at hK
    exact ⟨_,⟨_,g,blks,eff,hV,hb,he,hp,hok,rfl,rfl⟩,hK⟩
   ·exact h.elim
theorem Ran.noDefer {E:Env} {o:Oper} {nid:Nat} {st:St} {rec:Rec} (h:Ran E o nid st rec):∀ c,o.op ≠ .defer c:=by
 intro c hc
 obtain ⟨all,g,blks,eff,hV,_,hg,_⟩:=h.ran
 rw [hc] at hV
 cases hgc:(E.gc && !E.sp)<;>rw [hgc] at hV<;>simp only [X8,ZP,vO,WS,noV,Prod.mk.injEq] at hV<;>rw [←hV.2] at hg<;>cases hg
def VH (ops:Array Oper) (tm:List AV) (o:Oper):Option Bool:=
 match o.guard with
 | none=>some true
 | some (j,want)=>match (ops[j]?).bind (·.dst) with
  | none=>some false
  | some d=>match QG tm d with
   | .bool true b=>some (b == want)
   | .tup _=>some false
   | .agg _=>some false
   | .int .. => some false
   | _=>none
def YZ (tm:List AV) (d:Nat) (b:Bool):List AV:=tm.set d (.bool true b)
def jc (ops:Array Oper) (tm:List AV) (o:Oper):Option (Nat×Bool):=
 match o.guard with
 | some (j,_)=>match (ops[j]?).bind (·.dst) with
  | none=>none
  | some d=>match QG tm d with
   | .bool false b=>some (d,b)
   | _=>none
 | none=>match o.op with
  | .pick (.tmp d) _ _=>match QG tm d with
   | .bool false b=>some (d,b)
   | _=>none
  | _=>none
def Wt (E:Env) (ops:Array Oper) (tm:List AV) (o:Oper):Option (Nat×IntKind×Int×Nat):=match E.fk with
 | false=>none
 | true=>match VH ops tm o with
  | some true=>match o.op with
   | .indexAddr t x (.tmp d)=>match E.P.underlying t,evA tm x,QG tm d with
    | some (.array len _),.ptr _ _ _,.int false k i=>some (d,k,i,len)
    | _,_,_=>none
   | _=>none
  | _=>none
def QA1 (i:Int):Nat→Nat→(Nat→QC)→QC
 | 0,m,f=>f m
 | n + 1,m,f => .br (decide (i=m)) (f m) (QA1 i n (m + 1) f)
def QBb (i:Int) (len:Nat) (f:Nat→QC):QC := .need (decide (0≤i∧i < len)) (QA1 i (len - 1) 0 f)
theorem QDi {Q:AV→List (Nat×Blk)→Prop} {i:Int} {f:Nat→QC}:∀ {n m:Nat},(QA1 i n m f).den Q→(m:Int)≤i→i≤(m:Int) + n→∃ k:Nat,i=k∧(f k).den Q
 | 0,m,h,h1,h2=>⟨m,by omega,h⟩
 | n + 1,m,h,h1,h2=>by
  by_cases e:i=m
  ·exact ⟨m,e,h.1 (decide_eq_true e)⟩
  ·exact QDi (h.2 (decide_eq_false e)) (by omega) (by omega)
theorem QKj {Q:AV→List (Nat×Blk)→Prop} {i:Int} {len:Nat} {f:Nat→QC} (h:(QBb i len f).den Q):∃ k:Nat,i=k∧(f k).den Q:=by
 have:=of_decide_eq_true h.1
 exact QDi h.2 (by omega) (by omega)
theorem QJn {E:Env} {ops:Array Oper} {tm:List AV} {o:Oper} {d:Nat} {k:IntKind} {i:Int} {len:Nat} (h:Wt E ops tm o=some (d,k,i,len)):QG tm d = .int false k i:=by
 unfold Wt at h
 split at h<;>(try (cases h;done))
 split at h<;>(try (cases h;done))
 split at h<;>(try (cases h;done))
 split at h<;>(try (cases h;done))
 rename_i hg
 simp only [Option.some.injEq,Prod.mk.injEq] at h
 obtain ⟨rfl,rfl,rfl,_⟩:=h
 exact hg
def Kw:AV→AV
 | .opt _ v=>v
 | v=>v
def gdB (want b:Bool):Bool:=match want with
 | true=>b
 | false => !b
def ZW (ops:Array Oper) (tm:List AV) (o:Oper):Option Bool:=match o.guard with
 | some (j,want)=>match (ops[j]?).bind (·.dst) with
  | some d=>match QG tm d with
   | .bool false b=>some (gdB want b)
   | .opt b' (.bool _ b)=>some (b'&&gdB want b)
   | _=>none
  | none=>none
 | none=>none
def XK:AV→List Bool
 | .opt b _=>[b]
 | _=>[]
def WN:List Bool→Option Bool
 | []=>none
 | b::l=>match WN l with
  | none=>some b
  | some c=>some (b&&c)
theorem QCi:∀ {l:List Bool},(∀ c,WN l=some c→c=true)→∀ b∈l,b=true
 | [],_,b,hb=>by cases hb
 | x::l,h,b,hb=>by
  cases hl:WN l with
  | none=>
   have hx:x=true:=h x (by simp only [WN,hl])
   rcases List.mem_cons.1 hb with rfl|hb
   ·exact hx
   ·exact QCi (fun c hc=>by rw [hl] at hc;cases hc) b hb
  | some c=>
   have hx:(x&&c)=true:=h (x&&c) (by simp only [WN,hl])
   rw [Bool.and_eq_true] at hx
   rcases List.mem_cons.1 hb with rfl|hb
   ·exact hx.1
   ·exact QCi (fun c' hc=>by rw [hl] at hc;cases hc;exact hx.2) b hb
def qf (tm:List AV):List Operand→List Bool
 | []=>[]
 | x::l=>XK (evA tm x)++qf tm l
def gOf:Option Bool→Bool
 | none=>true
 | some g=>g
def QOR:Option Bool→AV→AV
 | none,v=>v
 | some g,v => .opt g v
def Wh (g:Option Bool) (l:List Bool):Option Bool:=match WN l with
 | none=>none
 | some c=>(match g with
  | none=>some c
  | some g=>some (!g||c))
def okO (n:Option Bool):Prop:=∀ c,n=some c→c=true
theorem QIs {g:Option Bool} {l:List Bool} (h:okO (Wh g l)) (hg:gOf g=true):∀ b∈l,b=true:=by
 refine QCi fun c hc => ?_
 unfold Wh at h
 rw [hc] at h
 cases g with
 | none=>exact h _ rfl
 | some g=>
  simp only [gOf] at hg;subst hg
  have:=h _ rfl
  simpa using this
def vE (n:Option Bool) (t:QC):QC:=match n with
 | none=>t
 | some b => .need b t
theorem HQ {Q:AV→List (Nat×Blk)→Prop} {n:Option Bool} {t:QC} (h:(vE n t).den Q):okO n∧t.den Q:=by
 cases n with
 | none=>exact ⟨fun c hc=>(by cases hc),h⟩
 | some b=>exact ⟨fun c hc=>(by cases hc;exact h.1),h.2⟩
def zN (known pre:Bool):List Bool:=match known with
 | true=>(match pre with|true=>[]|false=>[false])
 | false=>[pre]
theorem QRJ {known pre:Bool} (h:∀ b∈zN known pre,b=true):pre=true:=by
 cases known<;>cases pre<;>first|rfl|exact h _ (by simp [zN])
def QA0 (E:Env) (o:Oper) (nid:Nat) (st:St) (g:Bool):Option (Option Bool×Rec):=
 match X8 (E.gc && !E.sp) E.P E.C E.M o.op (evA (st.tm.map Kw)) nid (WP st.hp) with
 | (ids,gg)=>match X7 st.hp ids with
  | none=>none
  | some blks=>match gg blks with
   | none=>none
   | some eff=>match eff.upd,Zg nid ids st.hp eff with
    | [],true=>(match Wh (some g) (zN eff.known eff.pre++qf st.tm o.op.operands.toList) with
     | none=>some (none,⟨.opt g eff.val,[],ids⟩)
     | some c=>some (some c,⟨.opt g eff.val,[],ids⟩))
    | _,_=>none
structure Yt (E:Env) (ops:Array Oper) (o:Oper) (n:Nat) (st:St) (g:Bool) (u:AV) (ids:List Nat):Prop where
 gd:∀ (a:Act) (r:Nat→Loc),(∀ t,t∈o.looksAt ops→a.tmps.getD t undef=(QG st.tm t).den r)→Region.wanted o (yielded ops a.tmps)=g
 sc:u.all (· < n + 8)=true
 off:g=false→∀ r,u.den r=undef
 run:g=true→∃ tm' v',tm'.length=st.tm.length∧(∀ x∈o.op.operands,∀ r,(evA tm' x).den r=(evA st.tm x).den r)∧(∀ t p,(QG st.tm t).all p=true→(QG tm' t).all p=true)∧Ran E o n { st with tm:=tm' } ⟨v',[],ids⟩∧∀ r,v'.den r=u.den r
theorem QJ8 (tm:List AV) (t:Nat):QG (tm.map Kw) t=Kw (QG tm t):=by
 unfold QG
 rw [List.getElem?_map]
 cases tm[t]? <;> rfl
theorem QH2 {p:Nat→Bool} (v:AV) (h:v.all p=true):(Kw v).all p=true:=by cases v<;>exact h
theorem QAy {v:AV} (h:∀ b∈XK v,b=true) (r:Nat→Loc):(Kw v).den r=v.den r:=by
 cases v with
 | opt b v=>have:=h b (by simp [XK]);subst this;simp only [Kw,AV.den]
 | _=>rfl
theorem QNI (tm:List AV) (x:Operand):evA (tm.map Kw) x=Kw (evA tm x)∨evA (tm.map Kw) x=evA tm x:=by
 cases x with
 | tmp t=>exact .inl (QJ8 tm t)
 | _=>exact .inr rfl
theorem QDe {tm:List AV} {r:Nat→Loc}:∀ {l:List Operand},(∀ b∈qf tm l,b=true)→∀ x∈l,(evA (tm.map Kw) x).den r=(evA tm x).den r
 | [],_,x,hx=>by cases hx
 | y::l,h,x,hx=>by
  simp only [qf,List.mem_append] at h
  rcases List.mem_cons.1 hx with rfl|hx
  ·rcases QNI tm x with e|e
   ·rw [e];exact QAy (fun b hb=>h b (.inl hb)) r
   ·rw [e]
  ·exact QDe (fun b hb=>h b (.inr hb)) x hx
theorem ji {ops:Array Oper} {tm:List AV} {o:Oper} {x:Bool} {a:Act} {r:Nat→Loc} (h:VH ops tm o=some x) (ha:∀ t,t∈o.looksAt ops→a.tmps.getD t undef=(QG tm t).den r) :
  Region.wanted o (yielded ops a.tmps)=x:=by
 unfold VH at h
 unfold Region.wanted
 cases hg:o.guard with
 | none=>simp only [hg,Option.some.injEq] at h;subst h;rfl
 | some q=>
  obtain ⟨j,want⟩:=q
  simp only [hg] at h ⊢
  unfold yielded
  cases hd:(ops[j]?).bind (·.dst) with
  | none=>simp only [hd,Option.some.injEq] at h;subst h;rfl
  | some d=>
   simp only [hd,Option.bind_some] at h ⊢
   have had:=ha d (by unfold Oper.looksAt;simp [hg,hd])
   have key:∀ v,(QG tm d).den r=v→v≠undef∧a.tmps[d]? = some v∨v=undef∧(a.tmps[d]? = none∨a.tmps[d]? = some undef):=by
    intro v hv
    rw [hv] at had
    cases hq:a.tmps[d]? with
    | none=>simp [hq] at had;exact .inr ⟨had.symm,.inl rfl⟩
    | some u => simp [hq] at had; subst had; by_cases hu : u = undef
                · subst hu; exact .inr ⟨rfl, .inr rfl⟩
                · exact .inl ⟨hu, rfl⟩
   split at h<;>(try (cases h;done))<;>rename_i he<;>simp only [Option.some.injEq] at h<;>subst h<;>rw [he] at key
   ·rcases key _ rfl with ⟨_,h2⟩|⟨h2,_⟩
    ·rw [h2];simp [AV.den]
    ·simp [AV.den,undef] at h2
   ·rcases key _ rfl with ⟨_,h2⟩|⟨_,h2|h2⟩<;>rw [h2]<;>rfl
   ·rcases key _ rfl with ⟨_,h2⟩|⟨_,h2|h2⟩<;>rw [h2]<;>rfl
   ·rcases key _ rfl with ⟨_,h2⟩|⟨_,h2|h2⟩<;>rw [h2]<;>rfl
theorem QDz {ops:Array Oper} {tm:List AV} {o:Oper} {g:Bool} {a:Act} {r:Nat→Loc} (h:ZW ops tm o=some g) (ha:∀ t,t∈o.looksAt ops→a.tmps.getD t undef=(QG tm t).den r) :
  Region.wanted o (yielded ops a.tmps)=g:=by
 unfold ZW at h
 unfold Region.wanted
 cases hg:o.guard with
 | none=>simp only [hg] at h;cases h
 | some q=>
  obtain ⟨j,want⟩:=q
  simp only [hg] at h ⊢
  unfold yielded
  cases hd:(ops[j]?).bind (·.dst) with
  | none=>simp only [hd] at h;cases h
  | some d=>
   simp only [hd,Option.bind_some] at h ⊢
   have had:=ha d (by unfold Oper.looksAt;simp [hg,hd])
   have key:∀ v,(QG tm d).den r=v→v≠undef∧a.tmps[d]? = some v∨v=undef∧(a.tmps[d]? = none∨a.tmps[d]? = some undef):=by
    intro v hv
    rw [hv] at had
    cases hq:a.tmps[d]? with
    | none=>simp [hq] at had;exact .inr ⟨had.symm,.inl rfl⟩
    | some u => simp [hq] at had; subst had; by_cases hu : u = undef
                · subst hu; exact .inr ⟨rfl, .inr rfl⟩
                · exact .inl ⟨hu, rfl⟩
   split at h<;>(try (cases h;done))
   ·rename_i b he
    simp only [Option.some.injEq] at h;subst h
    rw [he] at key
    rcases key _ rfl with ⟨_,h2⟩|⟨h2,_⟩
    ·rw [h2];cases want<;>cases b<;>rfl
    ·simp [AV.den,undef] at h2
   ·rename_i b' k b he
    simp only [Option.some.injEq] at h;subst h
    rw [he] at key
    cases b' with
    | true=>
     rcases key _ rfl with ⟨_,h2⟩|⟨h2,_⟩
     ·rw [h2];cases want<;>cases b<;>rfl
     ·simp [AV.den,undef] at h2
    | false=>
     rcases key _ rfl with ⟨h1,_⟩|⟨_,h2|h2⟩
     ·exact absurd rfl h1
     ·rw [h2];rfl
     ·rw [h2];rfl
theorem QQ8 {E:Env} {ops:Array Oper} {o:Oper} {n:Nat} {st:St} {g:Bool} {m:Option Bool} {rec:Rec} (h:QA0 E o n st g=some (m,rec)) (hg:ZW ops st.tm o=some g) (hb:okO m):rec=⟨rec.val,[],rec.ids⟩∧Yt E ops o n st g rec.val rec.ids:=by
 unfold QA0 at h
 split at h
 rename_i ids gg hV
 split at h<;>(try (cases h;done))
 rename_i blks hbl
 split at h<;>(try (cases h;done))
 rename_i eff he
 split at h<;>(try (cases h;done))
 rename_i hu hok
 obtain ⟨h1,rfl⟩:m=Wh (some g) (zN eff.known eff.pre++qf st.tm o.op.operands.toList)∧rec=⟨.opt g eff.val,[],ids⟩:=by
  split at h<;>rename_i hi<;>simp only [Option.some.injEq,Prod.mk.injEq] at h<;>exact ⟨h.1.symm.trans hi.symm,h.2.symm⟩
 rw [h1] at hb
 refine ⟨rfl,fun a r ha=>QDz hg ha,?_,fun hgf _=>by subst hgf;rfl,fun hgt => ?_⟩
 ·unfold Zg at hok;simp only [Bool.and_eq_true] at hok;exact hok.1
 have hall:=QIs hb (by exact hgt)
 simp only [List.mem_append] at hall
 refine ⟨st.tm.map Kw,eff.val,by simp,fun x hx r=>QDe (fun b hb=>hall b (.inr hb)) x (by simpa using hx),fun t p hp => ?_,⟨_,gg,blks,eff,hV,hbl,he,?_,hok,rfl,hu.symm⟩,fun _=>by subst hgt;rfl⟩
 ·rw [QJ8];exact QH2 _ hp
 ·exact QRJ fun b hb=>hall b (.inl hb)
def qW (E:Env) (ops:Array Oper) (o:Oper) (nid:Nat) (st:St):Option (Option Bool×Rec):=match E.sp with
 | true=>(match ZW ops st.tm o with
  | some g=>QA0 E o nid st g
  | none=>none)
 | false=>none
theorem QJ0 {E:Env} {ops:Array Oper} {o:Oper} {n:Nat} {st:St} {m:Option Bool} {rec:Rec} (h:qW E ops o n st=some (m,rec)) (hb:okO m):∃ g,rec=⟨rec.val,[],rec.ids⟩∧Yt E ops o n st g rec.val rec.ids:=by
 unfold qW at h
 split at h<;>(try (cases h;done))
 split at h<;>(try (cases h;done))
 rename_i g hg
 exact ⟨g,QQ8 h hg hb⟩
def qt (x kp p kq q:Bool):Bool:=match kp with
 | true=>(match p with|true=>x||q|false => !x&&q)
 | false=>(match kq with
  | true=>(match q with|true => !x||p|false=>x&&p)
  | false=>cond x p q)
theorem QG6 (x kp p kq q:Bool):qt x kp p kq q=(match x with|true=>p|false=>q):=by cases x<;>cases kp<;>cases p<;>cases kq<;>cases q<;>rfl
def QAQ (ops:Array Oper) (tm:List AV) (o:Oper):Option (Option Bool):=match o.guard with
 | none=>some none
 | some _=>match VH ops tm o with
  | some true=>some none
  | some false=>none
  | none=>match ZW ops tm o with
   | some g=>some (some g)
   | none=>none
structure Pk where
 n:Option Bool
 g:Option Bool
 e:Bool
def Pk.rec_ (p:Pk) (y:Bool):Rec:=⟨QOR p.g (.bool false y),[],[]⟩
def jW (E:Env) (ops:Array Oper) (o:Oper) (tm:List AV):Option Pk:=match E.sp with
 | false=>none
 | true=>match o.op with
  | .pick (.tmp d) a b=>match Kw (QG tm d) with
   | .bool false x=>match Kw (evA tm a),Kw (evA tm b) with
    | .bool kp p,.bool kq q=>match QAQ ops tm o with
     | some g=>(match Wh g (XK (QG tm d)++((XK (evA tm a)).map (!x||·)++(XK (evA tm b)).map (x||·))) with
      | none=>some ⟨none,g,qt x kp p kq q⟩
      | some c=>some ⟨some c,g,qt x kp p kq q⟩)
     | none=>none
    | _,_=>none
   | _=>none
  | _=>none
theorem QQR {ops:Array Oper} {tm:List AV} {o:Oper} {g:Option Bool} {a:Act} {r:Nat→Loc} (h:QAQ ops tm o=some g) (ha:∀ t,t∈o.looksAt ops→a.tmps.getD t undef=(QG tm t).den r) :
  Region.wanted o (yielded ops a.tmps)=gOf g:=by
 unfold QAQ at h
 split at h
 ·rename_i hn
  simp only [Option.some.injEq] at h;subst h
  unfold Region.wanted;rw [hn];rfl
 ·split at h
  ·rename_i hv
   simp only [Option.some.injEq] at h;subst h
   exact ji hv ha
  ·cases h
  ·split at h<;>(try (cases h;done))
   rename_i hb
   simp only [Option.some.injEq] at h;subst h
   exact QDz hb ha
def J7 (tm:List AV):Operand→List AV
 | .tmp t=>tm.set t (Kw (QG tm t))
 | _=>tm
theorem Wy (tm:List AV) (d t:Nat) (v:AV):QG (tm.set d v) t=if d=t∧d < tm.length then v else QG tm t:=by
 unfold QG
 rw [List.getElem?_set]
 by_cases h:d=t
 ·subst h
  by_cases g:d < tm.length
  ·simp [g]
  ·simp [g]
 ·simp [h]
theorem QF2 (tm:List AV) (x:Operand) (t:Nat):QG (J7 tm x) t=QG tm t∨QG (J7 tm x) t=Kw (QG tm t)∧x = .tmp t:=by
 unfold J7
 split
 ·rename_i s
  rw [Wy]
  split
  ·rename_i h;rw [←h.1];exact .inr ⟨rfl,rfl⟩
  ·exact .inl rfl
 ·exact .inl rfl
theorem QLu {tm:List AV} {x:Operand} {k b:Bool} (h:Kw (evA tm x) = .bool k b):evA (J7 tm x) x = .bool k b∨∃ k',evA (J7 tm x) x = .bool k' b:=by
 unfold J7
 split
 ·rename_i s
  have e:evA (tm.set s (Kw (QG tm s))) (.tmp s)=QG (tm.set s (Kw (QG tm s))) s:=rfl
  rw [e,Wy]
  split
  ·exact .inl h
  ·rename_i hn
   have:QG tm s = .tup []:=by
    unfold QG
    rw [List.getElem?_eq_none (by simpa using hn)];rfl
   have h':Kw (QG tm s) = .bool k b:=h
   rw [this] at h';cases h'
 ·rename_i hx
  cases x with
  | tmp t=>exact absurd rfl (hx t)
  | const v=>
   left
   show ofValue v=_
   have h':Kw (ofValue v) = .bool k b:=h
   cases hv:ofValue v with
   | opt b w=>
    exfalso
    unfold ofValue at hv
    split at hv<;>(try (cases hv;done))
    unfold J3 at hv
    split at hv<;>cases hv
   | _=>rw [hv] at h';first|exact h'|cases h'
  | _=>cases h
theorem QGA {E:Env} {ops:Array Oper} {o:Oper} {n:Nat} {st:St} {p:Pk} (h:jW E ops o st.tm=some p) (hb:okO p.n):Yt E ops o n st (gOf p.g) (p.rec_ p.e).val (p.rec_ p.e).ids:=by
 unfold jW at h
 split at h<;>(try (cases h;done))
 split at h<;>(try (cases h;done))
 rename_i d a b hop
 split at h<;>(try (cases h;done))
 rename_i x hc
 split at h<;>(try (cases h;done))
 rename_i kp p' kq q ha hbv
 split at h<;>(try (cases h;done))
 rename_i g hg
 obtain ⟨e1,rfl,e3⟩:p.n=Wh g (XK (QG st.tm d)++((XK (evA st.tm a)).map (!x||·)++(XK (evA st.tm b)).map (x||·)))∧p.g=g∧p.e=qt x kp p' kq q:=by
  split at h<;>rename_i hi<;>simp only [Option.some.injEq] at h<;>subst h<;>exact ⟨hi.symm,rfl,rfl⟩
 rw [e1] at hb
 refine ⟨fun a r ha=>QQR hg ha,?_,?_,fun hgt => ?_⟩
 ·unfold Pk.rec_;cases p.g<;>rfl
 ·intro hgf r
  unfold Pk.rec_
  cases hpg:p.g with
  | none=>rw [hpg] at hgf;cases hgf
  | some g=>rw [hpg] at hgf;simp only [gOf] at hgf;subst hgf;rfl
 have hall:=QIs hb hgt
 simp only [List.mem_append] at hall
 have hu:∀ y r,((p.rec_ y).val).den r = .bool y:=by
  intro y r
  unfold Pk.rec_
  cases hpg:p.g with
  | none=>rfl
  | some g=>rw [hpg] at hgt;simp only [gOf] at hgt;subst hgt;rfl
 obtain ⟨arm,k,v,harm,hev,hcond,hv⟩:∃ (arm:Operand) (k v:Bool),arm=(match x with|true=>a|false=>b)∧Kw (evA st.tm arm) = .bool k v∧(∀ c∈XK (evA st.tm arm),c=true)∧qt x kp p' kq q=v:=by
  cases x with
  | true=>exact ⟨a,kp,p',rfl,ha,fun c hcm=>by
    have:=hall (!true||c) (.inr (.inl (List.mem_map.2 ⟨c,hcm,rfl⟩)))
    simpa using this,QG6 _ _ _ _ _⟩
  | false=>exact ⟨b,kq,q,rfl,hbv,fun c hcm=>by
    have:=hall (false||c) (.inr (.inr (List.mem_map.2 ⟨c,hcm,rfl⟩)))
    simpa using this,QG6 _ _ _ _ _⟩
 have hdl:d < st.tm.length:=by
  rcases Nat.lt_or_ge d st.tm.length with h|h
  ·exact h
  ·unfold QG at hc;rw [List.getElem?_eq_none h] at hc;cases hc
 have hbl:(J7 st.tm arm).length=st.tm.length:=by unfold J7;split<;>simp
 have hden:∀ t r,(QG ((J7 st.tm arm).set d (.bool true x)) t).den r=(QG st.tm t).den r:=by
  intro t r
  rw [Wy]
  split
  ·rename_i hd
   rw [←hd.1,←QAy (fun c hcm=>hall c (.inl hcm)) r,hc];rfl
  ·rcases QF2 st.tm arm t with e|⟨e,harm'⟩
   ·rw [e]
   ·rw [e]
    refine QAy (fun c hcm=>hcond c ?_) r
    rw [harm'];exact hcm
 have hevd:evA ((J7 st.tm arm).set d (.bool true x)) (.tmp d) = .bool true x:=by
  show QG _ d=_
  rw [Wy,if_pos ⟨rfl,by rw [hbl];exact hdl⟩]
 have heva:∃ k',evA ((J7 st.tm arm).set d (.bool true x)) arm = .bool k' v:=by
  have h1:∃ k',evA (J7 st.tm arm) arm = .bool k' v:=by
   rcases QLu hev with h|h
   ·exact ⟨_,h⟩
   ·exact h
  cases harm2:arm with
  | tmp t=>
   show ∃ k',QG _ t=_
   rw [Wy]
   split
   ·rename_i hd
    have h2:Kw (QG st.tm t) = .bool k v:=by rw [harm2] at hev;exact hev
    rw [←hd.1,hc] at h2
    cases h2;exact ⟨true,rfl⟩
   ·rw [harm2] at h1;exact h1
  | const c=>rw [harm2] at h1;exact h1
  | global c=>rw [harm2] at h1;exact h1
  | func c=>rw [harm2] at h1;exact h1
 obtain ⟨k',heva⟩:=heva
 refine ⟨(J7 st.tm arm).set d (.bool true x),.bool k' v,by simp [hbl],fun y _ r => ?_,fun t pp hp => ?_,⟨WP st.hp,fun _=>some ⟨true,true,.bool k' v,[]⟩,[],⟨true,true,.bool k' v,[]⟩,?_,rfl,rfl,rfl,rfl,rfl,rfl⟩,fun r => ?_⟩
 ·cases y with
  | tmp t=>exact hden t r
  | _=>rfl
 ·rw [Wy]
  split
  ·rfl
  ·rcases QF2 st.tm arm t with e|⟨e,_⟩
   ·rw [e];exact hp
   ·rw [e];exact QH2 _ hp
 ·rw [hop]
  have hvop:WS E.P (.pick (.tmp d) a b) (evA ((J7 st.tm arm).set d (.bool true x)))=okE (.bool k' v):=by
   simp only [WS,hevd]
   cases x with
   | true=>simp only at harm;rw [←harm,heva]
   | false=>simp only at harm;rw [←harm,heva]
  simp only [‹E.sp=true›,Bool.not_true,Bool.and_false,X8,ZP,vO,hvop,okE]
  rfl
 ·rw [hu,e3,hv];rfl
def Xs (E:Env) (ops:Array Oper) (base:Nat):Nat→List Oper→St→(List Rec→St→QC)→QC
 | _,[],st,K=>K [] st
 | k,o::l,st,K=>
  let go:=fun (st:St)=>match VH ops st.tm o with
   | some true=>X9 E o (base + 8 * k) st fun rec=>Xs E ops base (k + 1) l (Qv o rec st) fun rs st'=>K (rec::rs) st'
   | some false=>Xs E ops base (k + 1) l (Qv o ⟨.tup [],[],[]⟩ st) fun rs st'=>K (⟨.tup [],[],[]⟩::rs) st'
   | none => .fail "a guard"
  match jW E ops o st.tm with
  | some p=>vE p.n (.bnd p.e fun y=>Xs E ops base (k + 1) l (Qv o (p.rec_ y) st) fun rs st'=>K (p.rec_ y::rs) st')
  | none=>match qW E ops o (base + 8 * k) st with
   | some (n,rec)=>vE n (Xs E ops base (k + 1) l (Qv o rec st) fun rs st'=>K (rec::rs) st')
   | none=>match jc ops st.tm o with
    | none=>(match Wt E ops st.tm o with
     | none=>go st
     | some (d,k,i,len)=>QBb i len fun m=>go { st with tm:=st.tm.set d (.int true k m) })
    | some (d,b) => .br b (go { st with tm:=YZ st.tm d true }) (go { st with tm:=YZ st.tm d false })
def Eqv (tm tm':List AV):Prop:=tm.length=tm'.length∧∀ t,(∀ r,(QG tm t).den r=(QG tm' t).den r)∧∀ p,(QG tm t).all p=(QG tm' t).all p
theorem jX (tm:List AV) (d t:Nat) (v:AV):QG (tm.set d v) t=if d=t∧d < tm.length then v else QG tm t:=by
 unfold QG
 rw [List.getElem?_set]
 by_cases h:d=t
 ·subst h
  by_cases g:d < tm.length
  ·simp [g]
  ·simp [g]
 ·simp [h]
theorem jM {tm:List AV} {d:Nat} {b:Bool} {c:Bool} (h:QG tm d = .bool c b) (b':Bool) (hb:b=b'):Eqv tm (YZ tm d b'):=by
 subst hb
 refine ⟨by simp [YZ],fun t => ?_⟩
 unfold YZ
 rw [jX]
 split
 ·rename_i e;rw [←e.1,h];exact ⟨fun _=>rfl,fun _=>rfl⟩
 ·exact ⟨fun _=>rfl,fun _=>rfl⟩
theorem QJN {tm:List AV} {d:Nat} {k:IntKind} {i:Int} (h:QG tm d = .int false k i) (m:Nat) (hm:i=m):Eqv tm (tm.set d (.int true k m)):=by
 subst hm
 refine ⟨by simp,fun t => ?_⟩
 rw [jX]
 split
 ·rename_i e;rw [←e.1,h];exact ⟨fun _=>rfl,fun _=>rfl⟩
 ·exact ⟨fun _=>rfl,fun _=>rfl⟩
theorem Eqv.refl (tm:List AV):Eqv tm tm:=⟨rfl,fun _=>⟨fun _=>rfl,fun _=>rfl⟩⟩
theorem Eqv.symm {a b:List AV} (h:Eqv a b):Eqv b a:=⟨h.1.symm,fun t=>⟨fun r=>((h.2 t).1 r).symm,fun p=>((h.2 t).2 p).symm⟩⟩
theorem Eqv.trans {a b c:List AV} (h:Eqv a b) (k:Eqv b c):Eqv a c:=⟨h.1.trans k.1,fun t=>⟨fun r=>((h.2 t).1 r).trans ((k.2 t).1 r),fun p=>((h.2 t).2 p).trans ((k.2 t).2 p)⟩⟩
theorem qo (tm:List AV) (d:Option Nat) (v:AV):(setO tm d v).length=tm.length:=by cases d<;>simp [setO]
theorem XR (tm:List AV) (d:Option Nat) (v:AV) (t:Nat):QG (setO tm d v) t=if d=some t∧t < tm.length then v else QG tm t:=by
 cases d with
 | none=>simp [setO]
 | some d=>
  simp only [setO,jX,Option.some.injEq]
  by_cases h:d=t
  ·subst h;rfl
  ·simp [h]
theorem Eqv.setO {a b:List AV} (h:Eqv a b) (d:Option Nat) (v:AV):Eqv (setO a d v) (setO b d v):=by
 refine ⟨by rw [qo,qo,h.1],fun t => ?_⟩
 rw [XR,XR,h.1]
 split
 ·exact ⟨fun _=>rfl,fun _=>rfl⟩
 ·exact h.2 t
inductive Vh (E:Env) (ops:Array Oper) (base:Nat):Nat→List Oper→St→List Rec→St→Prop
 | nil {k st}:Vh E ops base k [] st [] st
 | run {k o l st tm rec rs st'} (he:Eqv st.tm tm) (hg:VH ops tm o=some true) (h:Ran E o (base + 8 * k) { st with tm:=tm } rec)
   (hr:Vh E ops base (k + 1) l (Qv o rec { st with tm:=tm }) rs st'):Vh E ops base k (o::l) st (rec::rs) st'
 | skip {k o l st tm rs st'} (he:Eqv st.tm tm) (hg:VH ops tm o=some false)
   (hr:Vh E ops base (k + 1) l (Qv o ⟨.tup [],[],[]⟩ { st with tm:=tm }) rs st'):Vh E ops base k (o::l) st (⟨.tup [],[],[]⟩::rs) st'
 | spec {k o l st g u ids rs st'} (h:Yt E ops o (base + 8 * k) st g u ids)
   (hr:Vh E ops base (k + 1) l (Qv o ⟨u,[],ids⟩ st) rs st'):Vh E ops base k (o::l) st (⟨u,[],ids⟩::rs) st'
theorem QIG {ops:Array Oper} {tm:List AV} {o:Oper} {d:Nat} {b:Bool} (h:jc ops tm o=some (d,b)):QG tm d = .bool false b:=by
 unfold jc at h
 split at h
 ·split at h
  ·cases h
  ·split at h
   ·rename_i hg;simp only [Option.some.injEq,Prod.mk.injEq] at h;obtain ⟨rfl,rfl⟩:=h;exact hg
   ·cases h
 ·split at h
  ·split at h
   ·rename_i hg;simp only [Option.some.injEq,Prod.mk.injEq] at h;obtain ⟨rfl,rfl⟩:=h;exact hg
   ·cases h
  ·cases h
theorem jd {E:Env} {ops:Array Oper} {base:Nat} {Q:AV→List (Nat×Blk)→Prop}:∀ (l:List Oper) (k:Nat) (st:St) (K:List Rec→St→QC),(Xs E ops base k l st K).den Q →
  ∃ rs st',Vh E ops base k l st rs st'∧(K rs st').den Q
 | [],k,st,K,h=>⟨[],st,.nil,h⟩
 | o::l,k,st,K,h=>by
  have go:∀ tm,Eqv st.tm tm→(match VH ops tm o with
   | some true=>X9 E o (base + 8 * k) { st with tm:=tm } fun rec=>Xs E ops base (k + 1) l (Qv o rec { st with tm:=tm }) fun rs st'=>K (rec::rs) st'
   | some false=>Xs E ops base (k + 1) l (Qv o ⟨.tup [],[],[]⟩ { st with tm:=tm }) fun rs st'=>K (⟨.tup [],[],[]⟩::rs) st'
   | none => .fail "a guard" : QC).den Q → ∃ rs st', Vh E ops base k (o :: l) st rs st' ∧ (K rs st').den Q := by
   intro tm he h
   split at h
   ·rename_i hg
    obtain ⟨rec,h1,h2⟩:=QEH h
    obtain ⟨rs,st',h3,h4⟩:=jd l _ _ _ h2
    exact ⟨_,_,.run he hg h1 h3,h4⟩
   ·rename_i hg
    obtain ⟨rs,st',h3,h4⟩:=jd l _ _ _ h
    exact ⟨_,_,.skip he hg h3,h4⟩
   ·exact h.elim
  simp only [Xs] at h
  split at h
  ·rename_i p hs
   obtain ⟨hb,h⟩:=HQ h
   have hsp:=QGA (n:=base + 8 * k) hs hb
   obtain ⟨rs,st',h3,h4⟩:=jd l _ _ _ (h _ rfl)
   exact ⟨_,_,.spec hsp h3,h4⟩
  split at h
  ·rename_i m rec hs
   obtain ⟨hb,h⟩:=HQ h
   obtain ⟨g,e,hsp⟩:=QJ0 hs hb
   obtain ⟨rs,st',h3,h4⟩:=jd l _ _ _ h
   rw [e] at h3 h4
   exact ⟨_,_,.spec hsp h3,h4⟩
  split at h
  ·split at h
   ·exact go st.tm (Eqv.refl _) h
   ·rename_i d k' i len ha
    obtain ⟨m,e,h⟩:=QKj h
    exact go _ (QJN (QJn ha) m e) h
  ·rename_i d b ha
   have hs:=QIG ha
   cases hb:b with
   | true=>exact go _ (jM hs true hb) (h.1 hb)
   | false=>exact go _ (jM hs false hb) (h.2 hb)
end Go.SX
namespace Go.SX
open Go Go.RowKit Go.Proofs.Ytbpffdkemeoajaa
structure Ctx where
 w:World
 ch:Nat→Prop
 n:Nat
 r:Nat→Loc
 rd:Option Nat
def YC (b:Nat):Deferred:={ target := .collected b,args := #[] }
def Dfr (G:Ctx) (r:Nat→Loc) (lk:Nat→Option Blk) (a:Act):Prop:=∃ ds:List Nat,a.defers=ds.map (fun id=>YC (r id).blk)∧(ds.map fun id=>(r id).blk).Nodup∧∀ id∈ds,G.n≤id∧lk id=some .dfr∧G.w.heap.size≤(r id).blk
theorem Dfr.none {G:Ctx} {r:Nat→Loc} {lk:Nat→Option Blk} {a:Act} (h:a.defers=[]):Dfr G r lk a:=⟨[],h,List.nodup_nil,by simp⟩
theorem Dfr.to {G:Ctx} {r r':Nat→Loc} {lk lk':Nat→Option Blk} {a a':Act} (h:Dfr G r lk a) (ha:a'.defers=a.defers) (hl:∀ id,G.n≤id→lk id=some .dfr→lk' id=some .dfr∧r' id=r id):Dfr G r' lk' a':=by
 obtain ⟨ds,h1,h2,h3⟩:=h
 have e:ds.map (fun id=>(r' id).blk)=ds.map (fun id=>(r id).blk):=List.map_congr_left fun id hid=>by rw [(hl id (h3 id hid).1 (h3 id hid).2.1).2]
 refine ⟨ds,?_,by rw [e];exact h2,fun id hid => ?_⟩
 ·rw [ha,h1]
  exact List.map_congr_left fun id hid=>by rw [(hl id (h3 id hid).1 (h3 id hid).2.1).2]
 ·obtain ⟨k1,k2,k3⟩:=h3 id hid
  obtain ⟨j1,j2⟩:=hl id k1 k2
  exact ⟨k1,j1,by rw [j2];exact k3⟩
structure Inv (G:Ctx) (N:Nat) (r:Nat→Loc) (tf:Nat→AV) (lk:Nat→Option Blk) (a:Act) (w:World):Prop where
 size:a.tmps.size=N
 defers:Dfr G r lk a
 tm:∀ t,a.tmps.getD t undef=(tf t).den r
 rep:∀ id b,lk id=some b→QH r id w b
 live:∀ id b,lk id=some b→b.live=true
 sep:∀ id id' b b',lk id=some b→lk id'=some b'→id≠id'→b.own=true→∀ k,QV r id b k→¬ QV r id' b' k
 ext:∀ id,id < G.n→r id=G.r id
 fr:Fr G.w w G.ch
 own:∀ id b,lk id=some b→b.own=true→∀ k,QV r id b k→G.ch k∨G.w.heap.size≤k
structure Wb (nid:Nat) (tf:Nat→AV) (lk:Nat→Option Blk):Prop where
 tm:∀ t,(tf t).all (fun i => !inR nid i)=true
 out:∀ id b,lk id=some b→inR nid id=false
 blk:∀ id b,lk id=some b→b.all (fun i => !inR nid i)=true
def ZQ (N:Nat) (tf:Nat→AV) (d:Option Nat) (v:AV):Nat→AV:=fun t=>if d=some t∧t < N then v else tf t
def K3 (u:List (Nat×Blk)) (lk:Nat→Option Blk) (id:Nat):Option Blk:=match u with
 | []=>lk id
 | (i,b)::t=>if i == id then (if b.live then some b else none) else K3 t lk id
theorem qX {u:List (Nat×Blk)} {lk:Nat→Option Blk} {id:Nat} {b:Blk} (h:K3 u lk id=some b):(∃ p∈u,p.1=id∧p.2=b∧b.live=true)∨(lk id=some b∧∀ p∈u,p.1≠id):=by
 induction u with
 | nil=>exact .inr ⟨h,by simp⟩
 | cons p u ih=>
  obtain ⟨i,b'⟩:=p
  simp only [K3] at h
  split at h
  ·rename_i he
   have he:i=id:=by simpa using he
   split at h
   ·rename_i hl;simp only [Option.some.injEq] at h;subst h;exact .inl ⟨(i,b'),by simp,he,rfl,hl⟩
   ·cases h
  ·rename_i he
   have he:i≠id:=by simpa using he
   rcases ih h with ⟨p,hp,h1⟩|⟨h1,h2⟩
   ·exact .inl ⟨p,by simp [hp],h1⟩
   ·refine .inr ⟨h1,fun p hp => ?_⟩
    rcases List.mem_cons.1 hp with rfl|hp
    ·exact he
    ·exact h2 p hp
theorem QCE {u:List (Nat×Blk)} {lk:Nat→Option Blk} {id:Nat} {b:Blk} (h:K3 u lk id=some b):(∃ p∈u,p.1=id∧p.2=b∧b.live=true∧True)∨(lk id=some b∧∀ p∈u,p.1≠id):=by
 rcases qX h with ⟨p,h1,h2,h3,h4⟩|h
 ·exact .inl ⟨p,h1,h2,h3,h4,trivial⟩
 ·exact .inr h
theorem QQk {u:List (Nat×Blk)} {lk:Nat→Option Blk} {id:Nat} {b:Blk} (h:∀ p∈u,p.1≠id) (hb:lk id=some b):K3 u lk id=some b:=by
 induction u with
 | nil=>exact hb
 | cons p u ih=>
  obtain ⟨i,b'⟩:=p
  have:(i == id)=false:=by have:=h (i,b') (by simp);simpa using this
  simp only [K3,this]
  exact ih fun p hp=>h p (by simp [hp])
theorem QAY (u h:List (Nat×Blk)) (id:Nat):look (u++h) id=K3 u (look h) id:=by
 induction u with
 | nil=>rfl
 | cons p u ih=>obtain ⟨i,b⟩:=p;simp only [List.cons_append,KZ,K3];rw [ih]
theorem Act.getD_put (a:Act) (d:Option Nat) (v:Value) (t:Nat):(a.put d v).tmps.getD t undef=if d=some t∧t < a.tmps.size then v else a.tmps.getD t undef:=by
 cases d with
 | none=>simp [Act.put]
 | some d=>
  simp only [Act.put,Array.getD_eq_getD_getElem?,Array.getElem?_setIfInBounds,Option.some.injEq]
  by_cases h:d=t
  ·subst h
   by_cases g:d < a.tmps.size
   ·simp [g]
   ·simp [g]
  ·simp [h]
theorem Act.put_size (a:Act) (d:Option Nat) (v:Value):(a.put d v).tmps.size=a.tmps.size:=by
 cases d<;>simp [Act.put]
theorem Act.put_defers (a:Act) (d:Option Nat) (v:Value):(a.put d v).defers=a.defers:=by
 cases d<;>rfl
theorem Inv.step {G:Ctx} {N:Nat} {r r':Nat→Loc} {tf:Nat→AV} {lk:Nat→Option Blk} {a:Act} {w w':World} {nid:Nat} {u:List (Nat×Blk)} {d:Option Nat} {v:AV}
  (h:Inv G N r tf lk a w) (hf:Wb nid tf lk) (hn:G.n≤nid) (hp:Qe lk r nid u w r' w')
  (hold:∀ p∈u,inR nid p.1=false→∃ b,lk p.1=some b∧b.own=true):Inv G N r' (ZQ N tf d v) (K3 u lk) (a.put d (v.den r')) w':=by
 have hr:∀ i,(!inR nid i)=true→r i=r' i:=fun i hi=>(hp.same i (by simpa using hi)).symm
 have hft:∀ id b k,lk id=some b→(QV r' id b k↔QV r id b k):=by
  intro id b k hb
  have:=hp.same id (hf.out id b hb)
  unfold QV;rw [this]
 have hbk:∀ id b,lk id=some b→(∀ p∈u,p.1≠id)→∀ k,QV r id b k→bk w' k=bk w k:=by
  intro id b hb hne k hk
  refine hp.fr.block k ((h.rep id b hb).lt (h.live id b hb) k hk) ?_
  rintro ⟨p,hpu,hin,b0,hb0,hk0⟩
  obtain ⟨b',hb',how⟩:=hold p hpu hin
  rw [hb'] at hb0;cases hb0
  exact h.sep p.1 id _ b hb' hb (hne p hpu) how k hk0 hk
 have hlt:∀ id b,lk id=some b→∀ k,QV r id b k→k < w.heap.size:=fun id b hb=>(h.rep id b hb).lt (h.live id b hb)
 have hnewO:∀ p∈u,p.2.live=true→inR nid p.1=true→∀ id b,lk id=some b→b.own=true→(∀ q∈u,q.1=id→q.2.live=true)→∀ k,QV r' p.1 p.2 k→¬ QV r id b k:=by
  intro p hpu hl hin id b hb hob hst k hk hk2
  rcases hp.new p hpu hin hl k hk with h1|⟨q,hq,h1,h2,b0,hb0,h3⟩|⟨_,id0,b0,hb0,ho0,h3⟩
  ·have:=hlt id b hb k hk2;omega
  ·obtain ⟨b',hb',how⟩:=hold q hq h1
   have hqi:q.1≠id:=by
    intro e
    have e1:=h2 q hq rfl
    rw [hst q hq e] at e1;cases e1
   rw [hb'] at hb0;cases hb0
   exact h.sep q.1 id _ b hb' hb hqi how k h3 hk2
  ·have hne:id≠id0:=by
    rintro rfl
    rw [hb] at hb0;cases hb0;rw [hob] at ho0;cases ho0
   exact h.sep id id0 b b0 hb hb0 hne hob k hk2 h3
 have hnew:∀ p∈u,p.2.live=true→inR nid p.1=true→p.2.own=true→∀ id b,lk id=some b→(∀ q∈u,q.1=id→q.2.live=true)→∀ k,QV r' p.1 p.2 k→¬ QV r id b k:=by
  intro p hpu hl hin hpo id b hb hne k hk hk2
  rcases hp.new p hpu hin hl k hk with h1|⟨q,hq,h1,h2,b0,hb0,h3⟩|⟨hno,_⟩
  ·have:=hlt id b hb k hk2;omega
  ·obtain ⟨b',hb',how⟩:=hold q hq h1
   have hqi:q.1≠id:=by
    intro e
    have e1:=h2 q hq rfl
    rw [hne q hq e] at e1;cases e1
   rw [hb'] at hb0;cases hb0
   exact h.sep q.1 id _ b hb' hb hqi how k h3 hk2
  ·rw [hpo] at hno;cases hno
 have hdf:Dfr G r' (K3 u lk) (a.put d (v.den r')):=by
  refine h.defers.to (Act.put_defers _ _ _) fun id _ hid=>⟨?_,hp.same id (hf.out id _ hid)⟩
  have hne:∀ p∈u,p.1≠id:=by
   intro p hpu he
   have hin:inR nid p.1=false:=by rw [he];exact hf.out id _ hid
   obtain ⟨b,hb,ho⟩:=hold p hpu hin
   rw [he,hid] at hb
   simp only [Option.some.injEq] at hb;subst hb;cases ho
  exact QQk hne hid
 refine ⟨by rw [Act.put_size];exact h.size,hdf,fun t => ?_,fun id b hb => ?_,fun id b hb => ?_,fun id id' b b' hb hb' hne how => ?_,fun id hid => ?_,?_,fun id b hb how => ?_⟩
 ·rw [Act.getD_put,h.size]
  unfold ZQ
  split
  ·rfl
  ·rw [h.tm t,JJ hr _ (hf.tm t)]
 ·rcases qX hb with ⟨p,hpu,rfl,rfl,_⟩|⟨hb,hne⟩
  ·exact hp.rep p hpu
  ·exact (h.rep id b hb).keep hr (hp.same id (hf.out id b hb)).symm hp.fr.size (hf.blk id b hb) (fun _=>hbk id b hb hne)
 ·rcases qX hb with ⟨p,_,_,_,hl⟩|⟨hb,_⟩
  ·exact hl
  ·exact h.live id b hb
 ·intro k hk hk'
  rcases QCE hb with ⟨p,hpu,rfl,rfl,hl,hpl⟩|⟨hb1,hne1⟩<;>rcases QCE hb' with ⟨q,hqu,rfl,rfl,hl',hql⟩|⟨hb2,hne2⟩
  ·cases hin:inR nid p.1<;>cases hin':inR nid q.1
   ·obtain ⟨b1,g1,o1⟩:=hold p hpu hin
    obtain ⟨b2,g2,o2⟩:=hold q hqu hin'
    obtain ⟨c1,d1,e1⟩:=hp.stay p hpu hin hl k hk
    obtain ⟨c2,d2,e2⟩:=hp.stay q hqu hin' hl' k hk'
    rw [g1] at d1;cases d1
    rw [g2] at d2;cases d2
    exact h.sep _ _ _ _ g1 g2 hne o1 k e1 e2
   ·obtain ⟨b1,g1,o1⟩:=hold p hpu hin
    obtain ⟨c1,d1,e1⟩:=hp.stay p hpu hin hl k hk
    rw [g1] at d1;cases d1
    rcases hp.new q hqu hin' hl' k hk' with h1|⟨z,hz,h1,h2,c3,d3,h3⟩|⟨_,id0,b0,hb0,ho0,h3⟩
    ·have:=hlt _ _ g1 k e1;omega
    ·obtain ⟨b3,g3,o3⟩:=hold z hz h1
     rw [g3] at d3;cases d3
     have hzp:z.1≠p.1:=by
      intro e
      have:=h2 p hpu e.symm
      rw [hl] at this;cases this
     exact h.sep z.1 p.1 _ b1 g3 g1 hzp o3 k h3 e1
    ·have hne0:p.1≠id0:=by
      intro e
      rw [←e,g1] at hb0;cases hb0;rw [o1] at ho0;cases ho0
     exact h.sep p.1 id0 b1 b0 g1 hb0 hne0 o1 k e1 h3
   ·obtain ⟨b2,g2,o2⟩:=hold q hqu hin'
    obtain ⟨c2,d2,e2⟩:=hp.stay q hqu hin' hl' k hk'
    rw [g2] at d2;cases d2
    rcases hp.new p hpu hin hl k hk with h1|⟨z,hz,h1,h2,c3,d3,h3⟩|⟨hno,_⟩
    ·have:=hlt _ _ g2 k e2;omega
    ·obtain ⟨b3,g3,o3⟩:=hold z hz h1
     rw [g3] at d3;cases d3
     have hzp:z.1≠q.1:=by
      intro e
      have:=h2 q hqu e.symm
      rw [hl'] at this;cases this
     exact h.sep z.1 q.1 _ b2 g3 g2 hzp o3 k h3 e2
    ·rw [how] at hno;cases hno
   ·exact hp.apart p hpu q hqu hin hin' hne how hl' k hk hk'
  ·rw [hft _ _ _ hb2] at hk'
   cases hin:inR nid p.1
   ·obtain ⟨b1,g1,o1⟩:=hold p hpu hin
    obtain ⟨c1,d1,e1⟩:=hp.stay p hpu hin hl k hk
    rw [g1] at d1;cases d1
    exact h.sep _ _ _ _ g1 hb2 hne o1 k e1 hk'
   ·exact hnew p hpu hl hin how id' b' hb2 (fun q hq e=>absurd e (hne2 q hq)) k hk hk'
  ·rw [hft _ _ _ hb1] at hk
   cases hin':inR nid q.1
   ·obtain ⟨b2,g2,o2⟩:=hold q hqu hin'
    obtain ⟨c2,d2,e2⟩:=hp.stay q hqu hin' hl' k hk'
    rw [g2] at d2;cases d2
    exact h.sep _ _ _ _ hb1 g2 hne how k hk e2
   ·exact hnewO q hqu hl' hin' id b hb1 how (fun z hz e=>absurd e (hne1 z hz)) k hk' hk
  ·rw [hft _ _ _ hb1] at hk
   rw [hft _ _ _ hb2] at hk'
   exact h.sep _ _ _ _ hb1 hb2 hne how k hk hk'
 ·rw [hp.same id (by unfold inR;simp;omega)]
  exact h.ext id hid
 ·refine ⟨hp.fr.os.trans h.fr.os,hp.fr.tape.trans h.fr.tape,hp.fr.output.trans h.fr.output,Nat.le_trans h.fr.size hp.fr.size,fun k hk hc => ?_⟩
  rw [hp.fr.block k (Nat.lt_of_lt_of_le hk h.fr.size) ?_,h.fr.block k hk hc]
  rintro ⟨p,hpu,hin,b0,hb0,hk0⟩
  obtain ⟨b',hb',how⟩:=hold p hpu hin
  rw [hb'] at hb0;cases hb0
  rcases h.own _ _ hb' how k hk0 with h1|h1
  ·exact hc h1
  ·omega
 ·intro k hk
  rcases QCE hb with ⟨p,hpu,rfl,rfl,hl,_⟩|⟨hb1,_⟩
  ·cases hin:inR nid p.1
   ·obtain ⟨b1,g1,o1⟩:=hold p hpu hin
    obtain ⟨c1,d1,e1⟩:=hp.stay p hpu hin hl k hk
    rw [g1] at d1;cases d1
    exact h.own _ _ g1 o1 k e1
   ·rcases hp.new p hpu hin hl k hk with h1|⟨q,hq,h1,h2,c3,d3,h3⟩|⟨hno,_⟩
    ·exact .inr (Nat.le_trans h.fr.size h1)
    ·obtain ⟨b1,g1,o1⟩:=hold q hq h1
     rw [g1] at d3;cases d3
     exact h.own _ _ g1 o1 k h3
    ·rw [how] at hno;cases hno
  ·rw [hft _ _ _ hb1] at hk
   exact h.own _ _ hb1 how k hk
end Go.SX
namespace Go.SX
open Go Go.RowKit Go.Proofs.Ytbpffdkemeoajaa
structure Kc (n:Nat) (st:St):Prop where
 tm:∀ t,(QG st.tm t).all (· < n)=true
 out:∀ id b,look st.hp id=some b→id < n
 blk:∀ id b,look st.hp id=some b→b.all (· < n)=true
theorem Blk.all_mono {p q:Nat→Bool} (h:∀ id,p id=true→q id=true):∀ b:Blk,b.all p=true→b.all q=true
 | .cells _ _ l,hb=>allL_mono h l hb
 | .rowl _ _ l,hb=>by
  simp only [Blk.all,List.all_eq_true] at hb ⊢
  exact fun x hx=>allL_mono h x (hb x hx)
 | .arr ..,_=>rfl
 | .gone,_=>rfl
 | .cellsR _ _ l,hb=>allL_mono h l hb
 | .rowlR _ _ l,hb=>by
  simp only [Blk.all,List.all_eq_true] at hb ⊢
  exact fun x hx=>allL_mono h x (hb x hx)
 | .lp _ _ l _ _ _,hb=>allL_mono h l hb
 | .dfr,_=>rfl
 | .mp ..,_=>rfl
 | .rowz ..,_=>rfl
 | .frz ..,_=>rfl
 | .frz2 ..,_=>rfl
 | .mpf ..,_=>rfl
mutual
theorem qJ:∀ v:AV,v.all (fun _=>true)=true
 | .int .. | .bool .. | .addr .. | .nilp | .nils | .nilm | .nilf | .nili | .str .. | .raw .. | .ptr .. | .slice .. | .slz .. | .map .. | .yld .. => rfl
 | .fn _ l=>all_trueL l
 | .mth _ l=>all_trueL l
 | .alt _ v w=>by simp only [AV.all,qJ v,qJ w];rfl
 | .ifc _ v=>qJ v
 | .opt _ v=>qJ v
 | .agg l=>all_trueL l
 | .tup l=>all_trueL l
theorem all_trueL:∀ l:List AV,AV.allL (fun _=>true) l=true
 | []=>rfl
 | v::l=>by simp only [AV.allL,qJ v,all_trueL l];rfl
end
theorem QEa (b:Blk):b.all (fun _=>true)=true:=by
 cases b<;>simp only [Blk.all,all_trueL,List.all_eq_true,implies_true]
theorem qE {n nid:Nat} (h:n≤nid):∀ id,decide (id < n)=true→(!inR nid id)=true:=by
 intro id hid
 simp only [decide_eq_true_eq] at hid
 simp [inR];omega
theorem Kc.free {n nid:Nat} {st:St} (h:Kc n st) (hn:n≤nid):Wb nid (QG st.tm) (look st.hp):=
 ⟨fun t=>all_mono (qE hn) _ (h.tm t),fun id b hb=>by
  have:=qE hn id (by simpa using h.out id b hb);simpa using this,fun id b hb=>Blk.all_mono (qE hn) _ (h.blk id b hb)⟩
theorem Kc.eqv {n:Nat} {st:St} {tm:List AV} (h:Kc n st) (he:Eqv st.tm tm):Kc n { st with tm:=tm }:=
 ⟨fun t=>by rw [←(he.2 t).2];exact h.tm t,h.out,h.blk⟩
theorem QGW {u h:List (Nat×Blk)} {id:Nat} {b:Blk} (e:look (u++h) id=some b):(∃ p∈u,p.1=id∧p.2=b)∨look h id=some b:=by
 rw [QAY] at e
 rcases qX e with ⟨p,hp,h1,h2,_⟩|⟨h1,_⟩
 ·exact .inl ⟨p,hp,h1,h2⟩
 ·exact .inr h1
theorem Q0:∀ {h:List (Nat×Blk)} {id:Nat} {b:Blk},look h id=some b→(id,b)∈h
 | (i,b')::h,id,b,e=>by
  simp only [KZ] at e
  split at e
  ·rename_i hi
   split at e<;>(try (cases e;done))
   simp only [Option.some.injEq] at e;subst e
   have:i=id:=by simpa using hi
   subst this;exact List.mem_cons_self
  ·exact List.mem_cons_of_mem _ (Q0 e)
theorem Vd {m n:Nat} (h:m≤n):∀ id,decide (id < m)=true→decide (id < n)=true:=by
 intro id;simp only [decide_eq_true_eq];omega
theorem QQN {h:List (Nat×Blk)} {id:Nat} (e:QBj h id=true):∃ b,look h id=some b∧b.own=true:=by
 unfold QBj at e
 split at e
 ·rename_i b hb;exact ⟨b,hb,e⟩
 ·cases e
structure QBK (n:Nat) (rec:Rec):Prop where
 val:rec.val.all (· < n)=true
 upd:∀ p∈rec.upd,p.2.all (· < n)=true
theorem Ran.ok {E:Env} {o:Oper} {nid:Nat} {st:St} {rec:Rec} (h:Ran E o nid st rec) :
  QBK (nid + 8) rec∧∀ p∈rec.upd,inR nid p.1=true∨(p.1∈rec.ids∧∃ b,look st.hp p.1=some b∧b.own=true):=by
 obtain ⟨_,g,blks,eff,_,_,_,_,hok,h1,h2⟩:=h.ran
 unfold Zg at hok
 simp only [Bool.and_eq_true,List.all_eq_true,Bool.or_eq_true] at hok
 refine ⟨⟨by rw [h1];exact hok.1,fun p hp=>(hok.2 p (h2 ▸ hp)).1⟩,fun p hp => ?_⟩
 rcases (hok.2 p (h2 ▸ hp)).2 with h|h
 ·exact .inl h
 ·exact .inr ⟨by simpa using h.1,QQN h.2⟩
theorem Kc.apply {n nid:Nat} {st:St} {o:Oper} {rec:Rec} (h:Kc n st) (hn:n≤nid + 8) (hr:QBK (nid + 8) rec) (hu:∀ p∈rec.upd,p.1 < nid + 8):Kc (nid + 8) (Qv o rec st):=by
 refine ⟨fun t => ?_,fun id b hb => ?_,fun id b hb => ?_⟩
 ·unfold Qv
  rw [XR]
  split
  ·exact hr.val
  ·exact all_mono (Vd hn) _ (h.tm t)
 ·rcases QGW ((jE _ _ _).symm.trans hb) with ⟨p,hp,rfl,_⟩|hb
  ·exact hu p hp
  ·have:=h.out id b hb;omega
 ·rcases QGW ((jE _ _ _).symm.trans hb) with ⟨p,hp,_,rfl⟩|hb
  ·exact hr.upd p hp
  ·exact Blk.all_mono (Vd hn) _ (h.blk id b hb)
theorem QHp {nid id:Nat} (h:inR nid id=true):id < nid + 8:=by
 unfold inR at h;simp at h;omega
theorem Ran.scopedAt {E:Env} {o:Oper} {nid:Nat} {st:St} {rec:Rec} (h:Ran E o nid st rec) (hs:Kc nid st):Kc (nid + 8) (Qv o rec st):=
 hs.apply (by omega) h.ok.1 fun p hp=>by
  rcases h.ok.2 p hp with h1|⟨_,b,hb,_⟩
  ·exact QHp h1
  ·have:=hs.out _ _ hb;omega
theorem Kc.skip {n m:Nat} {st:St} {o:Oper} (h:Kc n st) (hn:n≤m):Kc m (Qv o ⟨.tup [],[],[]⟩ st):=by
 refine ⟨fun t => ?_,fun id b hb => ?_,fun id b hb => ?_⟩
 ·unfold Qv
  rw [XR]
  split
  ·rfl
  ·exact all_mono (Vd hn) _ (h.tm t)
 ·have:=h.out id b hb;omega
 ·exact Blk.all_mono (Vd hn) _ (h.blk id b hb)
theorem j8 {r:Nat→Loc} {tm:List AV} {a:Act} {x:Operand} (h:∀ t,x = .tmp t→a.tmps.getD t undef=(QG tm t).den r):a.eval x=(evA tm x).den r:=by
 cases x with
 | tmp t=>exact h t rfl
 | const v=>exact (QCo r v).symm
 | global g=>rfl
 | func f=>rfl
theorem Zz {p:Nat→Bool} {tm:List AV} {x:Operand} (h:∀ t,(QG tm t).all p=true):(evA tm x).all p=true:=by
 cases x with
 | tmp t=>exact h t
 | const v=>exact QDt p v
 | global g=>rfl
 | func f=>rfl
def Rep (G:Ctx) (n:Nat) (st:St) (a:Act) (w:World):Prop:=(∃ r,Inv G st.tm.length r (QG st.tm) (look st.hp) a w)∧Kc n st
theorem Inv.eqv {G:Ctx} {r:Nat→Loc} {st:St} {tm:List AV} {a:Act} {w:World} (he:Eqv st.tm tm) (h:Inv G st.tm.length r (QG st.tm) (look st.hp) a w):Inv G tm.length r (QG tm) (look st.hp) a w:=
 ⟨by rw [h.size,he.1],h.defers,fun t=>by rw [h.tm t,(he.2 t).1],h.rep,h.live,h.sep,h.ext,h.fr,h.own⟩
theorem Inv.hok {G:Ctx} {N:Nat} {r:Nat→Loc} {tf:Nat→AV} {lk:Nat→Option Blk} {a:Act} {w:World} {nid:Nat} (h:Inv G N r tf lk a w) (hf:Wb nid tf lk):HOk r w nid lk:=
 ⟨hf.out,h.rep,hf.blk,fun id id' b b' h1 h2 hne ho _=>h.sep id id' b b' h1 h2 hne ho⟩
theorem QB2 (st:St) (o:Oper) (rec:Rec):QG (Qv o rec st).tm=ZQ st.tm.length (QG st.tm) o.dst rec.val:=by
 funext t
 unfold Qv ZQ
 rw [XR]
theorem QBq (st:St) (o:Oper) (rec:Rec):look (Qv o rec st).hp=K3 rec.upd (look st.hp):=by
 funext id
 exact (jE _ _ _).trans (QAY _ _ _)
theorem Ve (st:St) (o:Oper) (rec:Rec):(Qv o rec st).tm.length=st.tm.length:=qo _ _ _
end Go.SX
