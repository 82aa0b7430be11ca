/- - -/
import Derived.Test.YtekbmehgcofnkaaGreatVk
namespace Go.SX
open Go Go.RowKit Go.Proofs.YtekbmehgcofnkaaGreat Told
inductive Ex where
 | normal
 | exit (id:Nat)
 | ret
def Ex.to:Ex->Exit
 | .normal => .normal
 | .exit id => .exit id
 | .ret => .ret
structure Hnd where
 loop:Code->St->(Ex->St->QC)->QC
 call:FuncId->List AV->List (Nat×Blk)->Nat->(AV->List (Nat×Blk)->Nat->QC)->QC
 yield:Nat->List AV->List (Nat×Blk)->Nat->(AV->List (Nat×Blk)->Nat->QC)->QC
def QAl(op:Op)(ev:Operand->AV):Option (Nat×List AV):=
 match op with
 | .call ⟨.value f,args,_⟩=>match ev f with
  | .yld id=>some (id,args.toList.map ev)
  | _=>none
 | _=>none
def WG(E:Env)(op:Op)(ev:Operand->AV):Option (FuncId×List AV):=
 match op with
 | .call ⟨.value f,args,_⟩=>match ev f with
  | .fn (.func g) cap=>match E.C g with
   | some _=>none
   | none=>some (g,args.toList.map ev++cap)
  | .mth (.func g) l=>match E.C g with
   | some _=>none
   | none=>some (g,l++args.toList.map ev)
  | _=>none
 | .call ⟨.invoke x name,args,_⟩=>match ev x with
  | .ifc t v=>match E.M t name with
   | some g=>match E.C g with
    | some _=>none
    | none=>some (g,v::args.toList.map ev)
   | none=>none
  | _=>none
 | _=>none
def Zh(h h':List (Nat×Blk)):Bool:=h.all λp=>match p.2 with
 | .dfr=>(match look h' p.1 with|some .dfr=>true|_=>false)
 | _=>true
theorem QII{h h':List (Nat×Blk)}(hk:Zh h h'=true){id:Nat}(hl:look h id=some .dfr):look h' id=some .dfr:=by
 have:=List.all_eq_true.1 hk _ (KK hl);simp only at this;split at this
 .assumption
 .cases this
def QG3:Op->Bool
 | .next .. => true
 | _=>false
def QQG(op:Op)(ev:Operand->AV)(h:List (Nat×Blk)):Option (Nat×Nat×TypeId×Nat×List Nat×Nat×List MapEntry×Nat):=match op with
 | .next x false=>(match ev x with
  | .ptr id m j=>(match look h id,look h m with
   | some (.itm [.map m'] t since seen last),some (.mp es cl)=>(match Nat.beq m m',Nat.beq j 0 with
    | true,true=>some (id,m,t,since,seen,last,es,cl)
    | _,_=>none)
   | _,_=>none)
  | _=>none)
 | _=>none
def QFA(op:Op)(ev:Operand->AV)(h:List (Nat×Blk))(K:AV->List (Nat×Blk)->QC):QC:=match QQG op ev h with
 | some (id,m,t,since,seen,last,es,cl) => .ask (QBx es since last) (.both (.asm (Z1 es seen) (K (.tup [.bool true false]) []))
   (.all λg=>.asm (QAi es seen (nxI g)) (K (.tup [.bool true true,.raw (es.getD (nxI g) noE).key,.raw (es.getD (nxI g) noE).val]) [(id,.itm [.map m] t since (seen++[(es.getD (nxI g) noE).born]) cl)])))
 | none => .fail "a step of what is not known"
def Hv(E:Env)(op:Op)(ev:Operand->AV)(h:List (Nat×Blk)):Option (Nat×Nat):=match E.fk&&E.jn with
 | false=>none
 | true=>match op with
  | .binOp .eql t x y _=>(match E.P.underlying t,ev x,ev y with
   | some (.slice _),.slz id _ len _,.nils=>(match look h id with
    | some b=>(match QCj b with|some n=>some (len,n)|none=>none)
    | none=>none)
   | _,_,_=>none)
  | _=>none
variable {E:Env}{ev:Operand->AV}{n:Nat}{G:Ctx}{st:St}{a:Act}{w:World}{b:Bool}{g:FuncId}{args:List AV}{r:Nat->Loc}{o:Oper}{p:Nat->Bool}{c:Code}(h:List (Nat×Blk))
theorem Qeg{op:Op}{h:List (Nat×Blk)}{len:Nat}(hn:Hv E op ev h=some (len,n)):∃ t x y c el id e cp b,op = .binOp .eql t x y c/\E.P.underlying t=some (.slice el)/\ev x = .slz id e len cp/\ev y = .nils/\look h id=some b/\QCj b=some n:=by
 unfold Hv at hn;split at hn<;>(try (cases hn;done))
 split at hn<;>(try (cases hn;done))
 rename_i t x y c;split at hn<;>(try (cases hn;done))
 rename_i el id e len' cp hu hx hy;split at hn<;>(try (cases hn;done))
 rename_i b hb;split at hn<;>(try (cases hn;done))
 rename_i n' hnb;simp only[qsI,qpI]at hn;obtain⟨rfl,rfl⟩:=hn;exact⟨t,x,y,c,el,id,e,cp,b,rfl,hu,hx,hy,hb,hnb⟩
def JT(E:Env)(H:Hnd)(ops:Array Oper):List Oper->St->(St->QC)->QC
 | [],st,K=>K st
 | o::l,st,K=>
  let go:=λ(st:St)=>match XS ops st.tm o with
   | some true=>match WG E o.op (evA st.tm)with
    | some (g,args)=>H.call g args st.hp st.nid λv hp nid=>match Zh st.hp hp with
     | true=>JT E H ops l ⟨setO st.tm o.dst v,hp,nid⟩ K
     | false => .fail "deferred"
    | none=>match QAl o.op (evA st.tm)with
     | some (id,args)=>H.yield id args st.hp st.nid λv hp nid=>match Zh st.hp hp with
      | true=>JT E H ops l ⟨setO st.tm o.dst v,hp,nid⟩ K
      | false => .fail "deferred"
     | none=>match QG3 o.op with
      | true=>QFA o.op (evA st.tm) st.hp λv u=>JT E H ops l { Q3 o ⟨v,u,[]⟩ st with nid:=st.nid+8 } K
      | false=>match Hv E o.op (evA st.tm) st.hp with
       | some (len,n) => .need (decide (len<=n)) (.both (.asm (len=0) (JT E H ops l { Q3 o ⟨.bool true true,[],[]⟩ st with nid:=st.nid+8 } K)) (JT E H ops l { Q3 o ⟨.bool true false,[],[]⟩ st with nid:=st.nid+8 } K))
       | none=>qT E o st.nid st λrec=>JT E H ops l { Q3 o rec st with nid:=st.nid+8 } K
   | some false=>JT E H ops l (Q3 o ⟨.tup [],[],[]⟩ st) K
   | none => .fail "a guard"
  match QAv E ops o st.tm with
  | some p=>QBH p.n (.bnd p.e λy=>JT E H ops l { Q3 o (p.rec_ y) st with nid:=st.nid+8 } K)
  | none=>match QAH E ops o st.nid st with
  | some (n,rec)=>QBH n (JT E H ops l { Q3 o rec st with nid:=st.nid+8 } K)
  | none=>match QBg ops st.tm o with
   | none=>(match QAB E ops st.tm o with
    | none=>go st
    | some (d,k,i,len)=>QIx i len λm=>go { st with tm:=st.tm.set d (.int true k m) })
   | some (d,b) => .br b (go { st with tm:=qh st.tm d true }) (go { st with tm:=qh st.tm d false })
def QCe(E:Env)(o:Oper)(nid:Nat)(st:St):Option Rec:=
 match qe (E.gc && !E.sp) E.P E.C E.M o.op (evA st.tm) nid (jc st.hp)with
 | (ids,g)=>match WI st.hp ids with
  | none=>none
  | some blks=>match g blks with
   | none=>none
   | some eff=>match eff.upd,Wu nid ids st.hp eff,eff.known,eff.pre with
    | [],true,true,true=>some ⟨eff.val,[],ids⟩
    | _,_,_,_=>none
def jh(E:Env)(ops:Array Oper):List Oper->St->Option St
 | [],st=>some st
 | o::l,st=>match o.guard,QAv E ops o st.tm,QBg ops st.tm o,WG E o.op (evA st.tm),QAl o.op (evA st.tm),(E.bi o.op||E.fk)||QG3 o.op with
  | none,none,none,none,none,false=>match QCe E o st.nid st with
   | some rec=>jh E ops l { Q3 o rec st with nid:=st.nid+8 }
   | none=>none
  | _,_,_,_,_,_=>none
def qr(E:Env)(st:St):Code->Option (List Nat×St)
 | .skip=>some ([],st)
 | .region _ ops false=>match jh E ops ops.toList st with
  | some st'=>some (ops.toList.filterMap (·.dst),st')
  | none=>none
 | _=>none
def GK(b:Bool):AV->AV->Option AV
 | .int _ k n,.int _ k' m=>(match k==k' with|true=>some (.int false k (cond b n m))|false=>none)
 | .bool _ p,.bool _ q=>some (.bool false (cond b p q))
 | v,.tup []=>some (.opt b v)
 | .tup [],v=>some (.opt (!b) v)
 | _,_=>none
def Zo(b:Bool)(g:Nat->Value)(tx ty:List AV):List Nat->List AV->List AV
 | [],tm=>tm
 | d::l,tm=>Zo b g tx ty l (tm.set d (match GK b (QJ tx d) (QJ ty d)with|some v=>v|none => .raw (g d)))
def QIf(E:Env)(b:Bool)(x y:Code)(st:St):Option ((Nat->Value)->St):=match E.jn with
 | false=>none
 | true=>match qr E st x,qr E st y with
  | some (dx,sx),some (dy,sy)=>some λg=>⟨Zo b g sx.tm sy.tm (dx++dy) st.tm,st.hp,sx.nid+sy.nid⟩
  | _,_=>none
def Hr(c:Operand)(b:Bool)(st:St):St:=match c with
 | .tmp d=>{ st with tm:=qh st.tm d b }
 | _=>st
def exec(E:Env)(H:Hnd):Code->St->(Ex->St->QC)->QC
 | .skip,st,K=>K .normal st
 | .label _,st,K=>K .normal st
 | .region _ ops draw,st,K=>
  match draw with
  | true=>Z7 E ops st.nid 0 (ops.toList.take (X3 0 (JX [] ops.toList))) st λrs st'=>
   (match QKT ops st.nid (ops.toList.take (X3 0 (JX [] ops.toList))) rs&&jb ops.toList with
   | true=>JT E H ops (ops.toList.drop (X3 0 (JX [] ops.toList))) { st' with nid:=st.nid+8*(ops.toList.take (X3 0 (JX [] ops.toList))).length } λst''=>K .normal st''
   | false => .fail "order")
  | false=>JT E H ops ops.toList st λst'=>K .normal st'
 | .seq a b,st,K=>exec E H a st λe st'=>match e with
  | .normal=>exec E H b st' K
  | .exit id=>K (.exit id) st'
  | .ret=>K .ret st'
 | .cond c x y,st,K=>match evA st.tm c with
  | .bool true b=>(match b with|true=>exec E H x st K|false=>exec E H y st K)
  | .bool false b=>match QIf E b x y st with
   | some f => .all λg=>K .normal (f g)
   | none => .br b (exec E H x (Hr c true st) K) (exec E H y (Hr c false st) K)
  | _ => .fail "cond"
 | .block id body,st,K=>exec E H body st λe st'=>match e with
  | .normal=>K .normal st'
  | .exit j=>(match j==id with|true=>K .normal st'|false=>K (.exit j) st')
  | .ret=>K .ret st'
 | .loop body,st,K=>H.loop (.loop body) st K
 | .rangeFunc g ps as body,st,K=>H.loop (.rangeFunc g ps as body) st K
 | .scope body,st,K=>exec E H body st K
 | .exit id,st,K=>K (.exit id) st
 | .ret,st,K=>K .ret st
 | _, _, _ => .fail "code"
def JA:Code->List Code
 | .seq a b=>JA a++JA b
 | .cond _ a b=>JA a++JA b
 | .block _ a=>JA a
 | .scope a=>JA a
 | .loop body=>[.loop body]
 | .rangeFunc g ps as body=>[.rangeFunc g ps as body]
 | _=>[]
def J5(E:Env)(G:Ctx)(c:Code)(H:St->(Ex->St->QC)->QC):Prop:=
 ∀(st:St) (K:Ex->St->QC) (T:AV->List (Nat×Blk)->Prop) (Q:Exit->Act->World->Prop) (a:Act) (w:World),G.n<=st.nid->(H st K).den T->Rep G st.nid st a w ->
  (∀ e st' a' w',G.n<=st'.nid->(K e st').den T->Rep G st'.nid st' a' w'->Q e.to a' w')->c.wpIn (FW G.rd) 0 E.P Q a w
structure KM (G:Ctx) (n:Nat) (r:Nat->Loc) (hp:List (Nat×Blk)) (w:World):Prop where
 rep:∀ id b,look hp id=some b->QN r id w b
 sep:∀ id id' b b',look hp id=some b->look hp id'=some b'->id≠id'->b.own=true->∀ k,Qo r id b k->¬ Qo r id' b' k
 ext:∀ id,id<G.n->r id=G.r id
 fr:Fr G.w w G.ch
 own:∀ id b,look hp id=some b->b.own=true->∀ k,Qo r id b k->G.ch k∨G.w.heap.size<=k
 out:∀ id b,look hp id=some b->id<n
 blk:∀ id b,look hp id=some b->b.all (·<n)=true
def ZA(E:Env)(G:Ctx)(call:FuncId->List AV->List (Nat×Blk)->Nat->(AV->List (Nat×Blk)->Nat->QC)->QC):Prop:=
 ∀(g:FuncId) (args:List AV) (hp:List (Nat×Blk)) (nid:Nat) (K:AV->List (Nat×Blk)->Nat->QC) (T:AV->List (Nat×Blk)->Prop) (r:Nat->Loc) (w:World),G.n<=nid->KM G nid r hp w->AV.allL (·<nid) args=true ->
  (call g args hp nid K).den T->J8 E.P g=true/\Calls E.P g (AV.denL r args).toArray w λe w'=>∃ v hp' nid' r',(K v hp' nid').den T/\e = .returned (v.den r')/\nid<=nid'/\(∀ id,id<nid->r' id=r id)/\KM G nid' r' hp' w'/\v.all (·<nid')=true
def QE0(E:Env)(G:Ctx)(yield:Nat->List AV->List (Nat×Blk)->Nat->(AV->List (Nat×Blk)->Nat->QC)->QC):Prop:=
 ∀(id:Nat) (args:List AV) (hp:List (Nat×Blk)) (nid:Nat) (K:AV->List (Nat×Blk)->Nat->QC) (T:AV->List (Nat×Blk)->Prop) (r:Nat->Loc) (w:World),G.n<=nid->KM G nid r hp w->AV.allL (·<nid) args=true ->
  (yield id args hp nid K).den T->∃ rec,bk w (r id).blk=some (.loop rec)/\args.length=rec.params.size /\
   RoundIn Fence.wide 0 E.P (r id).blk rec.fn ((rec.params.zip (AV.denL r args).toArray).foldl (λtmps (t,v)=>tmps.setIfInBounds t v) rec.tmps) rec.assign rec.body w λe w'=>
    ∃ u,e = .returned u/\∃ v hp' nid' r',(K v hp' nid').den T/\u=v.den r'/\nid<=nid'/\(∀ id,id<nid->r' id=r id)/\KM G nid' r' hp' w'/\v.all (·<nid')=true
structure Q0 (E:Env) (G:Ctx) (H:Hnd) (c:Code):Prop where
 loop:∀ s∈JA c,J5 E G s (H.loop s)
 call:ZA E G H.call
 yield:QE0 E G H.yield
theorem Rep.fix{c:Operand}{k:Bool}(h:Rep G n st a w)(he:evA st.tm c = .bool k b):Rep G n (Hr c b st) a w:=by
 unfold Hr;split
 .rename_i d;have hq:=QCi (tm:=st.tm) (d:=d) he b rfl;exact⟨h.1.imp λr hI=>Inv.eqv (st:=st) hq hI,h.2.eqv hq⟩
 .exact h
theorem QDT(c:Operand)(b:Bool)(st:St):(Hr c b st).nid=st.nid:=by unfold Hr;split<;>rfl
theorem Rep.nid{G:Ctx}{n:Nat}{st:St}{a:Act}{w:World}{m:Nat}(h:Rep G n st a w):Rep G n { st with nid:=m } a w:=⟨h.1,⟨h.2.tm,h.2.out,h.2.blk⟩⟩
theorem Qbl{o:Oper}(h:WG E o.op ev=some (g,args))(hM:QBI E.P E.M)(hgo:J8 E.P g=true)(hρ:∀ x∈o.op.operands,a.eval x=(ev x).den r)(w:World):
  (execOp a.eval o).run E.P w = .ok (.enter g (AV.denL r args).toArray) w:=by
 unfold WG at h;split at h<;>(try (cases h;done))<;>rename_i ho
 .rename_i f as ts;have hf:=hρ f (by rw[ho];simp[Op.operands,Call.operands])
  split at h<;>(try (cases h;done))
  .rename_i g' cap hef;split at h<;>(try (cases h;done))
   simp only[qsI,qpI]at h;obtain⟨rfl,rfl⟩:=h;unfold execOp;simp only[ho];have ha:=Yw (r:=r) (ρ:=a.eval) (ev:=ev) (xs:=as) (λx hx=>hρ x (by rw[ho];simp[Op.operands,Call.operands];exact .inr (by simpa using hx)))
   simp only[resolve,hf,hef,AV.den,Deferred.ofValue,Sem.run_bind,Sem.run_pure,Result.andThen_ok,invoke,ha];rw[qY];simpa using Wd hgo _ w
  .rename_i g' l hef;split at h<;>(try (cases h;done))
   simp only[qsI,qpI]at h;obtain⟨rfl,rfl⟩:=h;unfold execOp;simp only[ho];have ha:=Yw (r:=r) (ρ:=a.eval) (ev:=ev) (xs:=as) (λx hx=>hρ x (by rw[ho];simp[Op.operands,Call.operands];exact .inr (by simpa using hx)))
   simp only[resolve,hf,hef,AV.den,Deferred.ofValue,Sem.run_bind,Sem.run_pure,Result.andThen_ok,invoke,ha];rw[qY];simpa using Wd hgo _ w
 .rename_i x name as ts;have hx:=hρ x (by rw[ho];simp[Op.operands,Call.operands])
  split at h<;>(try (cases h;done))
  rename_i t v hex;split at h<;>(try (cases h;done))
  rename_i g' hm;split at h<;>(try (cases h;done))
  simp only[qsI,qpI]at h;obtain⟨rfl,rfl⟩:=h;unfold execOp;simp only[ho];have ha:=Yw (r:=r) (ρ:=a.eval) (ev:=ev) (xs:=as) (λx hx=>hρ x (by rw[ho];simp[Op.operands,Call.operands];exact .inr (by simpa using hx)))
  have hmm:=hM t name g' hm (v.den r) w;simp[resolve,invoke,callMethod,ha,hx,hex,AV.den,hmm,AV.denL];simpa using Wd hgo _ w
theorem QXu(h:WG E o.op ev=some (g,args)):∀ c,o.op ≠ .defer c:=by
 intro c hc;rw[hc]at h;simp[WG]at h
theorem QZ5(h:WG E o.op ev=some (g,args))(hs:∀ x,(ev x).all p=true):AV.allL p args=true:=by
 unfold WG at h;split at h<;>(try (cases h;done))
 .rename_i f as ts _;have hf:=hs f;split at h<;>(try (cases h;done))
  .rename_i g' cap hef;rw[hef]at hf;split at h<;>(try (cases h;done))
   simp only[qsI,qpI]at h;obtain⟨rfl,rfl⟩:=h;rw[j5,Zp (λx _=>hs x)];exact hf
  .rename_i g' l hef;rw[hef]at hf;split at h<;>(try (cases h;done))
   simp only[qsI,qpI]at h;obtain⟨rfl,rfl⟩:=h;rw[j5,Zp (λx _=>hs x),Bool.and_true];exact hf
 .rename_i x name as ts _;have hx:=hs x;split at h<;>(try (cases h;done))
  rename_i t v hex;rw[hex]at hx;split at h<;>(try (cases h;done))
  split at h<;>(try (cases h;done))
  simp only[qsI,qpI]at h;obtain⟨rfl,rfl⟩:=h;simp only[AV.allL,Zp (λx _=>hs x),Bool.and_true];exact hx
theorem Rep.hinv(hI:Inv G st.tm.length r (QJ st.tm) (look st.hp) a w)(hS:K9 n st):KM G n r st.hp w:=
 ⟨hI.rep,hI.sep,hI.ext,hI.fr,hI.own,hS.out,hS.blk⟩
theorem QkI{o:Oper}{id:Nat}(h:QAl o.op ev=some (id,args))(hρ:∀ x∈o.op.operands,a.eval x=(ev x).den r)(hs:∀ x,(ev x).all p=true){K:Act->World->Prop}{Q:Exit->Act->World->Prop}{R:Value->World->Prop}{rd:Option Nat}{rec:Loop}(hb:bk w (r id).blk=some (.loop rec))(hsz:args.length=rec.params.size)(hr:RoundIn Fence.wide 0 E.P (r id).blk rec.fn ((rec.params.zip (AV.denL r args).toArray).foldl (λtmps (t,v)=>tmps.setIfInBounds t v) rec.tmps) rec.assign rec.body w λe w'=>∃ v,e = .returned v/\R v w')(k:∀ v w',R v w'->K (a.put o.dst v) w'):o.wpIn (FW rd) 0 E.P a w K Q/\AV.allL p args=true:=by
 unfold QAl at h;split at h<;>(try (cases h;done))
 rename_i f as ts ho;have hf:=hρ f (by rw[ho];simp[Op.operands,Call.operands])
 split at h<;>(try (cases h;done))
 rename_i id' hef;simp only[qsI,qpI]at h;obtain⟨rfl,rfl⟩:=h;have ha:=Yw (r:=r) (ρ:=a.eval) (ev:=ev) (xs:=as) (λx hx=>hρ x (by rw[ho];simp[Op.operands,Call.operands];exact .inr (by simpa using hx)))
 refine⟨QaD ho (by rw[hf,hef];rfl) hb (by simpa using hsz) ?_ k,Zp (λx _=>hs x)⟩
 rw[ha];exact hr
theorem QZh{op:Op}{h:List (Nat×Blk)}{K:AV->List (Nat×Blk)->QC}{T:AV->List (Nat×Blk)->Prop}(hd:(QFA op ev h K).den T):
  ∃ x id m t since seen last es cl,op = .next x false/\ev x = .ptr id m 0/\look h id=some (.itm [.map m] t since seen last)/\look h m=some (.mp es cl) /\
   (QBx es since last/\(Z1 es seen->(K (.tup [.bool true false]) []).den T)/\∀ g,QAi es seen (nxI g)->(K (.tup [.bool true true,.raw (es.getD (nxI g) noE).key,.raw (es.getD (nxI g) noE).val]) [(id,.itm [.map m] t since (seen++[(es.getD (nxI g) noE).born]) cl)]).den T):=by
 unfold QFA at hd;split at hd
 .rename_i id m t since seen last es cl hn;unfold QQG at hn;split at hn<;>(try (cases hn;done))
  rename_i x;split at hn<;>(try (cases hn;done))
  rename_i id' m' j hx;split at hn<;>(try (cases hn;done))
  rename_i m'' t' since' seen' last' es' cl' h1 h2;split at hn<;>(try (cases hn;done))
  rename_i e1 e2;simp only[qsI,qpI]at hn;obtain⟨rfl,rfl,rfl,rfl,rfl,rfl,rfl,rfl⟩:=hn;have e1:=qnb e1;have e2:=qnb e2;subst e1;subst e2;exact⟨x,_,_,_,_,_,_,_,_,rfl,hx,h1,h2,hd.1,hd.2.1,hd.2.2⟩
 .exact hd.elim
theorem je{E:Env}(hE:E.Sound){H:Hnd}{G:Ctx}(hC:ZA E G H.call)(hY:QE0 E G H.yield){ops:Array Oper}{Q:Exit->Act->World->Prop}{T:AV->List (Nat×Blk)->Prop}:∀(l:List Oper) (st:St) (K:St->QC) (a:Act) (w:World),G.n<=st.nid->(JT E H ops l st K).den T->Rep G st.nid st a w ->
  (∀ st' a' w',G.n<=st'.nid->(K st').den T->Rep G st'.nid st' a' w'->Q .normal a' w')->wpListIn (FW G.rd) 0 E.P ops Q l a w
 | [],st,K,a,w,hn,h,hr,hQ=>hQ st a w hn h hr
 | o::l,st,K,a,w,hn,h,hr,hQ=>by
  have go:∀ tm,Eqv st.tm tm->(match XS ops tm o with
   | some true=>match WG E o.op (evA tm)with
    | some (g,args)=>H.call g args st.hp st.nid λv hp nid=>match Zh st.hp hp with
     | true=>JT E H ops l ⟨setO tm o.dst v,hp,nid⟩ K
     | false => .fail "deferred"
    | none=>match QAl o.op (evA tm)with
     | some (id,args)=>H.yield id args st.hp st.nid λv hp nid=>match Zh st.hp hp with
      | true=>JT E H ops l ⟨setO tm o.dst v,hp,nid⟩ K
      | false => .fail "deferred"
     | none=>match QG3 o.op with
      | true=>QFA o.op (evA tm) st.hp λv u=>JT E H ops l { Q3 o ⟨v,u,[]⟩ { st with tm:=tm }with nid:=st.nid+8 } K
      | false=>match Hv E o.op (evA tm) st.hp with
       | some (len,n) => .need (decide (len<=n)) (.both (.asm (len=0) (JT E H ops l { Q3 o ⟨.bool true true,[],[]⟩ { st with tm:=tm }with nid:=st.nid+8 } K)) (JT E H ops l { Q3 o ⟨.bool true false,[],[]⟩ { st with tm:=tm }with nid:=st.nid+8 } K))
       | none=>qT E o st.nid { st with tm:=tm } λrec=>JT E H ops l { Q3 o rec { st with tm:=tm }with nid:=st.nid+8 } K
   | some false=>JT E H ops l (Q3 o ⟨.tup [],[],[]⟩ { st with tm:=tm }) K
   | none => .fail "a guard" : QC).den T -> wpListIn (FW G.rd) 0 E.P ops Q (o :: l) a w := by
   intro tm he h;obtain⟨⟨r,hI⟩,hS⟩:=hr;have hI:=hI.eqv he;have hS:=hS.eqv he;have hf:=hS.free (qlr _);have hev:∀ x∈o.op.operands,a.eval x=(evA tm x).den r:=λx _=>zw λt _=>hI.tm t
   have behind:∀ v hp' nid' r' w',(match Zh st.hp hp' with
     | true=>JT E H ops l ⟨setO tm o.dst v,hp',nid'⟩ K
     | false => .fail "deferred" : QC).den T -> st.nid <= nid' -> (∀ id, id < st.nid -> r' id = r id) -> KM G nid' r' hp' w' -> v.all (· < nid') = true -> wpListIn (FW G.rd) 0 E.P ops Q l (a.put o.dst (v.den r')) w' := by
    intro v hp' nid' r' w' hK hle hrr hH hv;split at hK<;>(try (exact hK.elim))
    rename_i hkd;refine je hE hC hY l ⟨setO tm o.dst v,hp',nid'⟩ K _ w' (Nat.le_trans hn hle) hK ⟨⟨r',?_⟩,?_⟩ hQ
    .refine⟨by rw[Act.put_size,hI.size,QBv],hI.defers.to (Act.put_defers _ _ _) (λid _ hid=>⟨QII hkd hid,hrr id (hS.out id _ hid)⟩),λt=>?_,hH.rep,λid b hb=>XQ hb,hH.sep,hH.ext,hH.fr,hH.own⟩
     rw[Act.getD_put,hI.size,Zl];split
     .rfl
     .rw[hI.tm t];exact XT (p:=(·<st.nid)) (λid hid=>(hrr id (by simpa using hid)).symm) _ (hS.tm t)
    .refine⟨λt=>?_,hH.out,hH.blk⟩;simp only[Zl];split
     .exact hv
     .exact all_mono (VO hle) _ (hS.tm t)
   split at h
   .rename_i hg;have hw:=QBu (a:=a) (r:=r) hg (λt _=>hI.tm t);unfold wpListIn;rw[if_pos hw];split at h
    .rename_i g args hc;have hall:AV.allL (·<st.nid) args=true:=QZ5 hc (λx=>W8 hS.tm);obtain⟨hgo,hcalls⟩:=hC g args st.hp st.nid _ T r w hn (Rep.hinv (st:={ st with tm:=tm }) hI hS) hall h
     refine vK ?_ (QXu hc);refine QBc (Qbl hc hE.m hgo hev w) (hcalls.mono ?_);rintro e w' ⟨v,hp',nid',r',hK,rfl,hle,hrr,hH,hv⟩;exact⟨_,rfl,behind v hp' nid' r' w' hK hle hrr hH hv⟩
    .rename_i hcn;split at h
     .rename_i id args hc
      have hall:AV.allL (·<st.nid) args=true:=by
       unfold QAl at hc;split at hc<;>(try (cases hc;done))
       split at hc<;>(try (cases hc;done))
       simp only[qsI,qpI]at hc;obtain⟨rfl,rfl⟩:=hc;exact Zp (λx _=>W8 hS.tm)
      obtain⟨rec,hb,hsz,hro⟩:=hY id args st.hp st.nid _ T r w hn (Rep.hinv (st:={ st with tm:=tm }) hI hS) hall h
      refine(QkI (E:=E) (p:=λ_=>true) hc hev (λ_=>HJ _) hb hsz hro ?_).1;rintro u w' ⟨v,hp',nid',r',hK,rfl,hle,hrr,hH,hv⟩;exact behind v hp' nid' r' w' hK hle hrr hH hv
     split at h
     .obtain⟨x,id,m,ty,since,seen,last,es,cl,ho,hx,hl1,hl2,hden⟩:=QZh h;obtain⟨⟨hP1,hP2⟩,hd1,hd2⟩:=hden;have hxe:a.eval x=(AV.ptr id m 0).den r:=by rw[hev x (by rw[ho];simp[Op.operands]),hx]
      obtain⟨o1,o2,hi⟩:=hI.rep id _ hl1;have hm:bk w (r m).blk=some (.map es.toArray cl):=hI.rep m _ hl2;have hi:bk w (r id).blk=some (.mapIter (some (r m).blk) since seen.toArray last):=hi
      have hid:inR st.nid id=false:=by
       have:=hS.out id _ hl1;simp only[inR,Bool.and_eq_false_iff,decide_eq_false_iff_not];omega
      have hscm:m<st.nid:=by
       have:=hS.blk id _ hl1;simp only[Blk.all,AV.allL,AV.all,qbA,qdE]at this;exact this.1
      have hnd:∀ c,o.op ≠ .defer c:=λc hc=>by rw[ho]at hc;cases hc
      have fin:∀(v:AV) (u:List (Nat×Blk)) (w':World),Qv (look st.hp) r st.nid u w r w'->QEu (st.nid+8) ⟨v,u,[]⟩->(∀ p∈u,p.1=id)->(JT E H ops l { Q3 o ⟨v,u,[]⟩ { st with tm:=tm }with nid:=st.nid+8 } K).den T->wpListIn (FW G.rd) 0 E.P ops Q l (a.put o.dst (v.den r)) w':=by
       intro v u w' hpost hrec hu hK;have hsc:K9 (st.nid+8) (Q3 o ⟨v,u,[]⟩ { st with tm:=tm }):=hS.apply (by omega) hrec (λp hp=>by rw[hu p hp];have:=hS.out id _ hl1;omega)
       refine je hE hC hY l _ K _ w' (by show G.n<=st.nid+8;omega) hK ⟨⟨r,?_⟩,jD hsc rfl rfl⟩ hQ
       show Inv G (Q3 o ⟨v,u,[]⟩ { st with tm:=tm }).tm.length r (QJ (Q3 o ⟨v,u,[]⟩ { st with tm:=tm }).tm) (look (Q3 o ⟨v,u,[]⟩ { st with tm:=tm }).hp) _ w'
       rw[QB3,QBr,XI];refine hI.step hf hn hpost λp hp _=>?_;rw[hu p hp];exact⟨_,hl1,rfl⟩
      have hrun:∀{v:Value} {w':World},(Instr.next (.pointer (some ⟨(r id).blk,0,none⟩)) false o.type).run E.P w = .ok v w'->(execOp a.eval o).run E.P w = .ok (.value v) w':=by
       intro v w' hh;unfold execOp;simp only[ho];rw[hxe];simp only[AV.den,o1,o2,Nat.mul_zero,Nat.add_zero];rw[Sem.run_bind,hh];rfl
      refine vK ?_ hnd;rcases QWk hi hm hP1 hP2 o.type with ⟨hall,hh⟩|⟨j,hj,hns,w1,hw1,hh⟩
      .exact Jo (w':=w) (v := .tuple #[.bool false]) (hrun hh) (fin (.tup [.bool true false]) [] w (Qv.id _ r _ w) ⟨rfl,by simp⟩ (by simp) (hd1 hall))
      .have hnx:nxI (λ_=>.int .i64 (j:Int))=j:=by simp[nxI,intV]
       have hd2:=hd2 (λ_=>.int .i64 (j:Int));rw[hnx]at hd2;have hd2:=hd2 ⟨hj,hns⟩
       have hi1:bk w1 (r id).blk=some (.mapIter (some (r m).blk) since seen.toArray last):=by
        rcases hw1 with rfl|rfl
        .exact hi
        .exact hi
       have hfr:Fr w (w1.putObj (r id).blk (.mapIter (some (r m).blk) since (seen++[(es.getD j noE).born]).toArray cl)) (λk=>k=(r id).blk):=by
        have h0:=QP2 w1 (r id).blk (.mapIter (some (r m).blk) since (seen++[(es.getD j noE).born]).toArray cl);rcases hw1 with rfl|rfl
        .exact h0
        .exact⟨h0.os,h0.tape,h0.output,h0.size,Nat.le_trans (Nat.le_succ _) h0.drawn,h0.block⟩
       have hpost:Qv (look st.hp) r st.nid [(id,.itm [.map m] ty since (seen++[(es.getD j noE).born]) cl)] w r (w1.putObj (r id).blk (.mapIter (some (r m).blk) since (seen++[(es.getD j noE).born]).toArray cl)):=
        Qv.same1 hid hl1 rfl (λ_ h=>h) ⟨o1,o2,QSZ hi1⟩ hfr
       exact Jo (v := .tuple #[.bool true,(es.getD j noE).key,(es.getD j noE).val]) (hrun hh) (fin (.tup [.bool true true,.raw (es.getD j noE).key,.raw (es.getD j noE).val]) _ _ hpost ⟨rfl,by
        intro p hp;simp only[List.mem_singleton]at hp;subst hp;simp only[Blk.all,AV.allL,AV.all,Bool.and_true,qdE];omega⟩ (by simp) hd2)
     split at h
     .rename_i len n hnl;obtain⟨t,x,y,c,el,id,e,cp,b,ho,hu,hex,hey,hlk,hnb⟩:=Qeg hnl;obtain⟨hln,hyes,hno⟩:=h;have hln:len<=n:=qdt hln;have hrep:=hI.rep id b hlk
      have hz:((r id).base e).isNone=true->len=0:=by
       intro hb
       have hh:(r id).nil=true:=by
        cases hh:(r id).nil with
        | true=>rfl
        | false=>simp only[Loc.base,hh]at hb;cases hb
       have:n=0:=by
        cases b<;>simp only[QCj]at hnb<;>(try (cases hnb;done))<;>simp only[qsI]at hnb<;>subst hnb
        .exact Kl.zero hrep hh
        .exact hrep.2.2.1 hh
       omega
      have hnd:∀ c,o.op ≠ .defer c:=λc hc=>by rw[ho]at hc;cases hc
      have fin:∀ b:Bool,(JT E H ops l { Q3 o ⟨.bool true b,[],[]⟩ { st with tm:=tm }with nid:=st.nid+8 } K).den T->wpListIn (FW G.rd) 0 E.P ops Q l (a.put o.dst ((AV.bool true b).den r)) w:=by
       intro b hK;have hsc:K9 (st.nid+8) (Q3 o ⟨.bool true b,[],[]⟩ { st with tm:=tm }):=hS.apply (by omega) ⟨rfl,by simp⟩ (λp hp=>by cases hp)
       refine je hE hC hY l _ K _ w (by show G.n<=st.nid+8;omega) hK ⟨⟨r,?_⟩,jD hsc rfl rfl⟩ hQ
       show Inv G (Q3 o ⟨.bool true b,[],[]⟩ { st with tm:=tm }).tm.length r (QJ (Q3 o ⟨.bool true b,[],[]⟩ { st with tm:=tm }).tm) (look (Q3 o ⟨.bool true b,[],[]⟩ { st with tm:=tm }).hp) _ w
       rw[QB3,QBr,XI];exact hI.step hf hn (Qv.id _ r _ w) λp hp _=>by cases hp
      have hx:a.eval x=(AV.slz id e len cp).den r:=by rw[hev x (by rw[ho];simp[Op.operands]),hex]
      have hy:a.eval y=AV.nils.den r:=by rw[hev y (by rw[ho];simp[Op.operands]),hey]
      have hrun:(execOp a.eval o).run E.P w = .ok (.value (.bool ((r id).base e).isNone)) w:=by
       have hh:=Lib.run_eql_slice_nil w t el ((r id).base e) len ((r id).room (cp.den (r id).cap)) 0 0 hu;have hg:(eqGuard .eql t x y (.slice ((r id).base e) len ((r id).room (cp.den (r id).cap))) (.slice none 0 0)).run E.P w = .ok () w:=by simp[eqGuard]
       unfold execOp;simp only[ho];rw[hx,hy];simp only[AV.den];rw[Sem.run_bind,Sem.run_bind,hg,Result.andThen_ok,hh];rfl
      refine vK ?_ hnd;cases hb:((r id).base e).isNone with
      | true=>
       rw[hb]at hrun;exact Jo hrun (fin true (hyes (hz hb)))
      | false=>
       rw[hb]at hrun;exact Jo hrun (fin false hno)
     obtain⟨rec,hran,hK⟩:=QUA h;obtain⟨_,g,blks,eff,hV,hb,hgb,hp,_,h1,h2⟩:=hran.ran;refine vK ?_ hran.noDefer;refine QDg hE.c hE.m (r:=r) (hI.hok hf) hV (HU hb) hgb hp hev (λx _=>W8 hf.tm) ?_;intro r' w' hpost;refine je hE hC hY l _ K _ w' (by show G.n<=st.nid+8;omega) hK ⟨⟨r',?_⟩,jD (hran.scopedAt hS) rfl rfl⟩ hQ
     show Inv G (Q3 o rec { st with tm:=tm }).tm.length r' (QJ (Q3 o rec { st with tm:=tm }).tm) (look (Q3 o rec { st with tm:=tm }).hp) _ w'
     rw[QB3,QBr,XI,h1,h2];refine hI.step hf hn hpost ?_;intro p hp hin;rcases hran.ok.2 p (by rw[h2];exact hp)with h3|⟨_,b,hb,ho⟩
     .rw[hin]at h3;cases h3
     .exact⟨b,hb,ho⟩
   .rename_i hg;have hw:=QBu (a:=a) (r:=r) hg (λt _=>hI.tm t);unfold wpListIn;rw[if_neg (by rw[hw];decide)]
    refine⟨λ_ _=>trivial,?_⟩;refine je hE hC hY l (Q3 o ⟨.tup [],[],[]⟩ { st with tm:=tm }) K _ w hn h ⟨⟨r,?_⟩,hS.skip (qlr _)⟩ hQ
    rw[QB3,QBr,XI];exact hI.step (v := .tup []) hf hn (Qv.id _ r _ w) (by simp)
   .exact h.elim
  have spec:∀(g:Bool) (v:AV) (ids:List Nat),qI E ops o st.nid st g v ids->(JT E H ops l { Q3 o ⟨v,[],ids⟩ st with nid:=st.nid+8 } K).den T->wpListIn (FW G.rd) 0 E.P ops Q (o::l) a w:=by
   intro g v ids hsp h;obtain⟨⟨r,hI⟩,hS⟩:=hr;have hf:=hS.free (qlr _);have hev:∀ x∈o.op.operands,a.eval x=(evA st.tm x).den r:=λx _=>zw λt _=>hI.tm t;have hw:=hsp.gd a r (λt _=>hI.tm t);have hsc:K9 (st.nid+8) (Q3 o ⟨v,[],ids⟩ st):=hS.apply (by omega) ⟨hsp.sc,by simp⟩ (by simp)
   have behind:∀ r' w',Qv (look st.hp) r st.nid [] w r' w'->wpListIn (FW G.rd) 0 E.P ops Q l (a.put o.dst (v.den r')) w':=by
    intro r' w' hpost;refine je hE hC hY l _ K _ w' (by show G.n<=st.nid+8;omega) h ⟨⟨r',?_⟩,jD hsc rfl rfl⟩ hQ
    show Inv G (Q3 o ⟨v,[],ids⟩ st).tm.length r' (QJ (Q3 o ⟨v,[],ids⟩ st).tm) (look (Q3 o ⟨v,[],ids⟩ st).hp) _ w';rw[QB3,QBr,XI];exact hI.step hf hn hpost (by simp)
   unfold wpListIn;cases g with
   | false=>
    rw[if_neg (by rw[hw];decide)]
    refine⟨λ_ _=>trivial,?_⟩;have:=behind r w (Qv.id _ r _ w);rw[hsp.off rfl r]at this;exact this
   | true=>
    rw[if_pos hw];obtain⟨tm',v',_,hden,hall,hran,hv⟩:=hsp.run rfl;refine vK ?_ hran.noDefer;obtain⟨_,gg,blks,eff,hV,hb,hgb,hp,_,e1,e2⟩:=hran.ran;refine QDg hE.c hE.m (r:=r) (hI.hok hf) hV (HU hb) hgb hp (λx hx=>(hev x hx).trans (hden x hx r).symm) (λx _=>W8 λt=>hall t _ (hf.tm t)) ?_;intro r' w' hpost;rw[<-e2]at hpost;have:=behind r' w' hpost;have ev:v.den r'=eff.val.den r':=by rw[<-hv r',<-e1]
    rw[ev]at this;exact this
  simp only[JT]at h;split at h
  .rename_i p hs;obtain⟨hb,h⟩:=QGd h;exact spec _ _ _ (QUy (n:=st.nid) hs hb) (h _ rfl)
  split at h
  .rename_i m rec hs;obtain⟨hb,h⟩:=QGd h;obtain⟨g,he,hsp⟩:=QTh hs hb;rw[he]at h;exact spec _ _ _ hsp h
  split at h
  .split at h
   .exact go st.tm (Eqv.refl _) h
   .rename_i d k' i len ha;obtain⟨m,e,h⟩:=QLq h;exact go _ (QPr (QOH ha) m e) h
  .rename_i d b ha;have hs:=QVP ha;cases hb:b with
   | true=>exact go _ (QCi hs true hb) (h.1 hb)
   | false=>exact go _ (QCi hs false hb) (h.2 hb)
theorem QTg{rec:Rec}(h:QCe E o st.nid st=some rec)(hb:E.bi o.op=false)(K:Rec->QC):qT E o st.nid st K=K rec/\rec.upd=[]:=by
 unfold QCe at h;unfold qT;split at h;rename_i ids g hV;split at h<;>(try (cases h;done))
 rename_i blks hbl;split at h<;>(try (cases h;done))
 rename_i eff he;split at h<;>(try (cases h;done))
 rename_i h1 h2 h3 h4;simp only[qsI]at h;subst h;simp only[hV,hbl,he,h2,if_true,h3,h4,QDx,hb,QDL,h1,and_self,HP QDA]
theorem QSt{E:Env}{H:Hnd}{ops:Array Oper}:∀(l:List Oper) (st st':St) (K:St->QC),jh E ops l st=some st'->JT E H ops l st K=K st'/\st'.hp=st.hp/\st'.tm.length=st.tm.length/\st.nid<=st'.nid/\∀ t,t ∉ l.filterMap (·.dst)->QJ st'.tm t=QJ st.tm t
 | [],st,st',K,h=>by
  simp only[jh,qsI]at h;subst h;exact⟨rfl,rfl,rfl,qlr _,λ_ _=>rfl⟩
 | o::l,st,st',K,h=>by
  simp only[jh]at h;split at h<;>(try (cases h;done))
  rename_i hg hp ha hc hy hb;rw[Bool.or_eq_false_iff,Bool.or_eq_false_iff]at hb;obtain⟨⟨hb,hfk⟩,hnx⟩:=hb;split at h<;>(try (cases h;done))
  rename_i rec hr;have hai:QAB E ops st.tm o=none:=by unfold QAB;rw[hfk]
  have hnl:Hv E o.op (evA st.tm) st.hp=none:=by unfold Hv;rw[hfk];rfl
  obtain⟨i1,i2,i3,i4,i5⟩:=QSt (H:=H) l _ st' K h
  have hup := (QTg hr hb λ_=>.fail "").2
  refine⟨?_,?_,by rw[i3];exact XI _ _ _,Nat.le_trans (Nat.le_add_right _ _) i4,λt ht=>?_⟩
  .have hgv:XS ops st.tm o=some true:=by unfold XS;rw[hg]
   have hgb:zQ ops st.tm o=none:=by unfold zQ;rw[hg]
   have hs:QAH E ops o st.nid st=none:=by unfold QAH;rw[hgb];cases E.sp<;>rfl
   simp only[JT,hp,hs,ha,hgv,hc,hy,hai,hnx,hnl];rw[(QTg hr hb _).1];exact i1
  .rw[i2];show(Q3 o rec st).hp=_;unfold Q3;rw[hup];rfl
  .have h1:o.dst≠some t:=λe=>ht (by rw[List.filterMap_cons,e];exact qmc)
   have h2:t ∉ l.filterMap (·.dst):=λe=>ht (by
    rw[List.filterMap_cons];split
    .exact e
    .exact List.mem_cons_of_mem _ e)
   rw[i5 t h2];show QJ (Q3 o rec st).tm t=_;unfold Q3;rw[Zl,if_neg (λe=>h1 e.1)]
theorem QDH{H:Hnd}{st':St}{ds:List Nat}(h:qr E st c=some (ds,st'))(K:Ex->St->QC):exec E H c st K=K .normal st'/\st'.hp=st.hp/\st'.tm.length=st.tm.length/\st.nid<=st'.nid/\∀ t,t ∉ ds->QJ st'.tm t=QJ st.tm t:=by
 unfold qr at h;split at h
 .simp only[qsI,qpI]at h;obtain⟨rfl,rfl⟩:=h;exact⟨rfl,rfl,rfl,qlr _,λ_ _=>rfl⟩
 .split at h<;>(try (cases h;done))
  rename_i hs;simp only[qsI,qpI]at h;obtain⟨rfl,rfl⟩:=h;obtain⟨i1,i2⟩:=QSt (H:=H) _ st _ (λst'=>K .normal st') hs;exact⟨by simp only[exec];exact i1,i2⟩
 .cases h
theorem QUr{v w u:AV}(h:GK b v w=some u):(∀ r,u.den r=(match b with|true=>v|false=>w).den r)/\∀ p,v.all p=true->w.all p=true->u.all p=true:=by
 unfold GK at h;split at h
 .split at h<;>(try (cases h;done))
  rename_i hk;simp only[qsI]at h;subst h;have hk:=eq_of_beq hk;subst hk;exact⟨λr=>by cases b<;>rfl,λ_ _ _=>rfl⟩
 .simp only[qsI]at h;subst h;exact⟨λr=>by cases b<;>rfl,λ_ _ _=>rfl⟩
 .simp only[qsI]at h;subst h;exact⟨λr=>by cases b<;>rfl,λ_ hv _=>hv⟩
 .simp only[qsI]at h;subst h;exact⟨λr=>by cases b<;>rfl,λ_ _ hw=>hw⟩
 .cases h
theorem QUb{b:Bool}{g:Nat->Value}{tx ty:List AV}:∀(l:List Nat) (tm:List AV),(Zo b g tx ty l tm).length=tm.length/\∀ t,QJ (Zo b g tx ty l tm) t=QJ tm t/\t ∉ l ∨
  (t<tm.length/\(GK b (QJ tx t) (QJ ty t)=some (QJ (Zo b g tx ty l tm) t)∨QJ (Zo b g tx ty l tm) t = .raw (g t)))∨(QJ (Zo b g tx ty l tm) t=QJ tm t/\tm.length<=t)
 | [],tm=>⟨rfl,λt=>.inl ⟨rfl,by simp⟩⟩
 | d::l,tm=>by
  obtain⟨h1,h2⟩:=QUb (b:=b) (g:=g) (tx:=tx) (ty:=ty) l (tm.set d (match GK b (QJ tx d) (QJ ty d)with|some v=>v|none => .raw (g d)))
  simp only[Zo];rw[List.length_set]at h1 h2;refine⟨h1,λt=>?_⟩;rcases h2 t with ⟨e,hn⟩|h3|⟨e,hn⟩
  .rw[QAx]at e
   by_cases hd:d=t/\d<tm.length
   .rw[if_pos hd]at e;obtain⟨rfl,hlt⟩:=hd;refine .inr (.inl ⟨hlt,?_⟩);cases hv:GK b (QJ tx d) (QJ ty d)with
    | some v=>rw[hv]at e;exact .inl (by rw[e])
    | none=>rw[hv]at e;exact .inr e
   .rw[if_neg hd]at e
    by_cases hdt:d=t
    .exact .inr (.inr ⟨e,by subst hdt;simp only[true_and]at hd;omega⟩)
    .exact .inl ⟨e,by simp only[List.mem_cons,not_or];exact⟨λh=>hdt h.symm,hn⟩⟩
  .exact .inr (.inl h3)
  .rw[QAx,if_neg (by omega)]at e
   exact .inr (.inr ⟨e,hn⟩)
theorem QZB{rec:Rec}(h:QCe E o n st=some rec):rec.val.all (·<n+8)=true/\rec.upd=[]:=by
 unfold QCe at h;split at h;split at h<;>(try (cases h;done))
 split at h<;>(try (cases h;done))
 split at h<;>(try (cases h;done))
 rename_i h1 h2 h3 h4;simp only[qsI]at h;subst h;unfold Wu at h2;simp only[qbA]at h2;exact⟨h2.1,rfl⟩
theorem QVG{E:Env}{ops:Array Oper}:∀(l:List Oper) (st st':St),K9 st.nid st->jh E ops l st=some st'->K9 st'.nid st'
 | [],st,st',hS,h=>by
  simp only[jh,qsI]at h;subst h;exact hS
 | o::l,st,st',hS,h=>by
  simp only[jh]at h;split at h<;>(try (cases h;done))
  split at h<;>(try (cases h;done))
  rename_i rec hr;obtain⟨h1,h2⟩:=QZB hr;refine QVG l _ st' ?_ h;exact jD (hS.apply (nid:=st.nid) (o:=o) (rec:=rec) (by omega) ⟨h1,by rw[h2];simp⟩ (by rw[h2];simp)) rfl rfl
theorem QMO{st':St}{ds:List Nat}(hS:K9 st.nid st)(h:qr E st c=some (ds,st')):K9 st'.nid st':=by
 unfold qr at h;split at h
 .simp only[qsI,qpI]at h;obtain⟨_,rfl⟩:=h;exact hS
 .split at h<;>(try (cases h;done))
  rename_i hs;simp only[qsI,qpI]at h;obtain⟨_,rfl⟩:=h;exact QVG _ _ _ hS hs
 .cases h
theorem QKA{l:List AV}{t:Nat}(hl:l.length<=t):QJ l t = .tup []:=by
 unfold QJ;rw[List.getElem?_eq_none hl];rfl
theorem QZq{x y:Code}{f:(Nat->Value)->St}(h:QIf E b x y st=some f)(hS:K9 st.nid st):(∀ g,st.nid<=(f g).nid)/\∃ sx sy,(∃ dx,qr E st x=some (dx,sx))/\(∃ dy,qr E st y=some (dy,sy)) /\
  ∀(G:Ctx) (a:Act) (w:World),Rep G (match b with|true=>sx|false=>sy).nid (match b with|true=>sx|false=>sy) a w->∃ g,Rep G (f g).nid (f g) a w:=by
 unfold QIf at h;split at h<;>(try (cases h;done))
 split at h<;>(try (cases h;done))
 rename_i dx sx dy sy hx hy;simp only[qsI]at h;subst h
 have nope : Hnd := ⟨λ_ _ _=>.fail "", λ_ _ _ _ _=>.fail "", λ_ _ _ _ _=>.fail ""⟩
 obtain ⟨_, x2, x3, x4, x5⟩ := QDH (H := nope) hx (λ_ _=>.fail "")
 obtain ⟨_, y2, y3, y4, y5⟩ := QDH (H := nope) hy (λ_ _=>.fail "")
 have hSx:=QMO hS hx;have hSy:=QMO hS hy;refine⟨λg=>by show st.nid<=sx.nid+sy.nid;omega,sx,sy,⟨dx,hx⟩,⟨dy,hy⟩,λG a w=>?_⟩
 have key:∀(s:St),s=(match b with|true=>sx|false=>sy)->s.hp=st.hp->s.tm.length=st.tm.length->s.nid<=sx.nid+sy.nid->(∀ t,t ∉ dx++dy->QJ s.tm t=QJ st.tm t)->Rep G s.nid s a w ->
   ∃ g,Rep G (sx.nid+sy.nid) ⟨Zo b g sx.tm sy.tm (dx++dy) st.tm,st.hp,sx.nid+sy.nid⟩ a w:=by
  intro s e0 e1 e2 e3 e4 ⟨⟨r,hI⟩,hSs⟩;refine⟨λt=>a.tmps.getD t undef,?_⟩;obtain⟨m1,m2⟩:=QUb (b:=b) (g:=λt=>a.tmps.getD t undef) (tx:=sx.tm) (ty:=sy.tm) (dx++dy) st.tm;generalize Zo b (λt=>a.tmps.getD t undef) sx.tm sy.tm (dx++dy) st.tm=tm at *
  have hden:∀ t,(QJ tm t).den r=(QJ s.tm t).den r:=by
   intro t;rcases m2 t with ⟨e,hn⟩|⟨_,e|e⟩|⟨e,hn⟩
   .rw[e,e4 t hn]
   .rw[(QUr e).1 r,e0];cases b<;>rfl
   .rw[e];exact hI.tm t
   .rw[e,QKA hn,QKA (by rw[e2];exact hn)]
  refine⟨⟨r,?_⟩,?_⟩
  .refine⟨by rw[hI.size,e2];exact m1.symm,by rw[<-e1];exact hI.defers,λt=>by rw[hI.tm t];exact(hden t).symm,by rw[<-e1];exact hI.rep,by rw[<-e1];exact hI.live,by rw[<-e1];exact hI.sep,hI.ext,hI.fr,by rw[<-e1];exact hI.own⟩
  .refine⟨λt=>?_,λid c hc=>?_,λid c hc=>?_⟩
   .show(QJ tm t).all _=true;rcases m2 t with ⟨e,hn⟩|⟨_,e|e⟩|⟨e,hn⟩
    .rw[e];exact all_mono (VO (by omega)) _ (hS.tm t)
    .exact(QUr e).2 _ (all_mono (VO (Nat.le_add_right _ _)) _ (hSx.tm t)) (all_mono (VO (Nat.le_add_left _ _)) _ (hSy.tm t))
    .rw[e];rfl
    .rw[e,QKA hn];rfl
   .have:=hS.out id c hc;omega
   .exact Blk.all_mono (VO (by omega)) _ (hS.blk id c hc)
 cases b with
 | true=>exact key sx rfl x2 x3 (by omega) (λt ht=>x5 t (λh=>ht (List.mem_append.2 (.inl h))))
 | false=>exact key sy rfl y2 y3 (by omega) (λt ht=>y5 t (λh=>ht (List.mem_append.2 (.inr h))))
theorem jE(hE:E.Sound){H:Hnd}(hC:ZA E G H.call)(hY:QE0 E G H.yield):∀(c:Code),(∀ s∈JA c,J5 E G s (H.loop s))->J5 E G c (exec E H c):=by
 intro c
 induction c with
 | skip=>intro _ st K T Q a w hn h hr hQ;exact wpIn_skip (hQ .normal st a w hn h hr)
 | label l=>intro _ st K T Q a w hn h hr hQ;exact wpIn_label (hQ .normal st a w hn h hr)
 | exit id=>intro _ st K T Q a w hn h hr hQ;exact wpIn_exit (hQ (.exit id) st a w hn h hr)
 | ret=>intro _ st K T Q a w hn h hr hQ;exact wpIn_ret (hQ .ret st a w hn h hr)
 | loop body _=>intro hl;exact hl _ (by simp[JA])
 | rangeFunc g ps as body _ _=>intro hl;exact hl _ (by simp[JA])
 | region id ops draw=>
  intro _ st K T Q a w hn h hr hQ;cases draw with
  | true=>
   simp only[exec]at h;obtain⟨rs,st',hruns,hK⟩:=QCQ _ _ _ _ h;split at hK
   .rename_i hok;simp only[qbA]at hok;refine QY5 hE (List.take_append_drop (X3 0 (JX [] ops.toList)) ops.toList).symm hn hruns hok.1 hok.2 ?_ hr ?_
    .intro i x hi hx;have hms:(JX [] ops.toList).length=ops.toList.length:=(QA2 (λ_=>True) ops.toList (λ_ _ _ _ _ _ _=>trivial) ops.toList [] [] rfl rfl (by simp)).1
     have hle:=QMs (JX [] ops.toList) 0;rw[List.length_take]at hi;have:=QKU (JX [] ops.toList) 0 i x (by omega) hx
     simpa using this
    .intro a' w' hr';refine je hE hC hY _ _ _ a' w' (by show G.n<=st.nid+_;omega) hK ?_ λst' a' w' hn' hK hr'=>hQ .normal st' a' w' hn' hK hr'
     exact hr'.nid
   .exact hK.elim
  | false=>
   simp only[exec]at h;exact wpIn_region_list (je hE hC hY _ st _ a w hn h hr λst' a' w' hn' hK hr'=>hQ .normal st' a' w' hn' hK hr')
 | seq x y ihx ihy=>
  intro hl st K T Q a w hn h hr hQ;refine wpIn_seq ?_;simp only[exec]at h;refine ihx (λb hb=>hl b (by simp[JA,hb])) st _ T _ a w hn h hr ?_
  intro e st' a' w' hn' h' hr';cases e with
  | normal=>exact ihy (λb hb=>hl b (by simp[JA,hb])) st' K T Q a' w' hn' h' hr' hQ
  | exit id=>exact hQ (.exit id) st' a' w' hn' h' hr'
  | ret=>exact hQ .ret st' a' w' hn' h' hr'
 | cond c x y ihx ihy=>
  intro hl st K T Q a w hn h hr hQ;simp only[exec]at h
  have hc:∀ k b,evA st.tm c = .bool k b->a.eval c = .bool b:=λk b he=>by
   obtain⟨r,hI⟩:=hr.1;rw[zw (tm:=st.tm) (r:=r) (λt _=>hI.tm t),he];rfl
  split at h
  .rename_i b he;refine wpIn_cond (hc _ _ he) ?_;cases b with
   | true=>exact ihx (λb hb=>hl b (by simp[JA,hb])) st K T Q a w hn h hr hQ
   | false=>exact ihy (λb hb=>hl b (by simp[JA,hb])) st K T Q a w hn h hr hQ
  .rename_i b he;split at h
   .rename_i f hj;obtain⟨hle,sx,sy,⟨dx,hx⟩,⟨dy,hy⟩,hrep⟩:=QZq hj hr.2;refine wpIn_cond (hc _ _ he) ?_
    have tag : ∀ (s0 : St) e s, (QC.asm (¬ (e = Ex.normal /\ s = s0)) (.fail "")).den T -> e = Ex.normal /\ s = s0 := λs0 e s hd=>Classical.byContradiction λhn=>hd hn
    cases b with
    | true=>
     refine ihx (λb hb=>hl b (by simp [JA, hb])) st (λe s=>.asm (¬ (e = Ex.normal /\ s = sx)) (.fail "")) T Q a w hn (by rw [(QDH hx _).1]; exact λhne=>hne ⟨rfl, rfl⟩) hr ?_
     intro e s a' w' hn' hd hr';obtain⟨rfl,rfl⟩:=tag _ _ _ hd;obtain⟨g,hg⟩:=hrep G a' w' hr';exact hQ .normal (f g) a' w' (Nat.le_trans hn (hle g)) (h g) hg
    | false=>
     refine ihy (λb hb=>hl b (by simp [JA, hb])) st (λe s=>.asm (¬ (e = Ex.normal /\ s = sy)) (.fail "")) T Q a w hn (by rw [(QDH hy _).1]; exact λhne=>hne ⟨rfl, rfl⟩) hr ?_
     intro e s a' w' hn' hd hr';obtain⟨rfl,rfl⟩:=tag _ _ _ hd;obtain⟨g,hg⟩:=hrep G a' w' hr';exact hQ .normal (f g) a' w' (Nat.le_trans hn (hle g)) (h g) hg
   refine wpIn_cond (hc _ _ he) ?_;cases b with
   | true=>exact ihx (λb hb=>hl b (by simp[JA,hb])) _ K T Q a w (by rw[QDT];exact hn) (h.1 rfl) (by rw[QDT];exact hr.fix he) hQ
   | false=>exact ihy (λb hb=>hl b (by simp[JA,hb])) _ K T Q a w (by rw[QDT];exact hn) (h.2 rfl) (by rw[QDT];exact hr.fix he) hQ
  .exact h.elim
 | scope body ih=>
  intro hl st K T Q a w hn h hr hQ;refine Qgi (ih (λb hb=>hl b (by simp[JA,hb])) st K T _ a w hn h hr ?_)
  intro e st' a' w' hn' h' hr';have:=hQ e st' a' w' hn' h' hr';cases e<;>exact this
 | block id body ih=>
  intro hl st K T Q a w hn h hr hQ;refine wpIn_block ?_;simp only[exec]at h;refine ih (λb hb=>hl b (by simp[JA,hb])) st _ T _ a w hn h hr ?_
  intro e st' a' w' hn' h' hr';cases e with
  | normal=>exact hQ .normal st' a' w' hn' h' hr'
  | exit j=>
   show Exit.inBlock id Q (.exit j) a' w';simp only[Exit.inBlock]
   by_cases hj:j=id
   .subst hj;simp only[beq_self_eq_true]at h';rw[if_pos rfl];exact hQ .normal st' a' w' hn' h' hr'
   .have:(j==id)=false:=by simpa using hj
    simp only[this]at h';rw[if_neg hj];exact hQ (.exit j) st' a' w' hn' h' hr'
  | ret=>exact hQ .ret st' a' w' hn' h' hr'
 | _=>intro _ st K T Q a w hn h hr hQ;exact h.elim
def Wb(P:Program)(st:St):List ResultVar->Option (List AV)
 | []=>some []
 | .tmp t::l=>match Wb P st l with
  | some vs=>some (QJ st.tm t::vs)
  | none=>none
 | .cell p t::l=>match QJ st.tm p with
  | .ptr id e j=>match look st.hp id with
   | some b=>match Xa P t e j b with
    | some ⟨true,true,v,_⟩=>match Wb P st l with
     | some vs=>some (v::vs)
     | none=>none
    | _=>none
   | none=>none
  | _=>none
def QAC:List AV->AV
 | [v]=>v
 | vs => .tup vs
def QDq(tmps:Array Value):ResultVar->Sem Value
 | .tmp t=>pure (tmps.getD t undef)
 | .cell p t=>do loadVar t (<-asAddr (tmps.getD p undef))
theorem Qdc(fn:Func)(tmps:Array Value):results fn tmps=(do let vs <-fn.results.mapM (QDq tmps);pure (if h:vs.size=1 then vs[0]else .tuple vs)):=by
 unfold results;congr 1
theorem QJN{P:Program}{st:St}{a:Act}{w:World}{G:Ctx}{r:Nat->Loc}(hI:Inv G st.tm.length r (QJ st.tm) (look st.hp) a w):∀(l:List ResultVar) (vs:List AV),Wb P st l=some vs ->
  (l.mapM (QDq a.tmps)).run P w = .ok (AV.denL r vs) w
 | [],vs,h=>by simp only[Wb,qsI]at h;subst h;rfl
 | .tmp t::l,vs,h=>by
  simp only[Wb]at h;split at h<;>(try (cases h;done))
  rename_i vs' hv;simp only[qsI]at h;subst h;have:=QJN hI l vs' hv;rw[List.mapM_cons];simp only[QDq,Sem.run_bind,Sem.run_pure,Result.andThen_ok,this,hI.tm t,AV.denL]
 | .cell p t::l,vs,h=>by
  simp only[Wb]at h;split at h<;>(try (cases h;done))
  rename_i id e j hp;split at h<;>(try (cases h;done))
  rename_i b hb;split at h<;>(try (cases h;done))
  rename_i v u hl;split at h<;>(try (cases h;done))
  rename_i vs' hv;simp only[qsI]at h;subst h;have:=QJN hI l vs' hv;have hload:=(QUa (P:=P) (r:=r) (w:=w) (id:=id) (e:=e) (j:=j) (hI.rep id b hb) hl rfl).1;simp only[AV.den,Instr.loadAt,Instr.sureAddr,Sem.run_bind,Sem.run_pure,Result.andThen_ok]at hload;rw[List.mapM_cons];rw[Sem.run_bind];simp only[QDq,Sem.run_bind,hI.tm p,hp,AV.den,asAddr,Sem.run_pure,Result.andThen_ok,hload,AV.denL];rw[this];rfl
theorem QdZ{P:Program}{fn:Func}{vs:List AV}(hI:Inv G st.tm.length r (QJ st.tm) (look st.hp) a w)(h:Wb P st fn.results.toList=some vs):
  (results fn a.tmps).run P w = .ok ((QAC vs).den r) w:=by
 have:=QJN hI _ vs h;rw[Qdc,Sem.run_bind,Array.mapM_eq_mapM_toList,Sem.run_map,this];simp only[Result.andThen_ok,Sem.run_pure];congr 1
 match vs with
 | []=>rfl
 | [v]=>rfl
 | v::u::vs=>simp[QAC,AV.den,AV.denL]
def V6(n:Nat):List (Nat×Blk)->List (Nat×Blk)
 | []=>[]
 | (id,b)::h=>(match b with
  | .dfr=>(match decide (n<=id)with|true=>(id,.gone)|false=>(id,b))
  | b=>(id,b))::V6 n h
theorem vI{n:Nat}:∀{h:List (Nat×Blk)} {id:Nat} {b:Blk},look (V6 n h) id=some b->look h id=some b/\(b = .dfr->id<n)
 | (i,c)::h,id,b,e=>by
  simp only[V6]at e
  have key:∀ c':Blk,look ((i,c')::V6 n h) id=some b->(c'=c/\(c = .dfr->i<n))∨c' = .gone->look ((i,c)::h) id=some b/\(b = .dfr->id<n):=by
   intro c' e1 hc;simp only[Kw]at e1 ⊢
   by_cases hi:(i==id)=true
   .rw[if_pos hi]at e1 ⊢;rcases hc with ⟨hc1,hc⟩|hc1
    .rw[hc1]at e1;refine⟨e1,λhb=>?_⟩;split at e1
     .simp only[qsI]at e1;have:i=id:=by simpa using hi
      rw[<-this];exact hc (e1.trans hb)
     .cases e1
    .rw[hc1]at e1;simp[Blk.live]at e1
   .rw[if_neg hi]at e1 ⊢;exact vI e1
  split at e
  .split at e
   .exact key _ e (.inr rfl)
   .rename_i hn;exact key _ e (.inl ⟨rfl,λ_=>by have:=qdf hn;omega⟩)
  .rename_i hne;exact key _ e (.inl ⟨rfl,λhd=>absurd hd (by rintro rfl;exact hne rfl)⟩)
def V8:Bool:=h.all λp=>match p.2 with
 | .dfr=>false
 | _=>true
def QIE(n:Nat)(h:List (Nat×Blk)):Bool:=h.all λp=>match p.2 with
 | .dfr=>decide (p.1<n)
 | _=>true
theorem QGh{h:List (Nat×Blk)}(hk:V8 h=true){id:Nat}(hl:look h id=some .dfr):False:=by
 have:=List.all_eq_true.1 hk _ (KK hl);simp at this
theorem Qal{h:List (Nat×Blk)}(hk:QIE n h=true){id:Nat}(hl:look h id=some .dfr):id<n:=by
 have:=List.all_eq_true.1 hk _ (KK hl);simpa using this
def qn:List Nat->World->World
 | [],w=>w
 | b::bs,w=>qn bs (w.putObj b (.deferred none))
theorem QRy{P:Program}{F:Fence}{n:Nat}{fn:Func}{tmps:Array Value}{R:Ending->World->Prop}:∀(bs:List Nat) (w:World),bs.Nodup->(∀ b∈bs,bk w b=some (.deferred (some []))) ->
  (∃ v,(results fn tmps).run P (qn bs w) = .ok v (qn bs w)/\R (.returned v) (qn bs w))->LeavesInM F n P fn tmps R (bs.map QAJ) .returning w
 | [],w,_,_,h=>h
 | b::bs,w,hn,ho,h=>by
  rw[List.nodup_cons]at hn;have hb:=ho b (by simp)
  refine⟨by simp,.inl ⟨b,w.putObj b (.deferred none),rfl,run_takeDeferred hb,QRy bs _ hn.2 (λb' hb'=>?_) h⟩⟩
  have hne:b'≠b:=by rintro rfl;exact hn.1 hb'
  have:=ho b' (by simp[hb'])
  unfold bk at this ⊢;rw[World.putObj_heap_other hne];exact this
theorem QMz{r:Nat->Loc}{id:Nat}{b:Blk}(hd:b ≠ .dfr):∀(bs:List Nat) (w:World),bs.Nodup->(∀ x∈bs,bk w x=some (.deferred (some [])))->QN r id w b->QN r id (qn bs w) b
 | [],w,_,_,h=>h
 | x::bs,w,hn,ho,h=>by
  rw[List.nodup_cons]at hn;have hx:=ho x (by simp)
  have ho':∀ b'∈bs,bk (w.putObj x (.deferred none)) b'=some (.deferred (some [])):=by
   intro b' hb';have hne:b'≠x:=by rintro rfl;exact hn.1 hb'
   have:=ho b' (by simp[hb'])
   unfold bk at this ⊢;rw[World.putObj_heap_other hne];exact this
  refine QMz hd bs _ hn.2 ho' ?_
  have hoth:∀ k,k≠x->bk (w.putObj x (.deferred none)) k=bk w k:=by
   intro k hk;unfold bk;exact World.putObj_heap_other hk
  have key:b.plain=true->(r id).blk≠x->QN r id (w.putObj x (.deferred none)) b:=by
   intro hpl hne;exact h.keep (p:=λ_=>true) (λ_ _=>rfl) rfl (by simp[World.putObj]) (QVA b) (λ_ k hk=>by rw[(VJ hpl).1 hk];exact hoth _ hne)
  have rows:∀{l:Loc} {z n:Nat} {get:Nat->List AV},Vm w r l z n get->Vm (w.putObj x (.deferred none)) r l z n get:=by
   intro l z n get hR;refine⟨hR.1,λi hi=>⟨(hR.2 i hi).1,(hR.2 i hi).2.1,λj v hv=>?_⟩⟩;obtain⟨h1,h2⟩:=(hR.2 i hi).2.2 j v hv;refine⟨h1,?_⟩;rw[<-h2];refine QJT (hoth _ ?_);intro he;unfold bk at hx;rw[World.cell?,he,hx]at h2;cases h2
  cases b with
  | gone=>trivial
  | dfr=>exact absurd rfl hd
  | cells _ _ _=>exact key rfl (by intro he;have:=h.2.2;rw[he,hx]at this;cases this)
  | rowl _ _ _=>exact key rfl (by intro he;obtain⟨_,_,_,_,_,_,this⟩:=h;rw[he,hx]at this;cases this)
  | cellsR _ _ _=>exact key rfl (by intro he;have:=h.2.2;rw[he,hx]at this;cases this)
  | rowlR _ _ _=>exact key rfl (by intro he;obtain⟨_,_,_,_,_,_,this⟩:=h;rw[he,hx]at this;cases this)
  | lp _ _ _ _ _ _=>exact key rfl (by intro he;obtain⟨_,_,this⟩:=h;rw[he,hx]at this;cases this)
  | mp _ _=>exact key rfl (by intro he;have this:bk w (r id).blk=_:=h;rw[he,hx]at this;cases this)
  | itm _ _ _ _ _=>exact key rfl (by intro he;have this:bk w (r id).blk=_:=h.2.2;rw[he,hx]at this;cases this)
  | frz z n get=>exact⟨h.1,λk hk=>by simpa[World.putObj]using h.2.1 k hk,rows h.2.2⟩
  | rowz o ty z n get=>
   obtain⟨h1,h2,h3,h4,h5,h6⟩:=(show Kl r id w ty z.length n (QY z get)from h);show Kl r id _ ty z.length n (QY z get);refine⟨h1,h2,h3,h4,h5,λhn=>?_⟩;obtain⟨g1,rest,g2,g3⟩:=h6 hn;refine⟨g1,rest,g2,?_⟩;rw[hoth _ (by intro he;rw[he,hx]at g3;cases g3),g3]
theorem QRd{w0:World}{ch:Nat->Prop}:∀(bs:List Nat) (w:World),(∀ b∈bs,w0.heap.size<=b)->Fr w0 w ch->Fr w0 (qn bs w) ch
 | [],w,_,h=>h
 | b::bs,w,hb,h=>QRd bs _ (λb' hb'=>hb b' (by simp[hb'])) ⟨h.os,h.tape,h.output,by simpa[World.putObj]using h.size,h.drawn,λk hk hc=>by
   have:=hb b (by simp)
   rw[<-h.block k hk hc];unfold bk;exact World.putObj_heap_other (by omega)⟩
def Ga(fn:Func)(args:List AV)(hp:List (Nat×Blk))(nid:Nat):St:=⟨args++List.replicate (fn.ntmps-args.length) (.tup []),hp,nid⟩
def Vv(E:Env)(H:Hnd)(fn:Func)(args:List AV)(hp:List (Nat×Blk))(nid:Nat)(K:AV->List (Nat×Blk)->Nat->QC):QC:=
 match fn.body with
 | some c=>exec E H c (Ga fn args hp nid) λe st=>match e with
  | .exit _ => .fail "exit"
  | _=>match Wb E.P { st with hp:=V6 nid st.hp } fn.results.toList with
   | some vs=>(match AV.allL (·<st.nid) vs&&(QIE nid st.hp||V8 (V6 nid st.hp))with
    | true=>K (QAC vs) (V6 nid st.hp) st.nid
    | false => .fail "scope of a result")
   | none => .fail "result"
 | none => .fail "no body"
def QXh(keep:Bool)(h:List (Nat×Blk)):List (Nat×Blk):=match keep with
 | true=>h
 | false=>[]
def KY(E:Env)(H:Hnd)(keep:Bool)(fn:Func)(args:List AV)(hp:List (Nat×Blk))(nid:Nat):QC:=
 Vv E H fn args hp nid λv h _=>.leaf v (QXh keep h)
theorem QBR{p:Nat->Bool}:∀{l:List AV},AV.allL p l=true->∀ v∈l,v.all p=true
 | [],_,_,h=>by cases h
 | x::l,h,v,hv=>by
  simp only[AV.allL,qbA]at h;rcases List.mem_cons.1 hv with rfl|hv
  .exact h.1
  .exact QBR h.2 v hv
theorem QaN{vs:List AV}(h:AV.allL p vs=true):(QAC vs).all p=true:=by
 unfold QAC;split
 .simpa[AV.allL]using h
 .exact h
theorem HL(hE:E.Sound){H:Hnd}{f:FuncId}{fn:Func}(hf:E.P.funcs[f]? = some fn)(hb:fn.body=some c)(hl:Q0 E G H c){hp:List (Nat×Blk)}{nid:Nat}{T:AV->List (Nat×Blk)->Prop}{K:AV->List (Nat×Blk)->Nat->QC}(hG:G.n=nid)(hH:KM G nid r hp w)(hs1:AV.allL (·<nid) args=true)(h:(Vv E H fn args hp nid K).den T)(hrd:G.rd=none:=by rfl):Calls E.P f (AV.denL r args).toArray w λe w'=>∃ v h' nid' r',(K v h' nid').den T/\e = .returned (v.den r')/\G.n<=nid'/\KM G nid' r' h' w'/\v.all (·<nid')=true:=by
 unfold Vv at h;rw[hb]at h;refine(callsIn_wide (n:=0)).1 (callsIn_of_wp_marks hf hb trivial ?_)
 have hargs:∀ t,(((AV.denL r args).toArray++Array.replicate (fn.ntmps-(AV.denL r args).toArray.size) undef).getD t undef)=(QJ (Ga fn args hp nid).tm t).den r:=by
  intro t
  have e1:(AV.denL r args).toArray++Array.replicate (fn.ntmps-(AV.denL r args).toArray.size) undef=(AV.denL r (args++List.replicate (fn.ntmps-args.length) (.tup []))).toArray:=by
   apply Array.ext';simp[Qy,AV.den,AV.denL,undef]
  rw[e1];unfold QJ Ga;rw[Array.getD_eq_getD_getElem?,List.getElem?_toArray,Qy,List.getElem?_map];cases (args++List.replicate (fn.ntmps-args.length) (AV.tup []))[t]? <;> rfl
 have hfw:FW G.rd=Fence.wide:=by rw[hrd];rfl
 rw[<-hfw];refine jE hE hl.call hl.yield c hl.loop (Ga fn args hp nid) _ T _ _ w (Nat.le_of_eq hG) h ⟨⟨r,?_⟩,?_⟩ ?_
 .refine⟨?_,Dfr.none rfl,hargs,hH.rep,λid b hb=>XQ hb,hH.sep,hH.ext,hH.fr,hH.own⟩;simp[Ga,Kf]
 .refine⟨λt=>?_,hH.out,hH.blk⟩;unfold QJ Ga;cases ht:(args++List.replicate (fn.ntmps-args.length) (AV.tup []))[t]? with
  | none=>simp only[Option.getD_none];rfl
  | some v=>
   simp only[Option.getD_some];rcases List.mem_append.1 (List.mem_of_getElem? ht)with hm|hm
   .exact QBR hs1 v hm
   .rw[List.eq_of_mem_replicate hm];rfl
 .intro e st' a' w' hn' h' hr';obtain⟨⟨r',hI⟩,hS⟩:=hr'
  have key:(match Wb E.P { st' with hp:=V6 nid st'.hp } fn.results.toList with
   | some vs=>(match AV.allL (·<st'.nid) vs&&(QIE nid st'.hp||V8 (V6 nid st'.hp))with
    | true=>K (QAC vs) (V6 nid st'.hp) st'.nid
    | false => .fail "scope of a result")
   | none => .fail "result" : QC).den T -> LeavesInM (FW G.rd) 0 E.P fn a'.tmps (λe w'=>∃ v h' nid' r', (K v h' nid').den T /\ e = .returned (v.den r') /\ G.n <= nid' /\ KM G nid' r' h' w' /\ v.all (· < nid') = true) a'.defers .returning w' := by
   intro h';split at h'
   .rename_i vs hres;split at h'
    .rename_i hall;simp only[qbA,qbO]at hall;obtain⟨hall,hnest⟩:=hall;obtain⟨ds,d1,d2,d3⟩:=hI.defers
     have hopen:∀ b∈ds,bk w' b=some (.deferred (some [])):=by
      intro b hb;obtain⟨_,id,_,h2,h3⟩:=d3 b hb;exact hI.rep id _ h2 b h3
     have hnew:∀ b∈ds,G.w.heap.size<=b:=λb hb=>(d3 b hb).1;rw[d1];refine QRy _ w' d2 hopen ?_
     have hrepd:∀ id b,look (V6 nid st'.hp) id=some b->QN r' id (qn ds w') b:=by
      intro id b hb;obtain⟨k1,k2⟩:=vI hb
      by_cases hd:b = .dfr
      .subst hd;rcases hnest with hn|hn
       .cases ds with
        | nil=>exact hI.rep id _ k1
        | cons x ds=>
         obtain⟨_,i0,hx1,hx2,_⟩:=d3 x (by simp)
         have:=Qal hn hx2;omega
       .exact(QGh hn hb).elim
      .exact QMz hd _ w' d2 hopen (hI.rep id b k1)
     have hI':Inv G ({ st' with hp:=V6 nid st'.hp }:St).tm.length r' (QJ ({ st' with hp:=V6 nid st'.hp }:St).tm) (look ({ st' with hp:=V6 nid st'.hp }:St).hp) { a' with defers:=[] } (qn ds w'):=
      ⟨hI.size,Dfr.none rfl,hI.tm,hrepd,λid b hb=>XQ hb,λid id' b b' h1 h2=>hI.sep id id' b b' (vI h1).1 (vI h2).1,hI.ext,QRd _ _ hnew hI.fr,λid b h1=>hI.own id b (vI h1).1⟩
     have hS':K9 st'.nid { st' with hp:=V6 nid st'.hp }:=⟨hS.tm,λid b hb=>hS.out id b (vI hb).1,λid b hb=>hS.blk id b (vI hb).1⟩
     exact⟨_,QdZ (a:={ a' with defers:=[] }) (st:={ st' with hp:=V6 nid st'.hp }) hI' hres,_,_,_,r',h',rfl,hn',Rep.hinv hI' hS',QaN hall⟩
    .exact h'.elim
   .exact h'.elim
  cases e with
  | normal=>exact key h'
  | exit id=>exact h'.elim
  | ret=>exact key h'
