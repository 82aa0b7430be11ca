/- - -/
import Derived.Test.YtbpffdkemeoajaaGreatMpk
import Derived.RangeFuncLeaves
namespace Go.SX
open Go Go.RowKit Go.Proofs.YtbpffdkemeoajaaGreat
inductive Ex where
 | normal
 | exit (id:Nat)
 | ret
def Ex.to:Ex->Exit
 | .normal => .normal
 | .exit id => .exit id
 | .ret => .ret
structure Hnd where
 loop:Code->St->(Ex->St->QE)->QE
 call:FuncId->List AV->List (Nat×Blk)->Nat->(AV->List (Nat×Blk)->Nat->QE)->QE
 yield:Nat->List AV->List (Nat×Blk)->Nat->(AV->List (Nat×Blk)->Nat->QE)->QE
def zg(op:Op)(ev:Operand->AV):Option (Nat×List AV):=
 match op with
 | .call ⟨.value f,args,_⟩=>match ev f with
  | .yld id=>some (id,args.toList.map ev)
  | _=>none
 | _=>none
def WI(E:Env)(op:Op)(ev:Operand->AV):Option (FuncId×List AV):=
 match op with
 | .call ⟨.value f,args,_⟩=>match ev f with
  | .fn (.func g) cap=>match E.C g with
   | some _=>none
   | none=>some (g,args.toList.map ev++cap)
  | .mth (.func g) l=>match E.C g with
   | some _=>none
   | none=>some (g,l++args.toList.map ev)
  | _=>none
 | .call ⟨.invoke x name,args,_⟩=>match ev x with
  | .ifc t v=>match E.M t name with
   | some g=>match E.C g with
    | some _=>none
    | none=>some (g,v::args.toList.map ev)
   | none=>none
  | _=>none
 | _=>none
def qX(h h':List (Nat×Blk)):Bool:=h.all λp=>match p.2 with
 | .dfr=>(match look h' p.1 with|some .dfr=>true|_=>false)
 | _=>true
variable {h:List (Nat×Blk)}{G:Ctx}{n:Nat}{st:St}{a:Act}{w:World}{b:Bool}{E:Env}{ev:Operand->AV}{g:FuncId}{args:List AV}{r:Nat->Loc}{o:Oper}{p:Nat->Bool}{c:Code}
theorem QNC{h':List (Nat×Blk)}(hk:qX h h'=true){id:Nat}(hl:look h id=some .dfr):look h' id=some .dfr:=by
 have:=List.all_eq_true.1 hk _ (KR hl);simp only at this;split at this
 .assumption
 .cases this
def VY(E:Env)(H:Hnd)(ops:Array Oper):List Oper->St->(St->QE)->QE
 | [],st,K=>K st
 | o::l,st,K=>
  let go:=λ(st:St)=>match Xz ops st.tm o with
   | some true=>match WI E o.op (evA st.tm)with
    | some (g,args)=>H.call g args st.hp st.nid λv hp nid=>match qX st.hp hp with
     | true=>VY E H ops l ⟨setO st.tm o.dst v,hp,nid⟩ K
     | false => .fail "deferred"
    | none=>match zg o.op (evA st.tm)with
     | some (id,args)=>H.yield id args st.hp st.nid λv hp nid=>match qX st.hp hp with
      | true=>VY E H ops l ⟨setO st.tm o.dst v,hp,nid⟩ K
      | false => .fail "deferred"
     | none=>W2 E o st.nid st λrec=>VY E H ops l { KL o rec st with nid:=st.nid+8 } K
   | some false=>VY E H ops l (KL o ⟨.tup [],[],[]⟩ st) K
   | none => .fail "a guard"
  match QA6 E ops o st.tm with
  | some p=>QAA p.n (.bnd p.e λy=>VY E H ops l { KL o (p.rec_ y) st with nid:=st.nid+8 } K)
  | none=>match vY E ops o st.nid st with
  | some (n,rec)=>QAA n (VY E H ops l { KL o rec st with nid:=st.nid+8 } K)
  | none=>match Hy ops st.tm o with
   | none=>(match zH E ops st.tm o with
    | none=>go st
    | some (d,k,i,len)=>QGC i len λm=>go { st with tm:=st.tm.set d (.int true k m) })
   | some (d,b) => .br b (go { st with tm:=qW st.tm d true }) (go { st with tm:=qW st.tm d false })
def Hm(E:Env)(o:Oper)(nid:Nat)(st:St):Option Rec:=
 match qe (E.gc && !E.sp) E.P E.C E.M o.op (evA st.tm) nid (vW st.hp)with
 | (ids,g)=>match qk st.hp ids with
  | none=>none
  | some blks=>match g blks with
   | none=>none
   | some eff=>match eff.upd,jN nid ids st.hp eff,eff.known,eff.pre with
    | [],true,true,true=>some ⟨eff.val,[],ids⟩
    | _,_,_,_=>none
def qZ(E:Env)(ops:Array Oper):List Oper->St->Option St
 | [],st=>some st
 | o::l,st=>match o.guard,QA6 E ops o st.tm,Hy ops st.tm o,WI E o.op (evA st.tm),zg o.op (evA st.tm),E.bi o.op||E.fk with
  | none,none,none,none,none,false=>match Hm E o st.nid st with
   | some rec=>qZ E ops l { KL o rec st with nid:=st.nid+8 }
   | none=>none
  | _,_,_,_,_,_=>none
def qi(E:Env)(st:St):Code->Option (List Nat×St)
 | .skip=>some ([],st)
 | .region _ ops false=>match qZ E ops ops.toList st with
  | some st'=>some (ops.toList.filterMap (·.dst),st')
  | none=>none
 | _=>none
def zU(b:Bool):AV->AV->Option AV
 | .int _ k n,.int _ k' m=>(match k==k' with|true=>some (.int false k (cond b n m))|false=>none)
 | .bool _ p,.bool _ q=>some (.bool false (cond b p q))
 | v,.tup []=>some (.opt b v)
 | .tup [],v=>some (.opt (!b) v)
 | _,_=>none
def Zi(b:Bool)(g:Nat->Value)(tx ty:List AV):List Nat->List AV->List AV
 | [],tm=>tm
 | d::l,tm=>Zi b g tx ty l (tm.set d (match zU b (QM tx d) (QM ty d)with|some v=>v|none => .raw (g d)))
def QFp(E:Env)(b:Bool)(x y:Code)(st:St):Option ((Nat->Value)->St):=match E.jn with
 | false=>none
 | true=>match qi E st x,qi E st y with
  | some (dx,sx),some (dy,sy)=>some λg=>⟨Zi b g sx.tm sy.tm (dx++dy) st.tm,st.hp,sx.nid+sy.nid⟩
  | _,_=>none
def zJ(c:Operand)(b:Bool)(st:St):St:=match c with
 | .tmp d=>{ st with tm:=qW st.tm d b }
 | _=>st
def exec(E:Env)(H:Hnd):Code->St->(Ex->St->QE)->QE
 | .skip,st,K=>K .normal st
 | .label _,st,K=>K .normal st
 | .region _ ops draw,st,K=>
  match draw with
  | true=>WY E ops st.nid 0 (ops.toList.take (YE 0 (Ji [] ops.toList))) st λrs st'=>
   (match QHd ops st.nid (ops.toList.take (YE 0 (Ji [] ops.toList))) rs&&qn ops.toList with
   | true=>VY E H ops (ops.toList.drop (YE 0 (Ji [] ops.toList))) { st' with nid:=st.nid+8*(ops.toList.take (YE 0 (Ji [] ops.toList))).length } λst''=>K .normal st''
   | false => .fail "order")
  | false=>VY E H ops ops.toList st λst'=>K .normal st'
 | .seq a b,st,K=>exec E H a st λe st'=>match e with
  | .normal=>exec E H b st' K
  | .exit id=>K (.exit id) st'
  | .ret=>K .ret st'
 | .cond c x y,st,K=>match evA st.tm c with
  | .bool true b=>(match b with|true=>exec E H x st K|false=>exec E H y st K)
  | .bool false b=>match QFp E b x y st with
   | some f => .all λg=>K .normal (f g)
   | none => .br b (exec E H x (zJ c true st) K) (exec E H y (zJ c false st) K)
  | _ => .fail "cond"
 | .block id body,st,K=>exec E H body st λe st'=>match e with
  | .normal=>K .normal st'
  | .exit j=>(match j==id with|true=>K .normal st'|false=>K (.exit j) st')
  | .ret=>K .ret st'
 | .loop body,st,K=>H.loop (.loop body) st K
 | .rangeFunc g ps as body,st,K=>H.loop (.rangeFunc g ps as body) st K
 | .scope body,st,K=>exec E H body st K
 | .exit id,st,K=>K (.exit id) st
 | .ret,st,K=>K .ret st
 | _, _, _ => .fail "code"
def JB:Code->List Code
 | .seq a b=>JB a++JB b
 | .cond _ a b=>JB a++JB b
 | .block _ a=>JB a
 | .scope a=>JB a
 | .loop body=>[.loop body]
 | .rangeFunc g ps as body=>[.rangeFunc g ps as body]
 | _=>[]
def Vf(E:Env)(G:Ctx)(c:Code)(H:St->(Ex->St->QE)->QE):Prop:=
 ∀(st:St) (K:Ex->St->QE) (T:AV->List (Nat×Blk)->Prop) (Q:Exit->Act->World->Prop) (a:Act) (w:World),G.n<=st.nid->(H st K).den T->Rep G st.nid st a w ->
  (∀ e st' a' w',G.n<=st'.nid->(K e st').den T->Rep G st'.nid st' a' w'->Q e.to a' w')->c.wpIn (FW G.rd) 0 E.P Q a w
structure Kc (G:Ctx) (n:Nat) (r:Nat->Loc) (hp:List (Nat×Blk)) (w:World):Prop where
 rep:∀ id b,look hp id=some b->QR r id w b
 sep:∀ id id' b b',look hp id=some b->look hp id'=some b'->id≠id'->b.own=true->∀ k,Qm r id b k->¬ Qm r id' b' k
 ext:∀ id,id<G.n->r id=G.r id
 fr:Fr G.w w G.ch
 own:∀ id b,look hp id=some b->b.own=true->∀ k,Qm r id b k->G.ch k∨G.w.heap.size<=k
 out:∀ id b,look hp id=some b->id<n
 blk:∀ id b,look hp id=some b->b.all (·<n)=true
def H6(E:Env)(G:Ctx)(call:FuncId->List AV->List (Nat×Blk)->Nat->(AV->List (Nat×Blk)->Nat->QE)->QE):Prop:=
 ∀(g:FuncId) (args:List AV) (hp:List (Nat×Blk)) (nid:Nat) (K:AV->List (Nat×Blk)->Nat->QE) (T:AV->List (Nat×Blk)->Prop) (r:Nat->Loc) (w:World),G.n<=nid->Kc G nid r hp w->AV.allL (·<nid) args=true ->
  (call g args hp nid K).den T->VB E.P g=true/\Calls E.P g (AV.denL r args).toArray w λe w'=>∃ v hp' nid' r',(K v hp' nid').den T/\e = .returned (v.den r')/\nid<=nid'/\(∀ id,id<nid->r' id=r id)/\Kc G nid' r' hp' w'/\v.all (·<nid')=true
def QBP(E:Env)(G:Ctx)(yield:Nat->List AV->List (Nat×Blk)->Nat->(AV->List (Nat×Blk)->Nat->QE)->QE):Prop:=
 ∀(id:Nat) (args:List AV) (hp:List (Nat×Blk)) (nid:Nat) (K:AV->List (Nat×Blk)->Nat->QE) (T:AV->List (Nat×Blk)->Prop) (r:Nat->Loc) (w:World),G.n<=nid->Kc G nid r hp w->AV.allL (·<nid) args=true ->
  (yield id args hp nid K).den T->∃ rec,bk w (r id).blk=some (.loop rec)/\args.length=rec.params.size /\
   RoundIn Fence.wide 0 E.P (r id).blk rec.fn ((rec.params.zip (AV.denL r args).toArray).foldl (λtmps (t,v)=>tmps.setIfInBounds t v) rec.tmps) rec.assign rec.body w λe w'=>
    ∃ u,e = .returned u/\∃ v hp' nid' r',(K v hp' nid').den T/\u=v.den r'/\nid<=nid'/\(∀ id,id<nid->r' id=r id)/\Kc G nid' r' hp' w'/\v.all (·<nid')=true
structure Q8 (E:Env) (G:Ctx) (H:Hnd) (c:Code):Prop where
 loop:∀ s∈JB c,Vf E G s (H.loop s)
 call:H6 E G H.call
 yield:QBP E G H.yield
theorem Rep.fix{c:Operand}{k:Bool}(h:Rep G n st a w)(he:evA st.tm c = .bool k b):Rep G n (zJ c b st) a w:=by
 unfold zJ;split
 .rename_i d;have hq:=QAE (tm:=st.tm) (d:=d) he b rfl;exact⟨h.1.imp λr hI=>Inv.eqv (st:=st) hq hI,h.2.eqv hq⟩
 .exact h
theorem QDK(c:Operand)(b:Bool)(st:St):(zJ c b st).nid=st.nid:=by unfold zJ;split<;>rfl
theorem Rep.nid{G:Ctx}{n:Nat}{st:St}{a:Act}{w:World}{m:Nat}(h:Rep G n st a w):Rep G n { st with nid:=m } a w:=⟨h.1,⟨h.2.tm,h.2.out,h.2.blk⟩⟩
theorem Qfp{o:Oper}(h:WI E o.op ev=some (g,args))(hM:Hk E.P E.M)(hgo:VB E.P g=true)(hρ:∀ x∈o.op.operands,a.eval x=(ev x).den r)(w:World):
  (execOp a.eval o).run E.P w = .ok (.enter g (AV.denL r args).toArray) w:=by
 unfold WI at h;split at h<;>(try (cases h;done))<;>rename_i ho
 .rename_i f as ts;have hf:=hρ f (by rw[ho];simp[Op.operands,Call.operands])
  split at h<;>(try (cases h;done))
  .rename_i g' cap hef;split at h<;>(try (cases h;done))
   simp only[qsI,qpI]at h;obtain⟨rfl,rfl⟩:=h;unfold execOp;simp only[ho];have ha:=Yj (r:=r) (ρ:=a.eval) (ev:=ev) (xs:=as) (λx hx=>hρ x (by rw[ho];simp[Op.operands,Call.operands];exact .inr (by simpa using hx)))
   simp only[resolve,hf,hef,AV.den,Deferred.ofValue,Sem.run_bind,Sem.run_pure,Result.andThen_ok,invoke,ha];rw[WP];simpa using qK hgo _ w
  .rename_i g' l hef;split at h<;>(try (cases h;done))
   simp only[qsI,qpI]at h;obtain⟨rfl,rfl⟩:=h;unfold execOp;simp only[ho];have ha:=Yj (r:=r) (ρ:=a.eval) (ev:=ev) (xs:=as) (λx hx=>hρ x (by rw[ho];simp[Op.operands,Call.operands];exact .inr (by simpa using hx)))
   simp only[resolve,hf,hef,AV.den,Deferred.ofValue,Sem.run_bind,Sem.run_pure,Result.andThen_ok,invoke,ha];rw[WP];simpa using qK hgo _ w
 .rename_i x name as ts;have hx:=hρ x (by rw[ho];simp[Op.operands,Call.operands])
  split at h<;>(try (cases h;done))
  rename_i t v hex;split at h<;>(try (cases h;done))
  rename_i g' hm;split at h<;>(try (cases h;done))
  simp only[qsI,qpI]at h;obtain⟨rfl,rfl⟩:=h;unfold execOp;simp only[ho];have ha:=Yj (r:=r) (ρ:=a.eval) (ev:=ev) (xs:=as) (λx hx=>hρ x (by rw[ho];simp[Op.operands,Call.operands];exact .inr (by simpa using hx)))
  have hmm:=hM t name g' hm (v.den r) w;simp[resolve,invoke,callMethod,ha,hx,hex,AV.den,hmm,AV.denL];simpa using qK hgo _ w
theorem QUa(h:WI E o.op ev=some (g,args)):∀ c,o.op ≠ .defer c:=by
 intro c hc;rw[hc]at h;simp[WI]at h
theorem QWP(h:WI E o.op ev=some (g,args))(hs:∀ x,(ev x).all p=true):AV.allL p args=true:=by
 unfold WI at h;split at h<;>(try (cases h;done))
 .rename_i f as ts _;have hf:=hs f;split at h<;>(try (cases h;done))
  .rename_i g' cap hef;rw[hef]at hf;split at h<;>(try (cases h;done))
   simp only[qsI,qpI]at h;obtain⟨rfl,rfl⟩:=h;rw[vR,Zc (λx _=>hs x)];exact hf
  .rename_i g' l hef;rw[hef]at hf;split at h<;>(try (cases h;done))
   simp only[qsI,qpI]at h;obtain⟨rfl,rfl⟩:=h;rw[vR,Zc (λx _=>hs x),Bool.and_true];exact hf
 .rename_i x name as ts _;have hx:=hs x;split at h<;>(try (cases h;done))
  rename_i t v hex;rw[hex]at hx;split at h<;>(try (cases h;done))
  split at h<;>(try (cases h;done))
  simp only[qsI,qpI]at h;obtain⟨rfl,rfl⟩:=h;simp only[AV.allL,Zc (λx _=>hs x),Bool.and_true];exact hx
theorem Rep.hinv(hI:Inv G st.tm.length r (QM st.tm) (look st.hp) a w)(hS:JJ n st):Kc G n r st.hp w:=
 ⟨hI.rep,hI.sep,hI.ext,hI.fr,hI.own,hS.out,hS.blk⟩
theorem QSz{o:Oper}{id:Nat}(h:zg o.op ev=some (id,args))(hρ:∀ x∈o.op.operands,a.eval x=(ev x).den r)(hs:∀ x,(ev x).all p=true){K:Act->World->Prop}{Q:Exit->Act->World->Prop}{R:Value->World->Prop}{rd:Option Nat}{rec:Loop}(hb:bk w (r id).blk=some (.loop rec))(hsz:args.length=rec.params.size)(hr:RoundIn Fence.wide 0 E.P (r id).blk rec.fn ((rec.params.zip (AV.denL r args).toArray).foldl (λtmps (t,v)=>tmps.setIfInBounds t v) rec.tmps) rec.assign rec.body w λe w'=>∃ v,e = .returned v/\R v w')(k:∀ v w',R v w'->K (a.put o.dst v) w'):o.wpIn (FW rd) 0 E.P a w K Q/\AV.allL p args=true:=by
 unfold zg at h;split at h<;>(try (cases h;done))
 rename_i f as ts ho;have hf:=hρ f (by rw[ho];simp[Op.operands,Call.operands])
 split at h<;>(try (cases h;done))
 rename_i id' hef;simp only[qsI,qpI]at h;obtain⟨rfl,rfl⟩:=h;have ha:=Yj (r:=r) (ρ:=a.eval) (ev:=ev) (xs:=as) (λx hx=>hρ x (by rw[ho];simp[Op.operands,Call.operands];exact .inr (by simpa using hx)))
 refine⟨QgT ho (by rw[hf,hef];rfl) hb (by simpa using hsz) ?_ k,Zc (λx _=>hs x)⟩
 rw[ha];exact hr
theorem GR{E:Env}(hE:E.Sound){H:Hnd}{G:Ctx}(hC:H6 E G H.call)(hY:QBP E G H.yield){ops:Array Oper}{Q:Exit->Act->World->Prop}{T:AV->List (Nat×Blk)->Prop}:∀(l:List Oper) (st:St) (K:St->QE) (a:Act) (w:World),G.n<=st.nid->(VY E H ops l st K).den T->Rep G st.nid st a w ->
  (∀ st' a' w',G.n<=st'.nid->(K st').den T->Rep G st'.nid st' a' w'->Q .normal a' w')->wpListIn (FW G.rd) 0 E.P ops Q l a w
 | [],st,K,a,w,hn,h,hr,hQ=>hQ st a w hn h hr
 | o::l,st,K,a,w,hn,h,hr,hQ=>by
  have go:∀ tm,Eqv st.tm tm->(match Xz ops tm o with
   | some true=>match WI E o.op (evA tm)with
    | some (g,args)=>H.call g args st.hp st.nid λv hp nid=>match qX st.hp hp with
     | true=>VY E H ops l ⟨setO tm o.dst v,hp,nid⟩ K
     | false => .fail "deferred"
    | none=>match zg o.op (evA tm)with
     | some (id,args)=>H.yield id args st.hp st.nid λv hp nid=>match qX st.hp hp with
      | true=>VY E H ops l ⟨setO tm o.dst v,hp,nid⟩ K
      | false => .fail "deferred"
     | none=>W2 E o st.nid { st with tm:=tm } λrec=>VY E H ops l { KL o rec { st with tm:=tm }with nid:=st.nid+8 } K
   | some false=>VY E H ops l (KL o ⟨.tup [],[],[]⟩ { st with tm:=tm }) K
   | none => .fail "a guard" : QE).den T -> wpListIn (FW G.rd) 0 E.P ops Q (o :: l) a w := by
   intro tm he h;obtain⟨⟨r,hI⟩,hS⟩:=hr;have hI:=hI.eqv he;have hS:=hS.eqv he;have hf:=hS.free (qlr _);have hev:∀ x∈o.op.operands,a.eval x=(evA tm x).den r:=λx _=>HI λt _=>hI.tm t
   have behind:∀ v hp' nid' r' w',(match qX st.hp hp' with
     | true=>VY E H ops l ⟨setO tm o.dst v,hp',nid'⟩ K
     | false => .fail "deferred" : QE).den T -> st.nid <= nid' -> (∀ id, id < st.nid -> r' id = r id) -> Kc G nid' r' hp' w' -> v.all (· < nid') = true -> wpListIn (FW G.rd) 0 E.P ops Q l (a.put o.dst (v.den r')) w' := by
    intro v hp' nid' r' w' hK hle hrr hH hv;split at hK<;>(try (exact hK.elim))
    rename_i hkd;refine GR hE hC hY l ⟨setO tm o.dst v,hp',nid'⟩ K _ w' (Nat.le_trans hn hle) hK ⟨⟨r',?_⟩,?_⟩ hQ
    .refine⟨by rw[Act.put_size,hI.size,QAJ],hI.defers.to (Act.put_defers _ _ _) (λid _ hid=>⟨QNC hkd hid,hrr id (hS.out id _ hid)⟩),λt=>?_,hH.rep,λid b hb=>YC hb,hH.sep,hH.ext,hH.fr,hH.own⟩
     rw[Act.getD_put,hI.size,Zz];split
     .rfl
     .rw[hI.tm t];exact VL (p:=(·<st.nid)) (λid hid=>(hrr id (by simpa using hid)).symm) _ (hS.tm t)
    .refine⟨λt=>?_,hH.out,hH.blk⟩;simp only[Zz];split
     .exact hv
     .exact all_mono (YB hle) _ (hS.tm t)
   split at h
   .rename_i hg;have hw:=Ht (a:=a) (r:=r) hg (λt _=>hI.tm t);unfold wpListIn;rw[if_pos hw];split at h
    .rename_i g args hc;have hall:AV.allL (·<st.nid) args=true:=QWP hc (λx=>jH hS.tm);obtain⟨hgo,hcalls⟩:=hC g args st.hp st.nid _ T r w hn (Rep.hinv (st:={ st with tm:=tm }) hI hS) hall h
     refine QAe ?_ (QUa hc);refine QAj (Qfp hc hE.m hgo hev w) (hcalls.mono ?_);rintro e w' ⟨v,hp',nid',r',hK,rfl,hle,hrr,hH,hv⟩;exact⟨_,rfl,behind v hp' nid' r' w' hK hle hrr hH hv⟩
    .rename_i hcn;split at h
     .rename_i id args hc
      have hall:AV.allL (·<st.nid) args=true:=by
       unfold zg at hc;split at hc<;>(try (cases hc;done))
       split at hc<;>(try (cases hc;done))
       simp only[qsI,qpI]at hc;obtain⟨rfl,rfl⟩:=hc;exact Zc (λx _=>jH hS.tm)
      obtain⟨rec,hb,hsz,hro⟩:=hY id args st.hp st.nid _ T r w hn (Rep.hinv (st:={ st with tm:=tm }) hI hS) hall h
      refine(QSz (E:=E) (p:=λ_=>true) hc hev (λ_=>zI _) hb hsz hro ?_).1;rintro u w' ⟨v,hp',nid',r',hK,rfl,hle,hrr,hH,hv⟩;exact behind v hp' nid' r' w' hK hle hrr hH hv
     obtain⟨rec,hran,hK⟩:=QRI h;obtain⟨_,g,blks,eff,hV,hb,hgb,hp,_,h1,h2⟩:=hran.ran;refine QAe ?_ hran.noDefer;refine QDV hE.c hE.m (r:=r) (hI.hok hf) hV (Hz hb) hgb hp hev (λx _=>jH hf.tm) ?_;intro r' w' hpost;refine GR hE hC hY l _ K _ w' (by show G.n<=st.nid+8;omega) hK ⟨⟨r',?_⟩,vu (hran.scopedAt hS) rfl rfl⟩ hQ
     show Inv G (KL o rec { st with tm:=tm }).tm.length r' (QM (KL o rec { st with tm:=tm }).tm) (look (KL o rec { st with tm:=tm }).hp) _ w'
     rw[QFB,QIp,YS,h1,h2];refine hI.step hf hn hpost ?_;intro p hp hin;rcases hran.ok.2 p (by rw[h2];exact hp)with h3|⟨_,b,hb,ho⟩
     .rw[hin]at h3;cases h3
     .exact⟨b,hb,ho⟩
   .rename_i hg;have hw:=Ht (a:=a) (r:=r) hg (λt _=>hI.tm t);unfold wpListIn;rw[if_neg (by rw[hw];decide)]
    refine⟨λ_ _=>trivial,?_⟩;refine GR hE hC hY l (KL o ⟨.tup [],[],[]⟩ { st with tm:=tm }) K _ w hn h ⟨⟨r,?_⟩,hS.skip (qlr _)⟩ hQ
    rw[QFB,QIp,YS];exact hI.step (v := .tup []) hf hn (Qx.id _ r _ w) (by simp)
   .exact h.elim
  have spec:∀(g:Bool) (v:AV) (ids:List Nat),W5 E ops o st.nid st g v ids->(VY E H ops l { KL o ⟨v,[],ids⟩ st with nid:=st.nid+8 } K).den T->wpListIn (FW G.rd) 0 E.P ops Q (o::l) a w:=by
   intro g v ids hsp h;obtain⟨⟨r,hI⟩,hS⟩:=hr;have hf:=hS.free (qlr _);have hev:∀ x∈o.op.operands,a.eval x=(evA st.tm x).den r:=λx _=>HI λt _=>hI.tm t;have hw:=hsp.gd a r (λt _=>hI.tm t);have hsc:JJ (st.nid+8) (KL o ⟨v,[],ids⟩ st):=hS.apply (by omega) ⟨hsp.sc,by simp⟩ (by simp)
   have behind:∀ r' w',Qx (look st.hp) r st.nid [] w r' w'->wpListIn (FW G.rd) 0 E.P ops Q l (a.put o.dst (v.den r')) w':=by
    intro r' w' hpost;refine GR hE hC hY l _ K _ w' (by show G.n<=st.nid+8;omega) h ⟨⟨r',?_⟩,vu hsc rfl rfl⟩ hQ
    show Inv G (KL o ⟨v,[],ids⟩ st).tm.length r' (QM (KL o ⟨v,[],ids⟩ st).tm) (look (KL o ⟨v,[],ids⟩ st).hp) _ w';rw[QFB,QIp,YS];exact hI.step hf hn hpost (by simp)
   unfold wpListIn;cases g with
   | false=>
    rw[if_neg (by rw[hw];decide)]
    refine⟨λ_ _=>trivial,?_⟩;have:=behind r w (Qx.id _ r _ w);rw[hsp.off rfl r]at this;exact this
   | true=>
    rw[if_pos hw];obtain⟨tm',v',_,hden,hall,hran,hv⟩:=hsp.run rfl;refine QAe ?_ hran.noDefer;obtain⟨_,gg,blks,eff,hV,hb,hgb,hp,_,e1,e2⟩:=hran.ran;refine QDV hE.c hE.m (r:=r) (hI.hok hf) hV (Hz hb) hgb hp (λx hx=>(hev x hx).trans (hden x hx r).symm) (λx _=>jH λt=>hall t _ (hf.tm t)) ?_;intro r' w' hpost;rw[<-e2]at hpost;have:=behind r' w' hpost;have ev:v.den r'=eff.val.den r':=by rw[<-hv r',<-e1]
    rw[ev]at this;exact this
  simp only[VY]at h;split at h
  .rename_i p hs;obtain⟨hb,h⟩:=QDw h;exact spec _ _ _ (QNZ (n:=st.nid) hs hb) (h _ rfl)
  split at h
  .rename_i m rec hs;obtain⟨hb,h⟩:=QDw h;obtain⟨g,he,hsp⟩:=QJ3 hs hb;rw[he]at h;exact spec _ _ _ hsp h
  split at h
  .split at h
   .exact go st.tm (Eqv.refl _) h
   .rename_i d k' i len ha;obtain⟨m,e,h⟩:=QMD h;exact go _ (QL5 (QKj ha) m e) h
  .rename_i d b ha;have hs:=QQb ha;cases hb:b with
   | true=>exact go _ (QAE hs true hb) (h.1 hb)
   | false=>exact go _ (QAE hs false hb) (h.2 hb)
theorem QSG{rec:Rec}(h:Hm E o st.nid st=some rec)(hb:E.bi o.op=false)(K:Rec->QE):W2 E o st.nid st K=K rec/\rec.upd=[]:=by
 unfold Hm at h;unfold W2;split at h;rename_i ids g hV;split at h<;>(try (cases h;done))
 rename_i blks hbl;split at h<;>(try (cases h;done))
 rename_i eff he;split at h<;>(try (cases h;done))
 rename_i h1 h2 h3 h4;simp only[qsI]at h;subst h;simp only[hV,hbl,he,h2,if_true,h3,h4,QFt,hb,QCS,h1,and_self,vb QEF]
theorem QLl{E:Env}{H:Hnd}{ops:Array Oper}:∀(l:List Oper) (st st':St) (K:St->QE),qZ E ops l st=some st'->VY E H ops l st K=K st'/\st'.hp=st.hp/\st'.tm.length=st.tm.length/\st.nid<=st'.nid/\∀ t,t ∉ l.filterMap (·.dst)->QM st'.tm t=QM st.tm t
 | [],st,st',K,h=>by
  simp only[qZ,qsI]at h;subst h;exact⟨rfl,rfl,rfl,qlr _,λ_ _=>rfl⟩
 | o::l,st,st',K,h=>by
  simp only[qZ]at h;split at h<;>(try (cases h;done))
  rename_i hg hp ha hc hy hb;rw[Bool.or_eq_false_iff]at hb;obtain⟨hb,hfk⟩:=hb;split at h<;>(try (cases h;done))
  rename_i rec hr;have hai:zH E ops st.tm o=none:=by unfold zH;rw[hfk]
  obtain⟨i1,i2,i3,i4,i5⟩:=QLl (H:=H) l _ st' K h
  have hup := (QSG hr hb λ_=>.fail "").2
  refine⟨?_,?_,by rw[i3];exact YS _ _ _,Nat.le_trans (Nat.le_add_right _ _) i4,λt ht=>?_⟩
  .have hgv:Xz ops st.tm o=some true:=by unfold Xz;rw[hg]
   have hgb:vH ops st.tm o=none:=by unfold vH;rw[hg]
   have hs:vY E ops o st.nid st=none:=by unfold vY;rw[hgb];cases E.sp<;>rfl
   simp only[VY,hp,hs,ha,hgv,hc,hy,hai];rw[(QSG hr hb _).1];exact i1
  .rw[i2];show(KL o rec st).hp=_;unfold KL;rw[hup];rfl
  .have h1:o.dst≠some t:=λe=>ht (by rw[List.filterMap_cons,e];exact qmc)
   have h2:t ∉ l.filterMap (·.dst):=λe=>ht (by
    rw[List.filterMap_cons];split
    .exact e
    .exact List.mem_cons_of_mem _ e)
   rw[i5 t h2];show QM (KL o rec st).tm t=_;unfold KL;rw[Zz,if_neg (λe=>h1 e.1)]
theorem QD1{H:Hnd}{st':St}{ds:List Nat}(h:qi E st c=some (ds,st'))(K:Ex->St->QE):exec E H c st K=K .normal st'/\st'.hp=st.hp/\st'.tm.length=st.tm.length/\st.nid<=st'.nid/\∀ t,t ∉ ds->QM st'.tm t=QM st.tm t:=by
 unfold qi at h;split at h
 .simp only[qsI,qpI]at h;obtain⟨rfl,rfl⟩:=h;exact⟨rfl,rfl,rfl,qlr _,λ_ _=>rfl⟩
 .split at h<;>(try (cases h;done))
  rename_i hs;simp only[qsI,qpI]at h;obtain⟨rfl,rfl⟩:=h;obtain⟨i1,i2⟩:=QLl (H:=H) _ st _ (λst'=>K .normal st') hs;exact⟨by simp only[exec];exact i1,i2⟩
 .cases h
theorem QN7{v w u:AV}(h:zU b v w=some u):(∀ r,u.den r=(match b with|true=>v|false=>w).den r)/\∀ p,v.all p=true->w.all p=true->u.all p=true:=by
 unfold zU at h;split at h
 .split at h<;>(try (cases h;done))
  rename_i hk;simp only[qsI]at h;subst h;have hk:=eq_of_beq hk;subst hk;exact⟨λr=>by cases b<;>rfl,λ_ _ _=>rfl⟩
 .simp only[qsI]at h;subst h;exact⟨λr=>by cases b<;>rfl,λ_ _ _=>rfl⟩
 .simp only[qsI]at h;subst h;exact⟨λr=>by cases b<;>rfl,λ_ hv _=>hv⟩
 .simp only[qsI]at h;subst h;exact⟨λr=>by cases b<;>rfl,λ_ _ hw=>hw⟩
 .cases h
theorem QLm{b:Bool}{g:Nat->Value}{tx ty:List AV}:∀(l:List Nat) (tm:List AV),(Zi b g tx ty l tm).length=tm.length/\∀ t,QM (Zi b g tx ty l tm) t=QM tm t/\t ∉ l ∨
  (t<tm.length/\(zU b (QM tx t) (QM ty t)=some (QM (Zi b g tx ty l tm) t)∨QM (Zi b g tx ty l tm) t = .raw (g t)))∨(QM (Zi b g tx ty l tm) t=QM tm t/\tm.length<=t)
 | [],tm=>⟨rfl,λt=>.inl ⟨rfl,by simp⟩⟩
 | d::l,tm=>by
  obtain⟨h1,h2⟩:=QLm (b:=b) (g:=g) (tx:=tx) (ty:=ty) l (tm.set d (match zU b (QM tx d) (QM ty d)with|some v=>v|none => .raw (g d)))
  simp only[Zi];rw[List.length_set]at h1 h2;refine⟨h1,λt=>?_⟩;rcases h2 t with ⟨e,hn⟩|h3|⟨e,hn⟩
  .rw[H2]at e
   by_cases hd:d=t/\d<tm.length
   .rw[if_pos hd]at e;obtain⟨rfl,hlt⟩:=hd;refine .inr (.inl ⟨hlt,?_⟩);cases hv:zU b (QM tx d) (QM ty d)with
    | some v=>rw[hv]at e;exact .inl (by rw[e])
    | none=>rw[hv]at e;exact .inr e
   .rw[if_neg hd]at e
    by_cases hdt:d=t
    .exact .inr (.inr ⟨e,by subst hdt;simp only[true_and]at hd;omega⟩)
    .exact .inl ⟨e,by simp only[List.mem_cons,not_or];exact⟨λh=>hdt h.symm,hn⟩⟩
  .exact .inr (.inl h3)
  .rw[H2,if_neg (by omega)]at e
   exact .inr (.inr ⟨e,hn⟩)
theorem Qd1{rec:Rec}(h:Hm E o n st=some rec):rec.val.all (·<n+8)=true/\rec.upd=[]:=by
 unfold Hm at h;split at h;split at h<;>(try (cases h;done))
 split at h<;>(try (cases h;done))
 split at h<;>(try (cases h;done))
 rename_i h1 h2 h3 h4;simp only[qsI]at h;subst h;unfold jN at h2;simp only[qbA]at h2;exact⟨h2.1,rfl⟩
theorem QQe{E:Env}{ops:Array Oper}:∀(l:List Oper) (st st':St),JJ st.nid st->qZ E ops l st=some st'->JJ st'.nid st'
 | [],st,st',hS,h=>by
  simp only[qZ,qsI]at h;subst h;exact hS
 | o::l,st,st',hS,h=>by
  simp only[qZ]at h;split at h<;>(try (cases h;done))
  split at h<;>(try (cases h;done))
  rename_i rec hr;obtain⟨h1,h2⟩:=Qd1 hr;refine QQe l _ st' ?_ h;exact vu (hS.apply (nid:=st.nid) (o:=o) (rec:=rec) (by omega) ⟨h1,by rw[h2];simp⟩ (by rw[h2];simp)) rfl rfl
theorem QOr{st':St}{ds:List Nat}(hS:JJ st.nid st)(h:qi E st c=some (ds,st')):JJ st'.nid st':=by
 unfold qi at h;split at h
 .simp only[qsI,qpI]at h;obtain⟨_,rfl⟩:=h;exact hS
 .split at h<;>(try (cases h;done))
  rename_i hs;simp only[qsI,qpI]at h;obtain⟨_,rfl⟩:=h;exact QQe _ _ _ hS hs
 .cases h
theorem QGG{l:List AV}{t:Nat}(hl:l.length<=t):QM l t = .tup []:=by
 unfold QM;rw[List.getElem?_eq_none hl];rfl
theorem QZW{x y:Code}{f:(Nat->Value)->St}(h:QFp E b x y st=some f)(hS:JJ st.nid st):(∀ g,st.nid<=(f g).nid)/\∃ sx sy,(∃ dx,qi E st x=some (dx,sx))/\(∃ dy,qi E st y=some (dy,sy)) /\
  ∀(G:Ctx) (a:Act) (w:World),Rep G (match b with|true=>sx|false=>sy).nid (match b with|true=>sx|false=>sy) a w->∃ g,Rep G (f g).nid (f g) a w:=by
 unfold QFp at h;split at h<;>(try (cases h;done))
 split at h<;>(try (cases h;done))
 rename_i dx sx dy sy hx hy;simp only[qsI]at h;subst h
 have nope : Hnd := ⟨λ_ _ _=>.fail "", λ_ _ _ _ _=>.fail "", λ_ _ _ _ _=>.fail ""⟩
 obtain ⟨_, x2, x3, x4, x5⟩ := QD1 (H := nope) hx (λ_ _=>.fail "")
 obtain ⟨_, y2, y3, y4, y5⟩ := QD1 (H := nope) hy (λ_ _=>.fail "")
 have hSx:=QOr hS hx;have hSy:=QOr hS hy;refine⟨λg=>by show st.nid<=sx.nid+sy.nid;omega,sx,sy,⟨dx,hx⟩,⟨dy,hy⟩,λG a w=>?_⟩
 have key:∀(s:St),s=(match b with|true=>sx|false=>sy)->s.hp=st.hp->s.tm.length=st.tm.length->s.nid<=sx.nid+sy.nid->(∀ t,t ∉ dx++dy->QM s.tm t=QM st.tm t)->Rep G s.nid s a w ->
   ∃ g,Rep G (sx.nid+sy.nid) ⟨Zi b g sx.tm sy.tm (dx++dy) st.tm,st.hp,sx.nid+sy.nid⟩ a w:=by
  intro s e0 e1 e2 e3 e4 ⟨⟨r,hI⟩,hSs⟩;refine⟨λt=>a.tmps.getD t undef,?_⟩;obtain⟨m1,m2⟩:=QLm (b:=b) (g:=λt=>a.tmps.getD t undef) (tx:=sx.tm) (ty:=sy.tm) (dx++dy) st.tm;generalize Zi b (λt=>a.tmps.getD t undef) sx.tm sy.tm (dx++dy) st.tm=tm at *
  have hden:∀ t,(QM tm t).den r=(QM s.tm t).den r:=by
   intro t;rcases m2 t with ⟨e,hn⟩|⟨_,e|e⟩|⟨e,hn⟩
   .rw[e,e4 t hn]
   .rw[(QN7 e).1 r,e0];cases b<;>rfl
   .rw[e];exact hI.tm t
   .rw[e,QGG hn,QGG (by rw[e2];exact hn)]
  refine⟨⟨r,?_⟩,?_⟩
  .refine⟨by rw[hI.size,e2];exact m1.symm,by rw[<-e1];exact hI.defers,λt=>by rw[hI.tm t];exact(hden t).symm,by rw[<-e1];exact hI.rep,by rw[<-e1];exact hI.live,by rw[<-e1];exact hI.sep,hI.ext,hI.fr,by rw[<-e1];exact hI.own⟩
  .refine⟨λt=>?_,λid c hc=>?_,λid c hc=>?_⟩
   .show(QM tm t).all _=true;rcases m2 t with ⟨e,hn⟩|⟨_,e|e⟩|⟨e,hn⟩
    .rw[e];exact all_mono (YB (by omega)) _ (hS.tm t)
    .exact(QN7 e).2 _ (all_mono (YB (Nat.le_add_right _ _)) _ (hSx.tm t)) (all_mono (YB (Nat.le_add_left _ _)) _ (hSy.tm t))
    .rw[e];rfl
    .rw[e,QGG hn];rfl
   .have:=hS.out id c hc;omega
   .exact Blk.all_mono (YB (by omega)) _ (hS.blk id c hc)
 cases b with
 | true=>exact key sx rfl x2 x3 (by omega) (λt ht=>x5 t (λh=>ht (List.mem_append.2 (.inl h))))
 | false=>exact key sy rfl y2 y3 (by omega) (λt ht=>y5 t (λh=>ht (List.mem_append.2 (.inr h))))
theorem jp(hE:E.Sound){H:Hnd}(hC:H6 E G H.call)(hY:QBP E G H.yield):∀(c:Code),(∀ s∈JB c,Vf E G s (H.loop s))->Vf E G c (exec E H c):=by
 intro c
 induction c with
 | skip=>intro _ st K T Q a w hn h hr hQ;exact wpIn_skip (hQ .normal st a w hn h hr)
 | label l=>intro _ st K T Q a w hn h hr hQ;exact wpIn_label (hQ .normal st a w hn h hr)
 | exit id=>intro _ st K T Q a w hn h hr hQ;exact wpIn_exit (hQ (.exit id) st a w hn h hr)
 | ret=>intro _ st K T Q a w hn h hr hQ;exact wpIn_ret (hQ .ret st a w hn h hr)
 | loop body _=>intro hl;exact hl _ (by simp[JB])
 | rangeFunc g ps as body _ _=>intro hl;exact hl _ (by simp[JB])
 | region id ops draw=>
  intro _ st K T Q a w hn h hr hQ;cases draw with
  | true=>
   simp only[exec]at h;obtain⟨rs,st',hruns,hK⟩:=HS _ _ _ _ h;split at hK
   .rename_i hok;simp only[qbA]at hok;refine QdM hE (List.take_append_drop (YE 0 (Ji [] ops.toList)) ops.toList).symm hn hruns hok.1 hok.2 ?_ hr ?_
    .intro i x hi hx;have hms:(Ji [] ops.toList).length=ops.toList.length:=(H3 (λ_=>True) ops.toList (λ_ _ _ _ _ _ _=>trivial) ops.toList [] [] rfl rfl (by simp)).1
     have hle:=QPH (Ji [] ops.toList) 0;rw[List.length_take]at hi;have:=QG3 (Ji [] ops.toList) 0 i x (by omega) hx
     simpa using this
    .intro a' w' hr';refine GR hE hC hY _ _ _ a' w' (by show G.n<=st.nid+_;omega) hK ?_ λst' a' w' hn' hK hr'=>hQ .normal st' a' w' hn' hK hr'
     exact hr'.nid
   .exact hK.elim
  | false=>
   simp only[exec]at h;exact wpIn_region_list (GR hE hC hY _ st _ a w hn h hr λst' a' w' hn' hK hr'=>hQ .normal st' a' w' hn' hK hr')
 | seq x y ihx ihy=>
  intro hl st K T Q a w hn h hr hQ;refine wpIn_seq ?_;simp only[exec]at h;refine ihx (λb hb=>hl b (by simp[JB,hb])) st _ T _ a w hn h hr ?_
  intro e st' a' w' hn' h' hr';cases e with
  | normal=>exact ihy (λb hb=>hl b (by simp[JB,hb])) st' K T Q a' w' hn' h' hr' hQ
  | exit id=>exact hQ (.exit id) st' a' w' hn' h' hr'
  | ret=>exact hQ .ret st' a' w' hn' h' hr'
 | cond c x y ihx ihy=>
  intro hl st K T Q a w hn h hr hQ;simp only[exec]at h
  have hc:∀ k b,evA st.tm c = .bool k b->a.eval c = .bool b:=λk b he=>by
   obtain⟨r,hI⟩:=hr.1;rw[HI (tm:=st.tm) (r:=r) (λt _=>hI.tm t),he];rfl
  split at h
  .rename_i b he;refine wpIn_cond (hc _ _ he) ?_;cases b with
   | true=>exact ihx (λb hb=>hl b (by simp[JB,hb])) st K T Q a w hn h hr hQ
   | false=>exact ihy (λb hb=>hl b (by simp[JB,hb])) st K T Q a w hn h hr hQ
  .rename_i b he;split at h
   .rename_i f hj;obtain⟨hle,sx,sy,⟨dx,hx⟩,⟨dy,hy⟩,hrep⟩:=QZW hj hr.2;refine wpIn_cond (hc _ _ he) ?_
    have tag : ∀ (s0 : St) e s, (QE.asm (¬ (e = Ex.normal /\ s = s0)) (.fail "")).den T -> e = Ex.normal /\ s = s0 := λs0 e s hd=>Classical.byContradiction λhn=>hd hn
    cases b with
    | true=>
     refine ihx (λb hb=>hl b (by simp [JB, hb])) st (λe s=>.asm (¬ (e = Ex.normal /\ s = sx)) (.fail "")) T Q a w hn (by rw [(QD1 hx _).1]; exact λhne=>hne ⟨rfl, rfl⟩) hr ?_
     intro e s a' w' hn' hd hr';obtain⟨rfl,rfl⟩:=tag _ _ _ hd;obtain⟨g,hg⟩:=hrep G a' w' hr';exact hQ .normal (f g) a' w' (Nat.le_trans hn (hle g)) (h g) hg
    | false=>
     refine ihy (λb hb=>hl b (by simp [JB, hb])) st (λe s=>.asm (¬ (e = Ex.normal /\ s = sy)) (.fail "")) T Q a w hn (by rw [(QD1 hy _).1]; exact λhne=>hne ⟨rfl, rfl⟩) hr ?_
     intro e s a' w' hn' hd hr';obtain⟨rfl,rfl⟩:=tag _ _ _ hd;obtain⟨g,hg⟩:=hrep G a' w' hr';exact hQ .normal (f g) a' w' (Nat.le_trans hn (hle g)) (h g) hg
   refine wpIn_cond (hc _ _ he) ?_;cases b with
   | true=>exact ihx (λb hb=>hl b (by simp[JB,hb])) _ K T Q a w (by rw[QDK];exact hn) (h.1 rfl) (by rw[QDK];exact hr.fix he) hQ
   | false=>exact ihy (λb hb=>hl b (by simp[JB,hb])) _ K T Q a w (by rw[QDK];exact hn) (h.2 rfl) (by rw[QDK];exact hr.fix he) hQ
  .exact h.elim
 | scope body ih=>
  intro hl st K T Q a w hn h hr hQ;refine QZR (ih (λb hb=>hl b (by simp[JB,hb])) st K T _ a w hn h hr ?_)
  intro e st' a' w' hn' h' hr';have:=hQ e st' a' w' hn' h' hr';cases e<;>exact this
 | block id body ih=>
  intro hl st K T Q a w hn h hr hQ;refine wpIn_block ?_;simp only[exec]at h;refine ih (λb hb=>hl b (by simp[JB,hb])) st _ T _ a w hn h hr ?_
  intro e st' a' w' hn' h' hr';cases e with
  | normal=>exact hQ .normal st' a' w' hn' h' hr'
  | exit j=>
   show Exit.inBlock id Q (.exit j) a' w';simp only[Exit.inBlock]
   by_cases hj:j=id
   .subst hj;simp only[beq_self_eq_true]at h';rw[if_pos rfl];exact hQ .normal st' a' w' hn' h' hr'
   .have:(j==id)=false:=by simpa using hj
    simp only[this]at h';rw[if_neg hj];exact hQ (.exit j) st' a' w' hn' h' hr'
  | ret=>exact hQ .ret st' a' w' hn' h' hr'
 | _=>intro _ st K T Q a w hn h hr hQ;exact h.elim
def WO(P:Program)(st:St):List ResultVar->Option (List AV)
 | []=>some []
 | .tmp t::l=>match WO P st l with
  | some vs=>some (QM st.tm t::vs)
  | none=>none
 | .cell p t::l=>match QM st.tm p with
  | .ptr id e j=>match look st.hp id with
   | some b=>match Vs P t e j b with
    | some ⟨true,true,v,_⟩=>match WO P st l with
     | some vs=>some (v::vs)
     | none=>none
    | _=>none
   | none=>none
  | _=>none
def vc:List AV->AV
 | [v]=>v
 | vs => .tup vs
def QB6(tmps:Array Value):ResultVar->Sem Value
 | .tmp t=>pure (tmps.getD t undef)
 | .cell p t=>do loadVar t (<-asAddr (tmps.getD p undef))
theorem QXR(fn:Func)(tmps:Array Value):results fn tmps=(do let vs <-fn.results.mapM (QB6 tmps);pure (if h:vs.size=1 then vs[0]else .tuple vs)):=by
 unfold results;congr 1
theorem QE7{P:Program}{st:St}{a:Act}{w:World}{G:Ctx}{r:Nat->Loc}(hI:Inv G st.tm.length r (QM st.tm) (look st.hp) a w):∀(l:List ResultVar) (vs:List AV),WO P st l=some vs ->
  (l.mapM (QB6 a.tmps)).run P w = .ok (AV.denL r vs) w
 | [],vs,h=>by simp only[WO,qsI]at h;subst h;rfl
 | .tmp t::l,vs,h=>by
  simp only[WO]at h;split at h<;>(try (cases h;done))
  rename_i vs' hv;simp only[qsI]at h;subst h;have:=QE7 hI l vs' hv;rw[List.mapM_cons];simp only[QB6,Sem.run_bind,Sem.run_pure,Result.andThen_ok,this,hI.tm t,AV.denL]
 | .cell p t::l,vs,h=>by
  simp only[WO]at h;split at h<;>(try (cases h;done))
  rename_i id e j hp;split at h<;>(try (cases h;done))
  rename_i b hb;split at h<;>(try (cases h;done))
  rename_i v u hl;split at h<;>(try (cases h;done))
  rename_i vs' hv;simp only[qsI]at h;subst h;have:=QE7 hI l vs' hv;have hload:=(QKs (P:=P) (r:=r) (w:=w) (id:=id) (e:=e) (j:=j) (hI.rep id b hb) hl rfl).1;simp only[AV.den,Instr.loadAt,Instr.sureAddr,Sem.run_bind,Sem.run_pure,Result.andThen_ok]at hload;rw[List.mapM_cons];rw[Sem.run_bind];simp only[QB6,Sem.run_bind,hI.tm p,hp,AV.den,asAddr,Sem.run_pure,Result.andThen_ok,hload,AV.denL];rw[this];rfl
theorem QT5{P:Program}{fn:Func}{vs:List AV}(hI:Inv G st.tm.length r (QM st.tm) (look st.hp) a w)(h:WO P st fn.results.toList=some vs):
  (results fn a.tmps).run P w = .ok ((vc vs).den r) w:=by
 have:=QE7 hI _ vs h;rw[QXR,Sem.run_bind,Array.mapM_eq_mapM_toList,Sem.run_map,this];simp only[Result.andThen_ok,Sem.run_pure];congr 1
 match vs with
 | []=>rfl
 | [v]=>rfl
 | v::u::vs=>simp[vc,AV.den,AV.denL]
def V8(n:Nat):List (Nat×Blk)->List (Nat×Blk)
 | []=>[]
 | (id,b)::h=>(match b with
  | .dfr=>(match decide (n<=id)with|true=>(id,.gone)|false=>(id,b))
  | b=>(id,b))::V8 n h
theorem vN{n:Nat}:∀{h:List (Nat×Blk)} {id:Nat} {b:Blk},look (V8 n h) id=some b->look h id=some b/\(b = .dfr->id<n)
 | (i,c)::h,id,b,e=>by
  simp only[V8]at e
  have key:∀ c':Blk,look ((i,c')::V8 n h) id=some b->(c'=c/\(c = .dfr->i<n))∨c' = .gone->look ((i,c)::h) id=some b/\(b = .dfr->id<n):=by
   intro c' e1 hc;simp only[JD]at e1 ⊢
   by_cases hi:(i==id)=true
   .rw[if_pos hi]at e1 ⊢;rcases hc with ⟨hc1,hc⟩|hc1
    .rw[hc1]at e1;refine⟨e1,λhb=>?_⟩;split at e1
     .simp only[qsI]at e1;have:i=id:=by simpa using hi
      rw[<-this];exact hc (e1.trans hb)
     .cases e1
    .rw[hc1]at e1;simp[Blk.live]at e1
   .rw[if_neg hi]at e1 ⊢;exact vN e1
  split at e
  .split at e
   .exact key _ e (.inr rfl)
   .rename_i hn;exact key _ e (.inl ⟨rfl,λ_=>by have:=qdf hn;omega⟩)
  .rename_i hne;exact key _ e (.inl ⟨rfl,λhd=>absurd hd (by rintro rfl;exact hne rfl)⟩)
def Xc(h:List (Nat×Blk)):Bool:=h.all λp=>match p.2 with
 | .dfr=>false
 | _=>true
def QHe(n:Nat)(h:List (Nat×Blk)):Bool:=h.all λp=>match p.2 with
 | .dfr=>decide (p.1<n)
 | _=>true
theorem QBc(hk:Xc h=true){id:Nat}(hl:look h id=some .dfr):False:=by
 have:=List.all_eq_true.1 hk _ (KR hl);simp at this
theorem QYC(hk:QHe n h=true){id:Nat}(hl:look h id=some .dfr):id<n:=by
 have:=List.all_eq_true.1 hk _ (KR hl);simpa using this
def Wm:List Nat->World->World
 | [],w=>w
 | b::bs,w=>Wm bs (w.putObj b (.deferred none))
theorem QLB{P:Program}{F:Fence}{n:Nat}{fn:Func}{tmps:Array Value}{R:Ending->World->Prop}:∀(bs:List Nat) (w:World),bs.Nodup->(∀ b∈bs,bk w b=some (.deferred (some []))) ->
  (∃ v,(results fn tmps).run P (Wm bs w) = .ok v (Wm bs w)/\R (.returned v) (Wm bs w))->LeavesInM F n P fn tmps R (bs.map Wn) .returning w
 | [],w,_,_,h=>h
 | b::bs,w,hn,ho,h=>by
  rw[List.nodup_cons]at hn;have hb:=ho b (by simp)
  refine⟨by simp,.inl ⟨b,w.putObj b (.deferred none),rfl,run_takeDeferred hb,QLB bs _ hn.2 (λb' hb'=>?_) h⟩⟩
  have hne:b'≠b:=by rintro rfl;exact hn.1 hb'
  have:=ho b' (by simp[hb'])
  unfold bk at this ⊢;rw[World.putObj_heap_other hne];exact this
theorem QQR{r:Nat->Loc}{id:Nat}{b:Blk}(hd:b ≠ .dfr):∀(bs:List Nat) (w:World),bs.Nodup->(∀ x∈bs,bk w x=some (.deferred (some [])))->QR r id w b->QR r id (Wm bs w) b
 | [],w,_,_,h=>h
 | x::bs,w,hn,ho,h=>by
  rw[List.nodup_cons]at hn;have hx:=ho x (by simp)
  have ho':∀ b'∈bs,bk (w.putObj x (.deferred none)) b'=some (.deferred (some [])):=by
   intro b' hb';have hne:b'≠x:=by rintro rfl;exact hn.1 hb'
   have:=ho b' (by simp[hb'])
   unfold bk at this ⊢;rw[World.putObj_heap_other hne];exact this
  refine QQR hd bs _ hn.2 ho' ?_
  have hoth:∀ k,k≠x->bk (w.putObj x (.deferred none)) k=bk w k:=by
   intro k hk;unfold bk;exact World.putObj_heap_other hk
  have key:b.plain=true->(r id).blk≠x->QR r id (w.putObj x (.deferred none)) b:=by
   intro hpl hne;exact h.keep (p:=λ_=>true) (λ_ _=>rfl) rfl (by simp[World.putObj]) (QQv b) (λ_ k hk=>by rw[(VH hpl).1 hk];exact hoth _ hne)
  have rows:∀{l:Loc} {z n:Nat} {get:Nat->List AV},VA w r l z n get->VA (w.putObj x (.deferred none)) r l z n get:=by
   intro l z n get hR;refine⟨hR.1,λi hi=>⟨(hR.2 i hi).1,(hR.2 i hi).2.1,λj v hv=>?_⟩⟩;obtain⟨h1,h2⟩:=(hR.2 i hi).2.2 j v hv;refine⟨h1,?_⟩;rw[<-h2];refine Hv (hoth _ ?_);intro he;unfold bk at hx;rw[World.cell?,he,hx]at h2;cases h2
  cases b with
  | arr z n get=>
   refine⟨h.1,by simpa[World.putObj]using h.2.1,λi hi=>⟨(h.2.2 i hi).1,λj v hv=>?_⟩⟩
   obtain⟨h1,h2⟩:=(h.2.2 i hi).2 j v hv;refine⟨h1,?_⟩;rw[<-h2];refine Hv (hoth _ ?_);intro he;unfold bk at hx;rw[World.cell?,he,hx]at h2;cases h2
  | gone=>trivial
  | dfr=>exact absurd rfl hd
  | cells _ _ _=>exact key rfl (by intro he;have:=h.2.2;rw[he,hx]at this;cases this)
  | rowl _ _ _=>exact key rfl (by intro he;obtain⟨_,_,_,_,_,_,this⟩:=h;rw[he,hx]at this;cases this)
  | cellsR _ _ _=>exact key rfl (by intro he;have:=h.2.2;rw[he,hx]at this;cases this)
  | rowlR _ _ _=>exact key rfl (by intro he;obtain⟨_,_,_,_,_,_,this⟩:=h;rw[he,hx]at this;cases this)
  | lp _ _ _ _ _ _=>exact key rfl (by intro he;obtain⟨_,_,this⟩:=h;rw[he,hx]at this;cases this)
  | mp _ _=>exact key rfl (by intro he;have this:bk w (r id).blk=_:=h;rw[he,hx]at this;cases this)
  | mpf _ _ _ _=>exact key rfl (by intro he;obtain⟨_,_,this,_⟩:=h;rw[he,hx]at this;cases this)
  | frz z n get=>exact⟨h.1,λk hk=>by simpa[World.putObj]using h.2.1 k hk,rows h.2.2⟩
  | rowz o ty z n get=>
   obtain⟨h1,h2,h3,h4,h5,h6⟩:=(show JA r id w ty z.length n (Qk z get)from h);show JA r id _ ty z.length n (Qk z get);refine⟨h1,h2,h3,h4,h5,λhn=>?_⟩;obtain⟨g1,rest,g2,g3⟩:=h6 hn;refine⟨g1,rest,g2,?_⟩;rw[hoth _ (by intro he;rw[he,hx]at g3;cases g3),g3]
  | frz2 o ty z n len get=>
   obtain⟨h1,h2,h3,inner,h4,h5,h6,h7⟩:=h;refine⟨h1,h2,h3,inner,h4,λk hk=>by simpa[World.putObj]using h5 k hk,λi hi=>⟨(h6 i hi).1,(h6 i hi).2.1,rows (h6 i hi).2.2⟩,λhn=>?_⟩
   obtain⟨g1,rest,g2,g3⟩:=h7 hn;refine⟨g1,rest,g2,?_⟩;rw[hoth _ (by intro he;rw[he,hx]at g3;cases g3),g3]
theorem QRL{w0:World}{ch:Nat->Prop}:∀(bs:List Nat) (w:World),(∀ b∈bs,w0.heap.size<=b)->Fr w0 w ch->Fr w0 (Wm bs w) ch
 | [],w,_,h=>h
 | b::bs,w,hb,h=>QRL bs _ (λb' hb'=>hb b' (by simp[hb'])) ⟨h.os,h.tape,h.output,by simpa[World.putObj]using h.size,λk hk hc=>by
   have:=hb b (by simp)
   rw[<-h.block k hk hc];unfold bk;exact World.putObj_heap_other (by omega)⟩
def zq(fn:Func)(args:List AV)(hp:List (Nat×Blk))(nid:Nat):St:=⟨args++List.replicate (fn.ntmps-args.length) (.tup []),hp,nid⟩
def Vm(E:Env)(H:Hnd)(fn:Func)(args:List AV)(hp:List (Nat×Blk))(nid:Nat)(K:AV->List (Nat×Blk)->Nat->QE):QE:=
 match fn.body with
 | some c=>exec E H c (zq fn args hp nid) λe st=>match e with
  | .exit _ => .fail "exit"
  | _=>match WO E.P { st with hp:=V8 nid st.hp } fn.results.toList with
   | some vs=>(match AV.allL (·<st.nid) vs&&(QHe nid st.hp||Xc (V8 nid st.hp))with
    | true=>K (vc vs) (V8 nid st.hp) st.nid
    | false => .fail "scope of a result")
   | none => .fail "result"
 | none => .fail "no body"
def QX1(keep:Bool)(h:List (Nat×Blk)):List (Nat×Blk):=match keep with
 | true=>h
 | false=>[]
def KJ(E:Env)(H:Hnd)(keep:Bool)(fn:Func)(args:List AV)(hp:List (Nat×Blk))(nid:Nat):QE:=
 Vm E H fn args hp nid λv h _=>.leaf v (QX1 keep h)
theorem Gx{p:Nat->Bool}:∀{l:List AV},AV.allL p l=true->∀ v∈l,v.all p=true
 | [],_,_,h=>by cases h
 | x::l,h,v,hv=>by
  simp only[AV.allL,qbA]at h;rcases List.mem_cons.1 hv with rfl|hv
  .exact h.1
  .exact Gx h.2 v hv
theorem Qf2{vs:List AV}(h:AV.allL p vs=true):(vc vs).all p=true:=by
 unfold vc;split
 .simpa[AV.allL]using h
 .exact h
theorem zD(hE:E.Sound){H:Hnd}{f:FuncId}{fn:Func}(hf:E.P.funcs[f]? = some fn)(hb:fn.body=some c)(hl:Q8 E G H c){hp:List (Nat×Blk)}{nid:Nat}{T:AV->List (Nat×Blk)->Prop}{K:AV->List (Nat×Blk)->Nat->QE}(hG:G.n=nid)(hH:Kc G nid r hp w)(hs1:AV.allL (·<nid) args=true)(h:(Vm E H fn args hp nid K).den T)(hrd:G.rd=none:=by rfl):Calls E.P f (AV.denL r args).toArray w λe w'=>∃ v h' nid' r',(K v h' nid').den T/\e = .returned (v.den r')/\G.n<=nid'/\Kc G nid' r' h' w'/\v.all (·<nid')=true:=by
 unfold Vm at h;rw[hb]at h;refine(callsIn_wide (n:=0)).1 (callsIn_of_wp_marks hf hb trivial ?_)
 have hargs:∀ t,(((AV.denL r args).toArray++Array.replicate (fn.ntmps-(AV.denL r args).toArray.size) undef).getD t undef)=(QM (zq fn args hp nid).tm t).den r:=by
  intro t
  have e1:(AV.denL r args).toArray++Array.replicate (fn.ntmps-(AV.denL r args).toArray.size) undef=(AV.denL r (args++List.replicate (fn.ntmps-args.length) (.tup []))).toArray:=by
   apply Array.ext';simp[Q5,AV.den,AV.denL,undef]
  rw[e1];unfold QM zq;rw[Array.getD_eq_getD_getElem?,List.getElem?_toArray,Q5,List.getElem?_map];cases (args++List.replicate (fn.ntmps-args.length) (AV.tup []))[t]? <;> rfl
 have hfw:FW G.rd=Fence.wide:=by rw[hrd];rfl
 rw[<-hfw];refine jp hE hl.call hl.yield c hl.loop (zq fn args hp nid) _ T _ _ w (Nat.le_of_eq hG) h ⟨⟨r,?_⟩,?_⟩ ?_
 .refine⟨?_,Dfr.none rfl,hargs,hH.rep,λid b hb=>YC hb,hH.sep,hH.ext,hH.fr,hH.own⟩;simp[zq,Ks]
 .refine⟨λt=>?_,hH.out,hH.blk⟩;unfold QM zq;cases ht:(args++List.replicate (fn.ntmps-args.length) (AV.tup []))[t]? with
  | none=>simp only[Option.getD_none];rfl
  | some v=>
   simp only[Option.getD_some];rcases List.mem_append.1 (List.mem_of_getElem? ht)with hm|hm
   .exact Gx hs1 v hm
   .rw[List.eq_of_mem_replicate hm];rfl
 .intro e st' a' w' hn' h' hr';obtain⟨⟨r',hI⟩,hS⟩:=hr'
  have key:(match WO E.P { st' with hp:=V8 nid st'.hp } fn.results.toList with
   | some vs=>(match AV.allL (·<st'.nid) vs&&(QHe nid st'.hp||Xc (V8 nid st'.hp))with
    | true=>K (vc vs) (V8 nid st'.hp) st'.nid
    | false => .fail "scope of a result")
   | none => .fail "result" : QE).den T -> LeavesInM (FW G.rd) 0 E.P fn a'.tmps (λe w'=>∃ v h' nid' r', (K v h' nid').den T /\ e = .returned (v.den r') /\ G.n <= nid' /\ Kc G nid' r' h' w' /\ v.all (· < nid') = true) a'.defers .returning w' := by
   intro h';split at h'
   .rename_i vs hres;split at h'
    .rename_i hall;simp only[qbA,qbO]at hall;obtain⟨hall,hnest⟩:=hall;obtain⟨ds,d1,d2,d3⟩:=hI.defers
     have hopen:∀ b∈ds.map (λid=>(r' id).blk),bk w' b=some (.deferred (some [])):=by
      intro b hb;obtain⟨id,hid,rfl⟩:=List.mem_map.1 hb;exact hI.rep id _ (d3 id hid).2.1
     have hnew:∀ b∈ds.map (λid=>(r' id).blk),G.w.heap.size<=b:=by
      intro b hb;obtain⟨id,hid,rfl⟩:=List.mem_map.1 hb;exact(d3 id hid).2.2
     rw[d1,show ds.map (λid=>Wn (r' id).blk)=(ds.map λid=>(r' id).blk).map Wn by rw[List.map_map];rfl]
     refine QLB _ w' d2 hopen ?_
     have hrepd:∀ id b,look (V8 nid st'.hp) id=some b->QR r' id (Wm (ds.map λid=>(r' id).blk) w') b:=by
      intro id b hb;obtain⟨k1,k2⟩:=vN hb
      by_cases hd:b = .dfr
      .subst hd;rcases hnest with hn|hn
       .cases ds with
        | nil=>exact hI.rep id _ k1
        | cons x ds=>
         have hx:=d3 x (by simp)
         have:=QYC hn hx.2.1;omega
       .exact(QBc hn hb).elim
      .exact QQR hd _ w' d2 hopen (hI.rep id b k1)
     have hI':Inv G ({ st' with hp:=V8 nid st'.hp }:St).tm.length r' (QM ({ st' with hp:=V8 nid st'.hp }:St).tm) (look ({ st' with hp:=V8 nid st'.hp }:St).hp) { a' with defers:=[] } (Wm (ds.map λid=>(r' id).blk) w'):=
      ⟨hI.size,Dfr.none rfl,hI.tm,hrepd,λid b hb=>YC hb,λid id' b b' h1 h2=>hI.sep id id' b b' (vN h1).1 (vN h2).1,hI.ext,QRL _ _ hnew hI.fr,λid b h1=>hI.own id b (vN h1).1⟩
     have hS':JJ st'.nid { st' with hp:=V8 nid st'.hp }:=⟨hS.tm,λid b hb=>hS.out id b (vN hb).1,λid b hb=>hS.blk id b (vN hb).1⟩
     exact⟨_,QT5 (a:={ a' with defers:=[] }) (st:={ st' with hp:=V8 nid st'.hp }) hI' hres,_,_,_,r',h',rfl,hn',Rep.hinv hI' hS',Qf2 hall⟩
    .exact h'.elim
   .exact h'.elim
  cases e with
  | normal=>exact key h'
  | exit id=>exact h'.elim
  | ret=>exact key h'
