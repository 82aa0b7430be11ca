/- - -/
import Derived.Test.YtbpffdkemeoajaaMxk
import Derived.RangeFuncLeaves
namespace Go.SX
open Go Go.RowKit Go.Proofs.Ytbpffdkemeoajaa
inductive Ex where
 | normal
 | exit (id:Nat)
 | ret
def Ex.to:Ex→Exit
 | .normal => .normal
 | .exit id => .exit id
 | .ret => .ret
structure Hnd where
 loop:Code→St→(Ex→St→QB)→QB
 call:FuncId→List AV→List (Nat×Blk)→Nat→(AV→List (Nat×Blk)→Nat→QB)→QB
 yield:Nat→List AV→List (Nat×Blk)→Nat→(AV→List (Nat×Blk)→Nat→QB)→QB
def qi(op:Op)(ev:Operand→AV):Option (Nat×List AV):=
 match op with
 | .call ⟨.value f,args,_⟩=>match ev f with
  | .yld id=>some (id,args.toList.map ev)
  | _=>none
 | _=>none
def YR(E:Env)(op:Op)(ev:Operand→AV):Option (FuncId×List AV):=
 match op with
 | .call ⟨.value f,args,_⟩=>match ev f with
  | .fn (.func g) cap=>match E.C g with
   | some _=>none
   | none=>some (g,args.toList.map ev++cap)
  | .mth (.func g) l=>match E.C g with
   | some _=>none
   | none=>some (g,l++args.toList.map ev)
  | _=>none
 | .call ⟨.invoke x name,args,_⟩=>match ev x with
  | .ifc t v=>match E.M t name with
   | some g=>match E.C g with
    | some _=>none
    | none=>some (g,v::args.toList.map ev)
   | none=>none
  | _=>none
 | _=>none
def ZT(h h':List (Nat×Blk)):Bool:=h.all fun p=>match p.2 with
 | .dfr=>(match look h' p.1 with|some .dfr=>true|_=>false)
 | _=>true
variable {h:List (Nat×Blk)}{G:Ctx}{n:Nat}{st:St}{a:Act}{w:World}{b:Bool}{E:Env}{ev:Operand→AV}{g:FuncId}{args:List AV}{r:Nat→Loc}{o:Oper}{p:Nat→Bool}{c:Code}
theorem QK7{h':List (Nat×Blk)}(hk:ZT h h'=true){id:Nat}(hl:look h id=some .dfr):look h' id=some .dfr:=by
 have:=List.all_eq_true.1 hk _ (Q4 hl);simp only at this;split at this
 ·assumption
 ·cases this
def JZ(E:Env)(H:Hnd)(ops:Array Oper):List Oper→St→(St→QB)→QB
 | [],st,K=>K st
 | o::l,st,K=>
  let go:=fun(st:St)=>match VU ops st.tm o with
   | some true=>match YR E o.op (evA st.tm)with
    | some (g,args)=>H.call g args st.hp st.nid fun v hp nid=>match ZT st.hp hp with
     | true=>JZ E H ops l ⟨setO st.tm o.dst v,hp,nid⟩ K
     | false => .fail "deferred"
    | none=>match qi o.op (evA st.tm)with
     | some (id,args)=>H.yield id args st.hp st.nid fun v hp nid=>match ZT st.hp hp with
      | true=>JZ E H ops l ⟨setO st.tm o.dst v,hp,nid⟩ K
      | false => .fail "deferred"
     | none=>ZV E o st.nid st fun rec=>JZ E H ops l { Q2 o rec st with nid:=st.nid+8 } K
   | some false=>JZ E H ops l (Q2 o ⟨.tup [],[],[]⟩ st) K
   | none => .fail "a guard"
  match zH E ops o st.tm with
  | some p=>jl p.n (.bnd p.e fun y=>JZ E H ops l { Q2 o (p.rec_ y) st with nid:=st.nid+8 } K)
  | none=>match qA E ops o st.nid st with
  | some (n,rec)=>jl n (JZ E H ops l { Q2 o rec st with nid:=st.nid+8 } K)
  | none=>match zT ops st.tm o with
   | none=>(match qa E ops st.tm o with
    | none=>go st
    | some (d,k,i,len)=>QDD i len fun m=>go { st with tm:=st.tm.set d (.int true k m) })
   | some (d,b) => .br b (go { st with tm:=ZB st.tm d true }) (go { st with tm:=ZB st.tm d false })
def jT(E:Env)(o:Oper)(nid:Nat)(st:St):Option Rec:=
 match ZF (E.gc && !E.sp) E.P E.C E.M o.op (evA st.tm) nid (jH st.hp)with
 | (ids,g)=>match Ys st.hp ids with
  | none=>none
  | some blks=>match g blks with
   | none=>none
   | some eff=>match eff.upd,WX nid ids st.hp eff,eff.known,eff.pre with
    | [],true,true,true=>some ⟨eff.val,[],ids⟩
    | _,_,_,_=>none
def ZU(E:Env)(ops:Array Oper):List Oper→St→Option St
 | [],st=>some st
 | o::l,st=>match o.guard,zH E ops o st.tm,zT ops st.tm o,YR E o.op (evA st.tm),qi o.op (evA st.tm),E.bi o.op||E.fk with
  | none,none,none,none,none,false=>match jT E o st.nid st with
   | some rec=>ZU E ops l { Q2 o rec st with nid:=st.nid+8 }
   | none=>none
  | _,_,_,_,_,_=>none
def ZK(E:Env)(st:St):Code→Option (List Nat×St)
 | .skip=>some ([],st)
 | .region _ ops false=>match ZU E ops ops.toList st with
  | some st'=>some (ops.toList.filterMap (·.dst),st')
  | none=>none
 | _=>none
def qw(b:Bool):AV→AV→Option AV
 | .int _ k n,.int _ k' m=>(match k==k' with|true=>some (.int false k (cond b n m))|false=>none)
 | .bool _ p,.bool _ q=>some (.bool false (cond b p q))
 | v,.tup []=>some (.opt b v)
 | .tup [],v=>some (.opt (!b) v)
 | _,_=>none
def YC(b:Bool)(g:Nat→Value)(tx ty:List AV):List Nat→List AV→List AV
 | [],tm=>tm
 | d::l,tm=>YC b g tx ty l (tm.set d (match qw b (QG tx d) (QG ty d)with|some v=>v|none => .raw (g d)))
def QCK(E:Env)(b:Bool)(x y:Code)(st:St):Option ((Nat→Value)→St):=match E.jn with
 | false=>none
 | true=>match ZK E st x,ZK E st y with
  | some (dx,sx),some (dy,sy)=>some fun g=>⟨YC b g sx.tm sy.tm (dx++dy) st.tm,st.hp,sx.nid+sy.nid⟩
  | _,_=>none
def W9(c:Operand)(b:Bool)(st:St):St:=match c with
 | .tmp d=>{ st with tm:=ZB st.tm d b }
 | _=>st
def exec(E:Env)(H:Hnd):Code→St→(Ex→St→QB)→QB
 | .skip,st,K=>K .normal st
 | .label _,st,K=>K .normal st
 | .region _ ops draw,st,K=>
  match draw with
  | true=>YO E ops st.nid 0 (ops.toList.take (Vm 0 (Ko [] ops.toList))) st fun rs st'=>
   (match QDX ops st.nid (ops.toList.take (Vm 0 (Ko [] ops.toList))) rs&&ZH ops.toList with
   | true=>JZ E H ops (ops.toList.drop (Vm 0 (Ko [] ops.toList))) { st' with nid:=st.nid+8*(ops.toList.take (Vm 0 (Ko [] ops.toList))).length } fun st''=>K .normal st''
   | false => .fail "order")
  | false=>JZ E H ops ops.toList st fun st'=>K .normal st'
 | .seq a b,st,K=>exec E H a st fun e st'=>match e with
  | .normal=>exec E H b st' K
  | .exit id=>K (.exit id) st'
  | .ret=>K .ret st'
 | .cond c x y,st,K=>match evA st.tm c with
  | .bool true b=>(match b with|true=>exec E H x st K|false=>exec E H y st K)
  | .bool false b=>match QCK E b x y st with
   | some f => .all fun g=>K .normal (f g)
   | none => .br b (exec E H x (W9 c true st) K) (exec E H y (W9 c false st) K)
  | _ => .fail "cond"
 | .block id body,st,K=>exec E H body st fun e st'=>match e with
  | .normal=>K .normal st'
  | .exit j=>(match j==id with|true=>K .normal st'|false=>K (.exit j) st')
  | .ret=>K .ret st'
 | .loop body,st,K=>H.loop (.loop body) st K
 | .rangeFunc g ps as body,st,K=>H.loop (.rangeFunc g ps as body) st K
 | .scope body,st,K=>exec E H body st K
 | .exit id,st,K=>K (.exit id) st
 | .ret,st,K=>K .ret st
 | _, _, _ => .fail "code"
def Kg:Code→List Code
 | .seq a b=>Kg a++Kg b
 | .cond _ a b=>Kg a++Kg b
 | .block _ a=>Kg a
 | .scope a=>Kg a
 | .loop body=>[.loop body]
 | .rangeFunc g ps as body=>[.rangeFunc g ps as body]
 | _=>[]
def JJ(E:Env)(G:Ctx)(c:Code)(H:St→(Ex→St→QB)→QB):Prop:=
 ∀(st:St) (K:Ex→St→QB) (T:AV→List (Nat×Blk)→Prop) (Q:Exit→Act→World→Prop) (a:Act) (w:World),G.n≤st.nid→(H st K).den T→Rep G st.nid st a w →
  (∀ e st' a' w',G.n≤st'.nid→(K e st').den T→Rep G st'.nid st' a' w'→Q e.to a' w')→c.wpIn (FW G.rd) 0 E.P Q a w
structure Q9 (G:Ctx) (n:Nat) (r:Nat→Loc) (hp:List (Nat×Blk)) (w:World):Prop where
 rep:∀ id b,look hp id=some b→QH r id w b
 sep:∀ id id' b b',look hp id=some b→look hp id'=some b'→id≠id'→b.own=true→∀ k,QW r id b k→¬ QW r id' b' k
 ext:∀ id,id<G.n→r id=G.r id
 fr:Fr G.w w G.ch
 own:∀ id b,look hp id=some b→b.own=true→∀ k,QW r id b k→G.ch k∨G.w.heap.size≤k
 out:∀ id b,look hp id=some b→id<n
 blk:∀ id b,look hp id=some b→b.all (·<n)=true
def jm(E:Env)(G:Ctx)(call:FuncId→List AV→List (Nat×Blk)→Nat→(AV→List (Nat×Blk)→Nat→QB)→QB):Prop:=
 ∀(g:FuncId) (args:List AV) (hp:List (Nat×Blk)) (nid:Nat) (K:AV→List (Nat×Blk)→Nat→QB) (T:AV→List (Nat×Blk)→Prop) (r:Nat→Loc) (w:World),G.n≤nid→Q9 G nid r hp w→AV.allL (·<nid) args=true →
  (call g args hp nid K).den T→JM E.P g=true∧Calls E.P g (AV.denL r args).toArray w fun e w'=>∃ v hp' nid' r',(K v hp' nid').den T∧e = .returned (v.den r')∧nid≤nid'∧(∀ id,id<nid→r' id=r id)∧Q9 G nid' r' hp' w'∧v.all (·<nid')=true
def G7(E:Env)(G:Ctx)(yield:Nat→List AV→List (Nat×Blk)→Nat→(AV→List (Nat×Blk)→Nat→QB)→QB):Prop:=
 ∀(id:Nat) (args:List AV) (hp:List (Nat×Blk)) (nid:Nat) (K:AV→List (Nat×Blk)→Nat→QB) (T:AV→List (Nat×Blk)→Prop) (r:Nat→Loc) (w:World),G.n≤nid→Q9 G nid r hp w→AV.allL (·<nid) args=true →
  (yield id args hp nid K).den T→∃ rec,bk w (r id).blk=some (.loop rec)∧args.length=rec.params.size ∧
   RoundIn Fence.wide 0 E.P (r id).blk rec.fn ((rec.params.zip (AV.denL r args).toArray).foldl (fun tmps (t,v)=>tmps.setIfInBounds t v) rec.tmps) rec.assign rec.body w fun e w'=>
    ∃ u,e = .returned u∧∃ v hp' nid' r',(K v hp' nid').den T∧u=v.den r'∧nid≤nid'∧(∀ id,id<nid→r' id=r id)∧Q9 G nid' r' hp' w'∧v.all (·<nid')=true
structure Q5 (E:Env) (G:Ctx) (H:Hnd) (c:Code):Prop where
 loop:∀ s∈Kg c,JJ E G s (H.loop s)
 call:jm E G H.call
 yield:G7 E G H.yield
theorem Rep.fix{c:Operand}{k:Bool}(h:Rep G n st a w)(he:evA st.tm c = .bool k b):Rep G n (W9 c b st) a w:=by
 unfold W9;split
 ·rename_i d;have hq:=vP (tm:=st.tm) (d:=d) he b rfl;exact⟨h.1.imp fun r hI=>Inv.eqv (st:=st) hq hI,h.2.eqv hq⟩
 ·exact h
theorem QAW(c:Operand)(b:Bool)(st:St):(W9 c b st).nid=st.nid:=by unfold W9;split<;>rfl
theorem Rep.nid{G:Ctx}{n:Nat}{st:St}{a:Act}{w:World}{m:Nat}(h:Rep G n st a w):Rep G n { st with nid:=m } a w:=⟨h.1,⟨h.2.tm,h.2.out,h.2.blk⟩⟩
theorem QS2{o:Oper}(h:YR E o.op ev=some (g,args))(hM:zS E.P E.M)(hgo:JM E.P g=true)(hρ:∀ x∈o.op.operands,a.eval x=(ev x).den r)(w:World):
  (execOp a.eval o).run E.P w = .ok (.enter g (AV.denL r args).toArray) w:=by
 unfold YR at h;split at h<;>(try (cases h;done))<;>rename_i ho
 ·rename_i f as ts;have hf:=hρ f (by rw[ho];simp[Op.operands,Call.operands])
  split at h<;>(try (cases h;done))
  ·rename_i g' cap hef;split at h<;>(try (cases h;done))
   simp only[qsI,qpI]at h;obtain⟨rfl,rfl⟩:=h;unfold execOp;simp only[ho];have ha:=XD (r:=r) (ρ:=a.eval) (ev:=ev) (xs:=as) (fun x hx=>hρ x (by rw[ho];simp[Op.operands,Call.operands];exact .inr (by simpa using hx)))
   simp only[resolve,hf,hef,AV.den,Deferred.ofValue,Sem.run_bind,Sem.run_pure,Result.andThen_ok,invoke,ha];rw[YU];simpa using ZP hgo _ w
  ·rename_i g' l hef;split at h<;>(try (cases h;done))
   simp only[qsI,qpI]at h;obtain⟨rfl,rfl⟩:=h;unfold execOp;simp only[ho];have ha:=XD (r:=r) (ρ:=a.eval) (ev:=ev) (xs:=as) (fun x hx=>hρ x (by rw[ho];simp[Op.operands,Call.operands];exact .inr (by simpa using hx)))
   simp only[resolve,hf,hef,AV.den,Deferred.ofValue,Sem.run_bind,Sem.run_pure,Result.andThen_ok,invoke,ha];rw[YU];simpa using ZP hgo _ w
 ·rename_i x name as ts;have hx:=hρ x (by rw[ho];simp[Op.operands,Call.operands])
  split at h<;>(try (cases h;done))
  rename_i t v hex;split at h<;>(try (cases h;done))
  rename_i g' hm;split at h<;>(try (cases h;done))
  simp only[qsI,qpI]at h;obtain⟨rfl,rfl⟩:=h;unfold execOp;simp only[ho];have ha:=XD (r:=r) (ρ:=a.eval) (ev:=ev) (xs:=as) (fun x hx=>hρ x (by rw[ho];simp[Op.operands,Call.operands];exact .inr (by simpa using hx)))
  have hmm:=hM t name g' hm (v.den r) w;simp[resolve,invoke,callMethod,ha,hx,hex,AV.den,hmm,AV.denL];simpa using ZP hgo _ w
theorem QVC(h:YR E o.op ev=some (g,args)):∀ c,o.op ≠ .defer c:=by
 intro c hc;rw[hc]at h;simp[YR]at h
theorem QUG(h:YR E o.op ev=some (g,args))(hs:∀ x,(ev x).all p=true):AV.allL p args=true:=by
 unfold YR at h;split at h<;>(try (cases h;done))
 ·rename_i f as ts _;have hf:=hs f;split at h<;>(try (cases h;done))
  ·rename_i g' cap hef;rw[hef]at hf;split at h<;>(try (cases h;done))
   simp only[qsI,qpI]at h;obtain⟨rfl,rfl⟩:=h;rw[Zj,Xx (fun x _=>hs x)];exact hf
  ·rename_i g' l hef;rw[hef]at hf;split at h<;>(try (cases h;done))
   simp only[qsI,qpI]at h;obtain⟨rfl,rfl⟩:=h;rw[Zj,Xx (fun x _=>hs x),Bool.and_true];exact hf
 ·rename_i x name as ts _;have hx:=hs x;split at h<;>(try (cases h;done))
  rename_i t v hex;rw[hex]at hx;split at h<;>(try (cases h;done))
  split at h<;>(try (cases h;done))
  simp only[qsI,qpI]at h;obtain⟨rfl,rfl⟩:=h;simp only[AV.allL,Xx (fun x _=>hs x),Bool.and_true];exact hx
theorem Rep.hinv(hI:Inv G st.tm.length r (QG st.tm) (look st.hp) a w)(hS:Kc n st):Q9 G n r st.hp w:=
 ⟨hI.rep,hI.sep,hI.ext,hI.fr,hI.own,hS.out,hS.blk⟩
theorem QRB{o:Oper}{id:Nat}(h:qi o.op ev=some (id,args))(hρ:∀ x∈o.op.operands,a.eval x=(ev x).den r)(hs:∀ x,(ev x).all p=true){K:Act→World→Prop}{Q:Exit→Act→World→Prop}{R:Value→World→Prop}{rd:Option Nat}{rec:Loop}(hb:bk w (r id).blk=some (.loop rec))(hsz:args.length=rec.params.size)(hr:RoundIn Fence.wide 0 E.P (r id).blk rec.fn ((rec.params.zip (AV.denL r args).toArray).foldl (fun tmps (t,v)=>tmps.setIfInBounds t v) rec.tmps) rec.assign rec.body w fun e w'=>∃ v,e = .returned v∧R v w')(k:∀ v w',R v w'→K (a.put o.dst v) w'):o.wpIn (FW rd) 0 E.P a w K Q∧AV.allL p args=true:=by
 unfold qi at h;split at h<;>(try (cases h;done))
 rename_i f as ts ho;have hf:=hρ f (by rw[ho];simp[Op.operands,Call.operands])
 split at h<;>(try (cases h;done))
 rename_i id' hef;simp only[qsI,qpI]at h;obtain⟨rfl,rfl⟩:=h;have ha:=XD (r:=r) (ρ:=a.eval) (ev:=ev) (xs:=as) (fun x hx=>hρ x (by rw[ho];simp[Op.operands,Call.operands];exact .inr (by simpa using hx)))
 refine⟨QU6 ho (by rw[hf,hef];rfl) hb (by simpa using hsz) ?_ k,Xx (fun x _=>hs x)⟩
 rw[ha];exact hr
theorem qD{E:Env}(hE:E.Sound){H:Hnd}{G:Ctx}(hC:jm E G H.call)(hY:G7 E G H.yield){ops:Array Oper}{Q:Exit→Act→World→Prop}{T:AV→List (Nat×Blk)→Prop}:∀(l:List Oper) (st:St) (K:St→QB) (a:Act) (w:World),G.n≤st.nid→(JZ E H ops l st K).den T→Rep G st.nid st a w →
  (∀ st' a' w',G.n≤st'.nid→(K st').den T→Rep G st'.nid st' a' w'→Q .normal a' w')→wpListIn (FW G.rd) 0 E.P ops Q l a w
 | [],st,K,a,w,hn,h,hr,hQ=>hQ st a w hn h hr
 | o::l,st,K,a,w,hn,h,hr,hQ=>by
  have go:∀ tm,Eqv st.tm tm→(match VU ops tm o with
   | some true=>match YR E o.op (evA tm)with
    | some (g,args)=>H.call g args st.hp st.nid fun v hp nid=>match ZT st.hp hp with
     | true=>JZ E H ops l ⟨setO tm o.dst v,hp,nid⟩ K
     | false => .fail "deferred"
    | none=>match qi o.op (evA tm)with
     | some (id,args)=>H.yield id args st.hp st.nid fun v hp nid=>match ZT st.hp hp with
      | true=>JZ E H ops l ⟨setO tm o.dst v,hp,nid⟩ K
      | false => .fail "deferred"
     | none=>ZV E o st.nid { st with tm:=tm } fun rec=>JZ E H ops l { Q2 o rec { st with tm:=tm }with nid:=st.nid+8 } K
   | some false=>JZ E H ops l (Q2 o ⟨.tup [],[],[]⟩ { st with tm:=tm }) K
   | none => .fail "a guard" : QB).den T → wpListIn (FW G.rd) 0 E.P ops Q (o :: l) a w := by
   intro tm he h;obtain⟨⟨r,hI⟩,hS⟩:=hr;have hI:=hI.eqv he;have hS:=hS.eqv he;have hf:=hS.free (qlr _);have hev:∀ x∈o.op.operands,a.eval x=(evA tm x).den r:=fun x _=>zD fun t _=>hI.tm t
   have behind:∀ v hp' nid' r' w',(match ZT st.hp hp' with
     | true=>JZ E H ops l ⟨setO tm o.dst v,hp',nid'⟩ K
     | false => .fail "deferred" : QB).den T → st.nid ≤ nid' → (∀ id, id < st.nid → r' id = r id) → Q9 G nid' r' hp' w' → v.all (· < nid') = true → wpListIn (FW G.rd) 0 E.P ops Q l (a.put o.dst (v.den r')) w' := by
    intro v hp' nid' r' w' hK hle hrr hH hv;split at hK<;>(try (exact hK.elim))
    rename_i hkd;refine qD hE hC hY l ⟨setO tm o.dst v,hp',nid'⟩ K _ w' (Nat.le_trans hn hle) hK ⟨⟨r',?_⟩,?_⟩ hQ
    ·refine⟨by rw[Act.put_size,hI.size,vH],hI.defers.to (Act.put_defers _ _ _) (fun id _ hid=>⟨QK7 hkd hid,hrr id (hS.out id _ hid)⟩),fun t => ?_,hH.rep,fun id b hb=>Vv hb,hH.sep,hH.ext,hH.fr,hH.own⟩
     rw[Act.getD_put,hI.size,Xq];split
     ·rfl
     ·rw[hI.tm t];exact JY (p:=(·<st.nid)) (fun id hid=>(hrr id (by simpa using hid)).symm) _ (hS.tm t)
    ·refine⟨fun t => ?_,hH.out,hH.blk⟩;simp only[Xq];split
     ·exact hv
     ·exact all_mono (Vr hle) _ (hS.tm t)
   split at h
   ·rename_i hg;have hw:=jq (a:=a) (r:=r) hg (fun t _=>hI.tm t);unfold wpListIn;rw[if_pos hw];split at h
    ·rename_i g args hc;have hall:AV.allL (·<st.nid) args=true:=QUG hc (fun x=>WV hS.tm);obtain⟨hgo,hcalls⟩:=hC g args st.hp st.nid _ T r w hn (Rep.hinv (st:={ st with tm:=tm }) hI hS) hall h
     refine vM ?_ (QVC hc);refine vt (QS2 hc hE.m hgo hev w) (hcalls.mono ?_);rintro e w' ⟨v,hp',nid',r',hK,rfl,hle,hrr,hH,hv⟩;exact⟨_,rfl,behind v hp' nid' r' w' hK hle hrr hH hv⟩
    ·rename_i hcn;split at h
     ·rename_i id args hc
      have hall:AV.allL (·<st.nid) args=true:=by
       unfold qi at hc;split at hc<;>(try (cases hc;done))
       split at hc<;>(try (cases hc;done))
       simp only[qsI,qpI]at hc;obtain⟨rfl,rfl⟩:=hc;exact Xx (fun x _=>WV hS.tm)
      obtain⟨rec,hb,hsz,hro⟩:=hY id args st.hp st.nid _ T r w hn (Rep.hinv (st:={ st with tm:=tm }) hI hS) hall h
      refine(QRB (E:=E) (p:=fun _=>true) hc hev (fun _=>jE _) hb hsz hro ?_).1;rintro u w' ⟨v,hp',nid',r',hK,rfl,hle,hrr,hH,hv⟩;exact behind v hp' nid' r' w' hK hle hrr hH hv
     obtain⟨rec,hran,hK⟩:=QMO h;obtain⟨_,g,blks,eff,hV,hb,hgb,hp,_,h1,h2⟩:=hran.ran;refine vM ?_ hran.noDefer;refine QAA hE.c hE.m (r:=r) (hI.hok hf) hV (zU hb) hgb hp hev (fun x _=>WV hf.tm) ?_;intro r' w' hpost;refine qD hE hC hY l _ K _ w' (by show G.n≤st.nid+8;omega) hK ⟨⟨r',?_⟩,qU (hran.scopedAt hS) rfl rfl⟩ hQ
     show Inv G (Q2 o rec { st with tm:=tm }).tm.length r' (QG (Q2 o rec { st with tm:=tm }).tm) (look (Q2 o rec { st with tm:=tm }).hp) _ w'
     rw[QD9,QDd,Vx,h1,h2];refine hI.step hf hn hpost ?_;intro p hp hin;rcases hran.ok.2 p (by rw[h2];exact hp)with h3|⟨_,b,hb,ho⟩
     ·rw[hin]at h3;cases h3
     ·exact⟨b,hb,ho⟩
   ·rename_i hg;have hw:=jq (a:=a) (r:=r) hg (fun t _=>hI.tm t);unfold wpListIn;rw[if_neg (by rw[hw];decide)]
    refine⟨fun _ _=>trivial,?_⟩;refine qD hE hC hY l (Q2 o ⟨.tup [],[],[]⟩ { st with tm:=tm }) K _ w hn h ⟨⟨r,?_⟩,hS.skip (qlr _)⟩ hQ
    rw[QD9,QDd,Vx];exact hI.step (v := .tup []) hf hn (Qj.id _ r _ w) (by simp)
   ·exact h.elim
  have spec:∀(g:Bool) (v:AV) (ids:List Nat),Y3 E ops o st.nid st g v ids→(JZ E H ops l { Q2 o ⟨v,[],ids⟩ st with nid:=st.nid+8 } K).den T→wpListIn (FW G.rd) 0 E.P ops Q (o::l) a w:=by
   intro g v ids hsp h;obtain⟨⟨r,hI⟩,hS⟩:=hr;have hf:=hS.free (qlr _);have hev:∀ x∈o.op.operands,a.eval x=(evA st.tm x).den r:=fun x _=>zD fun t _=>hI.tm t;have hw:=hsp.gd a r (fun t _=>hI.tm t);have hsc:Kc (st.nid+8) (Q2 o ⟨v,[],ids⟩ st):=hS.apply (by omega) ⟨hsp.sc,by simp⟩ (by simp)
   have behind:∀ r' w',Qj (look st.hp) r st.nid [] w r' w'→wpListIn (FW G.rd) 0 E.P ops Q l (a.put o.dst (v.den r')) w':=by
    intro r' w' hpost;refine qD hE hC hY l _ K _ w' (by show G.n≤st.nid+8;omega) h ⟨⟨r',?_⟩,qU hsc rfl rfl⟩ hQ
    show Inv G (Q2 o ⟨v,[],ids⟩ st).tm.length r' (QG (Q2 o ⟨v,[],ids⟩ st).tm) (look (Q2 o ⟨v,[],ids⟩ st).hp) _ w';rw[QD9,QDd,Vx];exact hI.step hf hn hpost (by simp)
   unfold wpListIn;cases g with
   | false=>
    rw[if_neg (by rw[hw];decide)]
    refine⟨fun _ _=>trivial,?_⟩;have:=behind r w (Qj.id _ r _ w);rw[hsp.off rfl r]at this;exact this
   | true=>
    rw[if_pos hw];obtain⟨tm',v',_,hden,hall,hran,hv⟩:=hsp.run rfl;refine vM ?_ hran.noDefer;obtain⟨_,gg,blks,eff,hV,hb,hgb,hp,_,e1,e2⟩:=hran.ran;refine QAA hE.c hE.m (r:=r) (hI.hok hf) hV (zU hb) hgb hp (fun x hx=>(hev x hx).trans (hden x hx r).symm) (fun x _=>WV fun t=>hall t _ (hf.tm t)) ?_;intro r' w' hpost;rw[←e2]at hpost;have:=behind r' w' hpost;have ev:v.den r'=eff.val.den r':=by rw[←hv r',←e1]
    rw[ev]at this;exact this
  simp only[JZ]at h;split at h
  ·rename_i p hs;obtain⟨hb,h⟩:=Hu h;exact spec _ _ _ (QEV (n:=st.nid) hs hb) (h _ rfl)
  split at h
  ·rename_i m rec hs;obtain⟨hb,h⟩:=Hu h;obtain⟨g,he,hsp⟩:=QEn hs hb;rw[he]at h;exact spec _ _ _ hsp h
  split at h
  ·split at h
   ·exact go st.tm (Eqv.refl _) h
   ·rename_i d k' i len ha;obtain⟨m,e,h⟩:=QGK h;exact go _ (QIw (QIn ha) m e) h
  ·rename_i d b ha;have hs:=QFg ha;cases hb:b with
   | true=>exact go _ (vP hs true hb) (h.1 hb)
   | false=>exact go _ (vP hs false hb) (h.2 hb)
theorem QJy{rec:Rec}(h:jT E o st.nid st=some rec)(hb:E.bi o.op=false)(K:Rec→QB):ZV E o st.nid st K=K rec∧rec.upd=[]:=by
 unfold jT at h;unfold ZV;split at h;rename_i ids g hV;split at h<;>(try (cases h;done))
 rename_i blks hbl;split at h<;>(try (cases h;done))
 rename_i eff he;split at h<;>(try (cases h;done))
 rename_i h1 h2 h3 h4;simp only[qsI]at h;subst h;simp only[hV,hbl,he,h2,if_true,h3,h4,QD0,hb,GU,h1,and_self,Wk QAi]
theorem QEW{E:Env}{H:Hnd}{ops:Array Oper}:∀(l:List Oper) (st st':St) (K:St→QB),ZU E ops l st=some st'→JZ E H ops l st K=K st'∧st'.hp=st.hp∧st'.tm.length=st.tm.length∧st.nid≤st'.nid∧∀ t,t ∉ l.filterMap (·.dst)→QG st'.tm t=QG st.tm t
 | [],st,st',K,h=>by
  simp only[ZU,qsI]at h;subst h;exact⟨rfl,rfl,rfl,qlr _,fun _ _=>rfl⟩
 | o::l,st,st',K,h=>by
  simp only[ZU]at h;split at h<;>(try (cases h;done))
  rename_i hg hp ha hc hy hb;rw[Bool.or_eq_false_iff]at hb;obtain⟨hb,hfk⟩:=hb;split at h<;>(try (cases h;done))
  rename_i rec hr;have hai:qa E ops st.tm o=none:=by unfold qa;rw[hfk]
  obtain⟨i1,i2,i3,i4,i5⟩:=QEW (H:=H) l _ st' K h
  have hup := (QJy hr hb fun _ => .fail "").2
  refine⟨?_,?_,by rw[i3];exact Vx _ _ _,Nat.le_trans (Nat.le_add_right _ _) i4,fun t ht => ?_⟩
  ·have hgv:VU ops st.tm o=some true:=by unfold VU;rw[hg]
   have hgb:WA ops st.tm o=none:=by unfold WA;rw[hg]
   have hs:qA E ops o st.nid st=none:=by unfold qA;rw[hgb];cases E.sp<;>rfl
   simp only[JZ,hp,hs,ha,hgv,hc,hy,hai];rw[(QJy hr hb _).1];exact i1
  ·rw[i2];show(Q2 o rec st).hp=_;unfold Q2;rw[hup];rfl
  ·have h1:o.dst≠some t:=fun e=>ht (by rw[List.filterMap_cons,e];exact List.mem_cons_self)
   have h2:t ∉ l.filterMap (·.dst):=fun e=>ht (by
    rw[List.filterMap_cons];split
    ·exact e
    ·exact List.mem_cons_of_mem _ e)
   rw[i5 t h2];show QG (Q2 o rec st).tm t=_;unfold Q2;rw[Xq,if_neg (fun e=>h1 e.1)]
theorem Gq{H:Hnd}{st':St}{ds:List Nat}(h:ZK E st c=some (ds,st'))(K:Ex→St→QB):exec E H c st K=K .normal st'∧st'.hp=st.hp∧st'.tm.length=st.tm.length∧st.nid≤st'.nid∧∀ t,t ∉ ds→QG st'.tm t=QG st.tm t:=by
 unfold ZK at h;split at h
 ·simp only[qsI,qpI]at h;obtain⟨rfl,rfl⟩:=h;exact⟨rfl,rfl,rfl,qlr _,fun _ _=>rfl⟩
 ·split at h<;>(try (cases h;done))
  rename_i hs;simp only[qsI,qpI]at h;obtain⟨rfl,rfl⟩:=h;obtain⟨i1,i2⟩:=QEW (H:=H) _ st _ (fun st'=>K .normal st') hs;exact⟨by simp only[exec];exact i1,i2⟩
 ·cases h
theorem QIL{v w u:AV}(h:qw b v w=some u):(∀ r,u.den r=(match b with|true=>v|false=>w).den r)∧∀ p,v.all p=true→w.all p=true→u.all p=true:=by
 unfold qw at h;split at h
 ·split at h<;>(try (cases h;done))
  rename_i hk;simp only[qsI]at h;subst h;have hk:=eq_of_beq hk;subst hk;exact⟨fun r=>by cases b<;>rfl,fun _ _ _=>rfl⟩
 ·simp only[qsI]at h;subst h;exact⟨fun r=>by cases b<;>rfl,fun _ _ _=>rfl⟩
 ·simp only[qsI]at h;subst h;exact⟨fun r=>by cases b<;>rfl,fun _ hv _=>hv⟩
 ·simp only[qsI]at h;subst h;exact⟨fun r=>by cases b<;>rfl,fun _ _ hw=>hw⟩
 ·cases h
theorem QLF{b:Bool}{g:Nat→Value}{tx ty:List AV}:∀(l:List Nat) (tm:List AV),(YC b g tx ty l tm).length=tm.length∧∀ t,QG (YC b g tx ty l tm) t=QG tm t∧t ∉ l ∨
  (t<tm.length∧(qw b (QG tx t) (QG ty t)=some (QG (YC b g tx ty l tm) t)∨QG (YC b g tx ty l tm) t = .raw (g t)))∨(QG (YC b g tx ty l tm) t=QG tm t∧tm.length≤t)
 | [],tm=>⟨rfl,fun t => .inl ⟨rfl,by simp⟩⟩
 | d::l,tm=>by
  obtain⟨h1,h2⟩:=QLF (b:=b) (g:=g) (tx:=tx) (ty:=ty) l (tm.set d (match qw b (QG tx d) (QG ty d)with|some v=>v|none => .raw (g d)))
  simp only[YC];rw[List.length_set]at h1 h2;refine⟨h1,fun t => ?_⟩;rcases h2 t with ⟨e,hn⟩|h3|⟨e,hn⟩
  ·rw[j4]at e
   by_cases hd:d=t∧d<tm.length
   ·rw[if_pos hd]at e;obtain⟨rfl,hlt⟩:=hd;refine .inr (.inl ⟨hlt,?_⟩);cases hv:qw b (QG tx d) (QG ty d)with
    | some v=>rw[hv]at e;exact .inl (by rw[e])
    | none=>rw[hv]at e;exact .inr e
   ·rw[if_neg hd]at e
    by_cases hdt:d=t
    ·exact .inr (.inr ⟨e,by subst hdt;simp only[true_and]at hd;omega⟩)
    ·exact .inl ⟨e,by simp only[List.mem_cons,not_or];exact⟨fun h=>hdt h.symm,hn⟩⟩
  ·exact .inr (.inl h3)
  ·rw[j4,if_neg (by omega)]at e
   exact .inr (.inr ⟨e,hn⟩)
theorem QNx{rec:Rec}(h:jT E o n st=some rec):rec.val.all (·<n+8)=true∧rec.upd=[]:=by
 unfold jT at h;split at h;split at h<;>(try (cases h;done))
 split at h<;>(try (cases h;done))
 split at h<;>(try (cases h;done))
 rename_i h1 h2 h3 h4;simp only[qsI]at h;subst h;unfold WX at h2;simp only[qbA]at h2;exact⟨h2.1,rfl⟩
theorem QIq{E:Env}{ops:Array Oper}:∀(l:List Oper) (st st':St),Kc st.nid st→ZU E ops l st=some st'→Kc st'.nid st'
 | [],st,st',hS,h=>by
  simp only[ZU,qsI]at h;subst h;exact hS
 | o::l,st,st',hS,h=>by
  simp only[ZU]at h;split at h<;>(try (cases h;done))
  split at h<;>(try (cases h;done))
  rename_i rec hr;obtain⟨h1,h2⟩:=QNx hr;refine QIq l _ st' ?_ h;exact qU (hS.apply (nid:=st.nid) (o:=o) (rec:=rec) (by omega) ⟨h1,by rw[h2];simp⟩ (by rw[h2];simp)) rfl rfl
theorem QJ3{st':St}{ds:List Nat}(hS:Kc st.nid st)(h:ZK E st c=some (ds,st')):Kc st'.nid st':=by
 unfold ZK at h;split at h
 ·simp only[qsI,qpI]at h;obtain⟨_,rfl⟩:=h;exact hS
 ·split at h<;>(try (cases h;done))
  rename_i hs;simp only[qsI,qpI]at h;obtain⟨_,rfl⟩:=h;exact QIq _ _ _ hS hs
 ·cases h
theorem QD1{l:List AV}{t:Nat}(hl:l.length≤t):QG l t = .tup []:=by
 unfold QG;rw[List.getElem?_eq_none hl];rfl
theorem QVE{x y:Code}{f:(Nat→Value)→St}(h:QCK E b x y st=some f)(hS:Kc st.nid st):(∀ g,st.nid≤(f g).nid)∧∃ sx sy,(∃ dx,ZK E st x=some (dx,sx))∧(∃ dy,ZK E st y=some (dy,sy)) ∧
  ∀(G:Ctx) (a:Act) (w:World),Rep G (match b with|true=>sx|false=>sy).nid (match b with|true=>sx|false=>sy) a w→∃ g,Rep G (f g).nid (f g) a w:=by
 unfold QCK at h;split at h<;>(try (cases h;done))
 split at h<;>(try (cases h;done))
 rename_i dx sx dy sy hx hy;simp only[qsI]at h;subst h
 have nope : Hnd := ⟨fun _ _ _ => .fail "", fun _ _ _ _ _ => .fail "", fun _ _ _ _ _ => .fail ""⟩
 obtain ⟨_, x2, x3, x4, x5⟩ := Gq (H := nope) hx (fun _ _ => .fail "")
 obtain ⟨_, y2, y3, y4, y5⟩ := Gq (H := nope) hy (fun _ _ => .fail "")
 have hSx:=QJ3 hS hx;have hSy:=QJ3 hS hy;refine⟨fun g=>by show st.nid≤sx.nid+sy.nid;omega,sx,sy,⟨dx,hx⟩,⟨dy,hy⟩,fun G a w => ?_⟩
 have key:∀(s:St),s=(match b with|true=>sx|false=>sy)→s.hp=st.hp→s.tm.length=st.tm.length→s.nid≤sx.nid+sy.nid→(∀ t,t ∉ dx++dy→QG s.tm t=QG st.tm t)→Rep G s.nid s a w →
   ∃ g,Rep G (sx.nid+sy.nid) ⟨YC b g sx.tm sy.tm (dx++dy) st.tm,st.hp,sx.nid+sy.nid⟩ a w:=by
  intro s e0 e1 e2 e3 e4 ⟨⟨r,hI⟩,hSs⟩;refine⟨fun t=>a.tmps.getD t undef,?_⟩;obtain⟨m1,m2⟩:=QLF (b:=b) (g:=fun t=>a.tmps.getD t undef) (tx:=sx.tm) (ty:=sy.tm) (dx++dy) st.tm;generalize YC b (fun t=>a.tmps.getD t undef) sx.tm sy.tm (dx++dy) st.tm=tm at *
  have hden:∀ t,(QG tm t).den r=(QG s.tm t).den r:=by
   intro t;rcases m2 t with ⟨e,hn⟩|⟨_,e|e⟩|⟨e,hn⟩
   ·rw[e,e4 t hn]
   ·rw[(QIL e).1 r,e0];cases b<;>rfl
   ·rw[e];exact hI.tm t
   ·rw[e,QD1 hn,QD1 (by rw[e2];exact hn)]
  refine⟨⟨r,?_⟩,?_⟩
  ·refine⟨by rw[hI.size,e2];exact m1.symm,by rw[←e1];exact hI.defers,fun t=>by rw[hI.tm t];exact(hden t).symm,by rw[←e1];exact hI.rep,by rw[←e1];exact hI.live,by rw[←e1];exact hI.sep,hI.ext,hI.fr,by rw[←e1];exact hI.own⟩
  ·refine⟨fun t => ?_,fun id c hc => ?_,fun id c hc => ?_⟩
   ·show(QG tm t).all _=true;rcases m2 t with ⟨e,hn⟩|⟨_,e|e⟩|⟨e,hn⟩
    ·rw[e];exact all_mono (Vr (by omega)) _ (hS.tm t)
    ·exact(QIL e).2 _ (all_mono (Vr (Nat.le_add_right _ _)) _ (hSx.tm t)) (all_mono (Vr (Nat.le_add_left _ _)) _ (hSy.tm t))
    ·rw[e];rfl
    ·rw[e,QD1 hn];rfl
   ·have:=hS.out id c hc;omega
   ·exact Blk.all_mono (Vr (by omega)) _ (hS.blk id c hc)
 cases b with
 | true=>exact key sx rfl x2 x3 (by omega) (fun t ht=>x5 t (fun h=>ht (List.mem_append.2 (.inl h))))
 | false=>exact key sy rfl y2 y3 (by omega) (fun t ht=>y5 t (fun h=>ht (List.mem_append.2 (.inr h))))
theorem Yt(hE:E.Sound){H:Hnd}(hC:jm E G H.call)(hY:G7 E G H.yield):∀(c:Code),(∀ s∈Kg c,JJ E G s (H.loop s))→JJ E G c (exec E H c):=by
 intro c
 induction c with
 | skip=>intro _ st K T Q a w hn h hr hQ;exact wpIn_skip (hQ .normal st a w hn h hr)
 | label l=>intro _ st K T Q a w hn h hr hQ;exact wpIn_label (hQ .normal st a w hn h hr)
 | exit id=>intro _ st K T Q a w hn h hr hQ;exact wpIn_exit (hQ (.exit id) st a w hn h hr)
 | ret=>intro _ st K T Q a w hn h hr hQ;exact wpIn_ret (hQ .ret st a w hn h hr)
 | loop body _=>intro hl;exact hl _ (by simp[Kg])
 | rangeFunc g ps as body _ _=>intro hl;exact hl _ (by simp[Kg])
 | region id ops draw=>
  intro _ st K T Q a w hn h hr hQ;cases draw with
  | true=>
   simp only[exec]at h;obtain⟨rs,st',hruns,hK⟩:=zK _ _ _ _ h;split at hK
   ·rename_i hok;simp only[qbA]at hok;refine QNi hE (List.take_append_drop (Vm 0 (Ko [] ops.toList)) ops.toList).symm hn hruns hok.1 hok.2 ?_ hr ?_
    ·intro i x hi hx;have hms:(Ko [] ops.toList).length=ops.toList.length:=(vE (fun _=>True) ops.toList (fun _ _ _ _ _ _ _=>trivial) ops.toList [] [] rfl rfl (by simp)).1
     have hle:=QI0 (Ko [] ops.toList) 0;rw[List.length_take]at hi;have:=QDR (Ko [] ops.toList) 0 i x (by omega) hx
     simpa using this
    ·intro a' w' hr';refine qD hE hC hY _ _ _ a' w' (by show G.n≤st.nid+_;omega) hK ?_ fun st' a' w' hn' hK hr'=>hQ .normal st' a' w' hn' hK hr'
     exact hr'.nid
   ·exact hK.elim
  | false=>
   simp only[exec]at h;exact wpIn_region_list (qD hE hC hY _ st _ a w hn h hr fun st' a' w' hn' hK hr'=>hQ .normal st' a' w' hn' hK hr')
 | seq x y ihx ihy=>
  intro hl st K T Q a w hn h hr hQ;refine wpIn_seq ?_;simp only[exec]at h;refine ihx (fun b hb=>hl b (by simp[Kg,hb])) st _ T _ a w hn h hr ?_
  intro e st' a' w' hn' h' hr';cases e with
  | normal=>exact ihy (fun b hb=>hl b (by simp[Kg,hb])) st' K T Q a' w' hn' h' hr' hQ
  | exit id=>exact hQ (.exit id) st' a' w' hn' h' hr'
  | ret=>exact hQ .ret st' a' w' hn' h' hr'
 | cond c x y ihx ihy=>
  intro hl st K T Q a w hn h hr hQ;simp only[exec]at h
  have hc:∀ k b,evA st.tm c = .bool k b→a.eval c = .bool b:=fun k b he=>by
   obtain⟨r,hI⟩:=hr.1;rw[zD (tm:=st.tm) (r:=r) (fun t _=>hI.tm t),he];rfl
  split at h
  ·rename_i b he;refine wpIn_cond (hc _ _ he) ?_;cases b with
   | true=>exact ihx (fun b hb=>hl b (by simp[Kg,hb])) st K T Q a w hn h hr hQ
   | false=>exact ihy (fun b hb=>hl b (by simp[Kg,hb])) st K T Q a w hn h hr hQ
  ·rename_i b he;split at h
   ·rename_i f hj;obtain⟨hle,sx,sy,⟨dx,hx⟩,⟨dy,hy⟩,hrep⟩:=QVE hj hr.2;refine wpIn_cond (hc _ _ he) ?_
    have tag : ∀ (s0 : St) e s, (QB.asm (¬ (e = Ex.normal ∧ s = s0)) (.fail "")).den T → e = Ex.normal ∧ s = s0 := fun s0 e s hd => Classical.byContradiction fun hn => hd hn
    cases b with
    | true=>
     refine ihx (fun b hb => hl b (by simp [Kg, hb])) st (fun e s => .asm (¬ (e = Ex.normal ∧ s = sx)) (.fail "")) T Q a w hn (by rw [(Gq hx _).1]; exact fun hne => hne ⟨rfl, rfl⟩) hr ?_
     intro e s a' w' hn' hd hr';obtain⟨rfl,rfl⟩:=tag _ _ _ hd;obtain⟨g,hg⟩:=hrep G a' w' hr';exact hQ .normal (f g) a' w' (Nat.le_trans hn (hle g)) (h g) hg
    | false=>
     refine ihy (fun b hb => hl b (by simp [Kg, hb])) st (fun e s => .asm (¬ (e = Ex.normal ∧ s = sy)) (.fail "")) T Q a w hn (by rw [(Gq hy _).1]; exact fun hne => hne ⟨rfl, rfl⟩) hr ?_
     intro e s a' w' hn' hd hr';obtain⟨rfl,rfl⟩:=tag _ _ _ hd;obtain⟨g,hg⟩:=hrep G a' w' hr';exact hQ .normal (f g) a' w' (Nat.le_trans hn (hle g)) (h g) hg
   refine wpIn_cond (hc _ _ he) ?_;cases b with
   | true=>exact ihx (fun b hb=>hl b (by simp[Kg,hb])) _ K T Q a w (by rw[QAW];exact hn) (h.1 rfl) (by rw[QAW];exact hr.fix he) hQ
   | false=>exact ihy (fun b hb=>hl b (by simp[Kg,hb])) _ K T Q a w (by rw[QAW];exact hn) (h.2 rfl) (by rw[QAW];exact hr.fix he) hQ
  ·exact h.elim
 | scope body ih=>
  intro hl st K T Q a w hn h hr hQ;refine QTJ (ih (fun b hb=>hl b (by simp[Kg,hb])) st K T _ a w hn h hr ?_)
  intro e st' a' w' hn' h' hr';have:=hQ e st' a' w' hn' h' hr';cases e<;>exact this
 | block id body ih=>
  intro hl st K T Q a w hn h hr hQ;refine wpIn_block ?_;simp only[exec]at h;refine ih (fun b hb=>hl b (by simp[Kg,hb])) st _ T _ a w hn h hr ?_
  intro e st' a' w' hn' h' hr';cases e with
  | normal=>exact hQ .normal st' a' w' hn' h' hr'
  | exit j=>
   show Exit.inBlock id Q (.exit j) a' w';simp only[Exit.inBlock]
   by_cases hj:j=id
   ·subst hj;simp only[beq_self_eq_true]at h';rw[if_pos rfl];exact hQ .normal st' a' w' hn' h' hr'
   ·have:(j==id)=false:=by simpa using hj
    simp only[this]at h';rw[if_neg hj];exact hQ (.exit j) st' a' w' hn' h' hr'
  | ret=>exact hQ .ret st' a' w' hn' h' hr'
 | _=>intro _ st K T Q a w hn h hr hQ;exact h.elim
def Yg(P:Program)(st:St):List ResultVar→Option (List AV)
 | []=>some []
 | .tmp t::l=>match Yg P st l with
  | some vs=>some (QG st.tm t::vs)
  | none=>none
 | .cell p t::l=>match QG st.tm p with
  | .ptr id e j=>match look st.hp id with
   | some b=>match J3 P t e j b with
    | some ⟨true,true,v,_⟩=>match Yg P st l with
     | some vs=>some (v::vs)
     | none=>none
    | _=>none
   | none=>none
  | _=>none
def W4:List AV→AV
 | [v]=>v
 | vs => .tup vs
def Gl(tmps:Array Value):ResultVar→Sem Value
 | .tmp t=>pure (tmps.getD t undef)
 | .cell p t=>do loadVar t (←asAddr (tmps.getD p undef))
theorem QQF(fn:Func)(tmps:Array Value):results fn tmps=(do let vs ←fn.results.mapM (Gl tmps);pure (if h:vs.size=1 then vs[0]else .tuple vs)):=by
 unfold results;congr 1
theorem QCp{P:Program}{st:St}{a:Act}{w:World}{G:Ctx}{r:Nat→Loc}(hI:Inv G st.tm.length r (QG st.tm) (look st.hp) a w):∀(l:List ResultVar) (vs:List AV),Yg P st l=some vs →
  (l.mapM (Gl a.tmps)).run P w = .ok (AV.denL r vs) w
 | [],vs,h=>by simp only[Yg,qsI]at h;subst h;rfl
 | .tmp t::l,vs,h=>by
  simp only[Yg]at h;split at h<;>(try (cases h;done))
  rename_i vs' hv;simp only[qsI]at h;subst h;have:=QCp hI l vs' hv;rw[List.mapM_cons];simp only[Gl,Sem.run_bind,Sem.run_pure,Result.andThen_ok,this,hI.tm t,AV.denL]
 | .cell p t::l,vs,h=>by
  simp only[Yg]at h;split at h<;>(try (cases h;done))
  rename_i id e j hp;split at h<;>(try (cases h;done))
  rename_i b hb;split at h<;>(try (cases h;done))
  rename_i v u hl;split at h<;>(try (cases h;done))
  rename_i vs' hv;simp only[qsI]at h;subst h;have:=QCp hI l vs' hv;have hload:=(QMF (P:=P) (r:=r) (w:=w) (id:=id) (e:=e) (j:=j) (hI.rep id b hb) hl rfl).1;simp only[AV.den,Instr.loadAt,Instr.sureAddr,Sem.run_bind,Sem.run_pure,Result.andThen_ok]at hload;rw[List.mapM_cons];rw[Sem.run_bind];simp only[Gl,Sem.run_bind,hI.tm p,hp,AV.den,asAddr,Sem.run_pure,Result.andThen_ok,hload,AV.denL];rw[this];rfl
theorem QN7{P:Program}{fn:Func}{vs:List AV}(hI:Inv G st.tm.length r (QG st.tm) (look st.hp) a w)(h:Yg P st fn.results.toList=some vs):
  (results fn a.tmps).run P w = .ok ((W4 vs).den r) w:=by
 have:=QCp hI _ vs h;rw[QQF,Sem.run_bind,Array.mapM_eq_mapM_toList,Sem.run_map,this];simp only[Result.andThen_ok,Sem.run_pure];congr 1
 match vs with
 | []=>rfl
 | [v]=>rfl
 | v::u::vs=>simp[W4,AV.den,AV.denL]
def J6(n:Nat):List (Nat×Blk)→List (Nat×Blk)
 | []=>[]
 | (id,b)::h=>(match b with
  | .dfr=>(match decide (n≤id)with|true=>(id,.gone)|false=>(id,b))
  | b=>(id,b))::J6 n h
theorem WG{n:Nat}:∀{h:List (Nat×Blk)} {id:Nat} {b:Blk},look (J6 n h) id=some b→look h id=some b∧(b = .dfr→id<n)
 | (i,c)::h,id,b,e=>by
  simp only[J6]at e
  have key:∀ c':Blk,look ((i,c')::J6 n h) id=some b→(c'=c∧(c = .dfr→i<n))∨c' = .gone→look ((i,c)::h) id=some b∧(b = .dfr→id<n):=by
   intro c' e1 hc;simp only[KZ]at e1 ⊢
   by_cases hi:(i==id)=true
   ·rw[if_pos hi]at e1 ⊢;rcases hc with ⟨hc1,hc⟩|hc1
    ·rw[hc1]at e1;refine⟨e1,fun hb => ?_⟩;split at e1
     ·simp only[qsI]at e1;have:i=id:=by simpa using hi
      rw[←this];exact hc (e1.trans hb)
     ·cases e1
    ·rw[hc1]at e1;simp[Blk.live]at e1
   ·rw[if_neg hi]at e1 ⊢;exact WG e1
  split at e
  ·split at e
   ·exact key _ e (.inr rfl)
   ·rename_i hn;exact key _ e (.inl ⟨rfl,fun _=>by have:=of_decide_eq_false hn;omega⟩)
  ·rename_i hne;exact key _ e (.inl ⟨rfl,fun hd=>absurd hd (by rintro rfl;exact hne rfl)⟩)
def VH(h:List (Nat×Blk)):Bool:=h.all fun p=>match p.2 with
 | .dfr=>false
 | _=>true
def QCa(n:Nat)(h:List (Nat×Blk)):Bool:=h.all fun p=>match p.2 with
 | .dfr=>decide (p.1<n)
 | _=>true
theorem QAC(hk:VH h=true){id:Nat}(hl:look h id=some .dfr):False:=by
 have:=List.all_eq_true.1 hk _ (Q4 hl);simp at this
theorem QVU(hk:QCa n h=true){id:Nat}(hl:look h id=some .dfr):id<n:=by
 have:=List.all_eq_true.1 hk _ (Q4 hl);simpa using this
def Y8:List Nat→World→World
 | [],w=>w
 | b::bs,w=>Y8 bs (w.putObj b (.deferred none))
theorem QGd{P:Program}{F:Fence}{n:Nat}{fn:Func}{tmps:Array Value}{R:Ending→World→Prop}:∀(bs:List Nat) (w:World),bs.Nodup→(∀ b∈bs,bk w b=some (.deferred (some []))) →
  (∃ v,(results fn tmps).run P (Y8 bs w) = .ok v (Y8 bs w)∧R (.returned v) (Y8 bs w))→LeavesInM F n P fn tmps R (bs.map ZW) .returning w
 | [],w,_,_,h=>h
 | b::bs,w,hn,ho,h=>by
  rw[List.nodup_cons]at hn;have hb:=ho b (by simp)
  refine⟨by simp,.inl ⟨b,w.putObj b (.deferred none),rfl,run_takeDeferred hb,QGd bs _ hn.2 (fun b' hb' => ?_) h⟩⟩
  have hne:b'≠b:=by rintro rfl;exact hn.1 hb'
  have:=ho b' (by simp[hb'])
  unfold bk at this ⊢;rw[World.putObj_heap_other hne];exact this
theorem QFl{r:Nat→Loc}{id:Nat}{b:Blk}(hd:b ≠ .dfr):∀(bs:List Nat) (w:World),bs.Nodup→(∀ x∈bs,bk w x=some (.deferred (some [])))→QH r id w b→QH r id (Y8 bs w) b
 | [],w,_,_,h=>h
 | x::bs,w,hn,ho,h=>by
  rw[List.nodup_cons]at hn;have hx:=ho x (by simp)
  have ho':∀ b'∈bs,bk (w.putObj x (.deferred none)) b'=some (.deferred (some [])):=by
   intro b' hb';have hne:b'≠x:=by rintro rfl;exact hn.1 hb'
   have:=ho b' (by simp[hb'])
   unfold bk at this ⊢;rw[World.putObj_heap_other hne];exact this
  refine QFl hd bs _ hn.2 ho' ?_
  have hoth:∀ k,k≠x→bk (w.putObj x (.deferred none)) k=bk w k:=by
   intro k hk;unfold bk;exact World.putObj_heap_other hk
  have key:b.plain=true→(r id).blk≠x→QH r id (w.putObj x (.deferred none)) b:=by
   intro hpl hne;exact h.keep (p:=fun _=>true) (fun _ _=>rfl) rfl (by simp[World.putObj]) (QE5 b) (fun _ k hk=>by rw[(JQ hpl).1 hk];exact hoth _ hne)
  have rows:∀{l:Loc} {z n:Nat} {get:Nat→List AV},JO w r l z n get→JO (w.putObj x (.deferred none)) r l z n get:=by
   intro l z n get hR;refine⟨hR.1,fun i hi=>⟨(hR.2 i hi).1,(hR.2 i hi).2.1,fun j v hv => ?_⟩⟩;obtain⟨h1,h2⟩:=(hR.2 i hi).2.2 j v hv;refine⟨h1,?_⟩;rw[←h2];refine ju (hoth _ ?_);intro he;unfold bk at hx;rw[World.cell?,he,hx]at h2;cases h2
  cases b with
  | arr z n get=>
   refine⟨h.1,by simpa[World.putObj]using h.2.1,fun i hi=>⟨(h.2.2 i hi).1,fun j v hv => ?_⟩⟩
   obtain⟨h1,h2⟩:=(h.2.2 i hi).2 j v hv;refine⟨h1,?_⟩;rw[←h2];refine ju (hoth _ ?_);intro he;unfold bk at hx;rw[World.cell?,he,hx]at h2;cases h2
  | gone=>trivial
  | dfr=>exact absurd rfl hd
  | cells _ _ _=>exact key rfl (by intro he;have:=h.2.2;rw[he,hx]at this;cases this)
  | rowl _ _ _=>exact key rfl (by intro he;obtain⟨_,_,_,_,_,_,this⟩:=h;rw[he,hx]at this;cases this)
  | cellsR _ _ _=>exact key rfl (by intro he;have:=h.2.2;rw[he,hx]at this;cases this)
  | rowlR _ _ _=>exact key rfl (by intro he;obtain⟨_,_,_,_,_,_,this⟩:=h;rw[he,hx]at this;cases this)
  | lp _ _ _ _ _ _=>exact key rfl (by intro he;obtain⟨_,_,this⟩:=h;rw[he,hx]at this;cases this)
  | mp _ _=>exact key rfl (by intro he;have this:bk w (r id).blk=_:=h;rw[he,hx]at this;cases this)
  | mpf _ _ _ _=>exact key rfl (by intro he;obtain⟨_,_,this,_⟩:=h;rw[he,hx]at this;cases this)
  | frz z n get=>exact⟨h.1,fun k hk=>by simpa[World.putObj]using h.2.1 k hk,rows h.2.2⟩
  | rowz o ty z n get=>
   obtain⟨h1,h2,h3,h4,h5,h6⟩:=(show Ka r id w ty z.length n (QU z get)from h);show Ka r id _ ty z.length n (QU z get);refine⟨h1,h2,h3,h4,h5,fun hn => ?_⟩;obtain⟨g1,rest,g2,g3⟩:=h6 hn;refine⟨g1,rest,g2,?_⟩;rw[hoth _ (by intro he;rw[he,hx]at g3;cases g3),g3]
  | frz2 o ty z n len get=>
   obtain⟨h1,h2,h3,inner,h4,h5,h6,h7⟩:=h;refine⟨h1,h2,h3,inner,h4,fun k hk=>by simpa[World.putObj]using h5 k hk,fun i hi=>⟨(h6 i hi).1,(h6 i hi).2.1,rows (h6 i hi).2.2⟩,fun hn => ?_⟩
   obtain⟨g1,rest,g2,g3⟩:=h7 hn;refine⟨g1,rest,g2,?_⟩;rw[hoth _ (by intro he;rw[he,hx]at g3;cases g3),g3]
theorem QIZ{w0:World}{ch:Nat→Prop}:∀(bs:List Nat) (w:World),(∀ b∈bs,w0.heap.size≤b)→Fr w0 w ch→Fr w0 (Y8 bs w) ch
 | [],w,_,h=>h
 | b::bs,w,hb,h=>QIZ bs _ (fun b' hb'=>hb b' (by simp[hb'])) ⟨h.os,h.tape,h.output,by simpa[World.putObj]using h.size,fun k hk hc=>by
   have:=hb b (by simp)
   rw[←h.block k hk hc];unfold bk;exact World.putObj_heap_other (by omega)⟩
def Wj(fn:Func)(args:List AV)(hp:List (Nat×Blk))(nid:Nat):St:=⟨args++List.replicate (fn.ntmps-args.length) (.tup []),hp,nid⟩
def V4(E:Env)(H:Hnd)(fn:Func)(args:List AV)(hp:List (Nat×Blk))(nid:Nat)(K:AV→List (Nat×Blk)→Nat→QB):QB:=
 match fn.body with
 | some c=>exec E H c (Wj fn args hp nid) fun e st=>match e with
  | .exit _ => .fail "exit"
  | _=>match Yg E.P { st with hp:=J6 nid st.hp } fn.results.toList with
   | some vs=>(match AV.allL (·<st.nid) vs&&(QCa nid st.hp||VH (J6 nid st.hp))with
    | true=>K (W4 vs) (J6 nid st.hp) st.nid
    | false => .fail "scope of a result")
   | none => .fail "result"
 | none => .fail "no body"
def QRz(keep:Bool)(h:List (Nat×Blk)):List (Nat×Blk):=match keep with
 | true=>h
 | false=>[]
def Qt(E:Env)(H:Hnd)(keep:Bool)(fn:Func)(args:List AV)(hp:List (Nat×Blk))(nid:Nat):QB:=
 V4 E H fn args hp nid fun v h _ => .leaf v (QRz keep h)
theorem vG{p:Nat→Bool}:∀{l:List AV},AV.allL p l=true→∀ v∈l,v.all p=true
 | [],_,_,h=>by cases h
 | x::l,h,v,hv=>by
  simp only[AV.allL,qbA]at h;rcases List.mem_cons.1 hv with rfl|hv
  ·exact h.1
  ·exact vG h.2 v hv
theorem QPe{vs:List AV}(h:AV.allL p vs=true):(W4 vs).all p=true:=by
 unfold W4;split
 ·simpa[AV.allL]using h
 ·exact h
theorem ql(hE:E.Sound){H:Hnd}{f:FuncId}{fn:Func}(hf:E.P.funcs[f]? = some fn)(hb:fn.body=some c)(hl:Q5 E G H c){hp:List (Nat×Blk)}{nid:Nat}{T:AV→List (Nat×Blk)→Prop}{K:AV→List (Nat×Blk)→Nat→QB}(hG:G.n=nid)(hH:Q9 G nid r hp w)(hs1:AV.allL (·<nid) args=true)(h:(V4 E H fn args hp nid K).den T)(hrd:G.rd=none:=by rfl):Calls E.P f (AV.denL r args).toArray w fun e w'=>∃ v h' nid' r',(K v h' nid').den T∧e = .returned (v.den r')∧G.n≤nid'∧Q9 G nid' r' h' w'∧v.all (·<nid')=true:=by
 unfold V4 at h;rw[hb]at h;refine(callsIn_wide (n:=0)).1 (callsIn_of_wp_marks hf hb trivial ?_)
 have hargs:∀ t,(((AV.denL r args).toArray++Array.replicate (fn.ntmps-(AV.denL r args).toArray.size) undef).getD t undef)=(QG (Wj fn args hp nid).tm t).den r:=by
  intro t
  have e1:(AV.denL r args).toArray++Array.replicate (fn.ntmps-(AV.denL r args).toArray.size) undef=(AV.denL r (args++List.replicate (fn.ntmps-args.length) (.tup []))).toArray:=by
   apply Array.ext';simp[Qn,AV.den,AV.denL,undef]
  rw[e1];unfold QG Wj;rw[Array.getD_eq_getD_getElem?,List.getElem?_toArray,Qn,List.getElem?_map];cases (args++List.replicate (fn.ntmps-args.length) (AV.tup []))[t]? <;> rfl
 have hfw:FW G.rd=Fence.wide:=by rw[hrd];rfl
 rw[←hfw];refine Yt hE hl.call hl.yield c hl.loop (Wj fn args hp nid) _ T _ _ w (Nat.le_of_eq hG) h ⟨⟨r,?_⟩,?_⟩ ?_
 ·refine⟨?_,Dfr.none rfl,hargs,hH.rep,fun id b hb=>Vv hb,hH.sep,hH.ext,hH.fr,hH.own⟩;simp[Wj,KM]
 ·refine⟨fun t => ?_,hH.out,hH.blk⟩;unfold QG Wj;cases ht:(args++List.replicate (fn.ntmps-args.length) (AV.tup []))[t]? with
  | none=>simp only[Option.getD_none];rfl
  | some v=>
   simp only[Option.getD_some];rcases List.mem_append.1 (List.mem_of_getElem? ht)with hm|hm
   ·exact vG hs1 v hm
   ·rw[List.eq_of_mem_replicate hm];rfl
 ·intro e st' a' w' hn' h' hr';obtain⟨⟨r',hI⟩,hS⟩:=hr'
  have key:(match Yg E.P { st' with hp:=J6 nid st'.hp } fn.results.toList with
   | some vs=>(match AV.allL (·<st'.nid) vs&&(QCa nid st'.hp||VH (J6 nid st'.hp))with
    | true=>K (W4 vs) (J6 nid st'.hp) st'.nid
    | false => .fail "scope of a result")
   | none => .fail "result" : QB).den T → LeavesInM (FW G.rd) 0 E.P fn a'.tmps (fun e w' => ∃ v h' nid' r', (K v h' nid').den T ∧ e = .returned (v.den r') ∧ G.n ≤ nid' ∧ Q9 G nid' r' h' w' ∧ v.all (· < nid') = true) a'.defers .returning w' := by
   intro h';split at h'
   ·rename_i vs hres;split at h'
    ·rename_i hall;simp only[qbA,qbO]at hall;obtain⟨hall,hnest⟩:=hall;obtain⟨ds,d1,d2,d3⟩:=hI.defers
     have hopen:∀ b∈ds.map (fun id=>(r' id).blk),bk w' b=some (.deferred (some [])):=by
      intro b hb;obtain⟨id,hid,rfl⟩:=List.mem_map.1 hb;exact hI.rep id _ (d3 id hid).2.1
     have hnew:∀ b∈ds.map (fun id=>(r' id).blk),G.w.heap.size≤b:=by
      intro b hb;obtain⟨id,hid,rfl⟩:=List.mem_map.1 hb;exact(d3 id hid).2.2
     rw[d1,show ds.map (fun id=>ZW (r' id).blk)=(ds.map fun id=>(r' id).blk).map ZW by rw[List.map_map];rfl]
     refine QGd _ w' d2 hopen ?_
     have hrepd:∀ id b,look (J6 nid st'.hp) id=some b→QH r' id (Y8 (ds.map fun id=>(r' id).blk) w') b:=by
      intro id b hb;obtain⟨k1,k2⟩:=WG hb
      by_cases hd:b = .dfr
      ·subst hd;rcases hnest with hn|hn
       ·cases ds with
        | nil=>exact hI.rep id _ k1
        | cons x ds=>
         have hx:=d3 x (by simp)
         have:=QVU hn hx.2.1;omega
       ·exact(QAC hn hb).elim
      ·exact QFl hd _ w' d2 hopen (hI.rep id b k1)
     have hI':Inv G ({ st' with hp:=J6 nid st'.hp }:St).tm.length r' (QG ({ st' with hp:=J6 nid st'.hp }:St).tm) (look ({ st' with hp:=J6 nid st'.hp }:St).hp) { a' with defers:=[] } (Y8 (ds.map fun id=>(r' id).blk) w'):=
      ⟨hI.size,Dfr.none rfl,hI.tm,hrepd,fun id b hb=>Vv hb,fun id id' b b' h1 h2=>hI.sep id id' b b' (WG h1).1 (WG h2).1,hI.ext,QIZ _ _ hnew hI.fr,fun id b h1=>hI.own id b (WG h1).1⟩
     have hS':Kc st'.nid { st' with hp:=J6 nid st'.hp }:=⟨hS.tm,fun id b hb=>hS.out id b (WG hb).1,fun id b hb=>hS.blk id b (WG hb).1⟩
     exact⟨_,QN7 (a:={ a' with defers:=[] }) (st:={ st' with hp:=J6 nid st'.hp }) hI' hres,_,_,_,r',h',rfl,hn',Rep.hinv hI' hS',QPe hall⟩
    ·exact h'.elim
   ·exact h'.elim
  cases e with
  | normal=>exact key h'
  | exit id=>exact h'.elim
  | ret=>exact key h'
end Go.SX
