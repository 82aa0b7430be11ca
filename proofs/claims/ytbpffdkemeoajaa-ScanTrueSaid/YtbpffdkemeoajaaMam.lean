/- - -/
import Derived.Test.YtbpffdkemeoajaaMal
namespace Go.SX
open Go Go.RowKit Go.Proofs.Ytbpffdkemeoajaa
def YN:List AV→List Tmp→List AV→List AV
 | tm,t::ts,v::vs=>YN (setO tm (some t) v) ts vs
 | tm,_,_=>tm
mutual
def AV.idsFrom(N:Nat):AV→List Nat
 | .ptr id _ _=>if N≤id then [id]else []
 | .slice _ id _ _ _=>if N≤id then [id]else []
 | .slz id _ _ _=>if N≤id then [id]else []
 | .map id=>if N≤id then [id]else []
 | .yld id=>if N≤id then [id]else []
 | .fn _ l=>AV.idsFromL N l
 | .mth _ l=>AV.idsFromL N l
 | .alt _ v w=>v.idsFrom N++w.idsFrom N
 | .ifc _ v=>v.idsFrom N
 | .agg l=>AV.idsFromL N l
 | .tup l=>AV.idsFromL N l
 | _=>[]
def AV.idsFromL(N:Nat):List AV→List Nat
 | []=>[]
 | v::l=>v.idsFrom N++AV.idsFromL N l
end
def Blk.idsFrom(N:Nat):Blk→List Nat
 | .cells _ _ l=>AV.idsFromL N l
 | .cellsR _ _ l=>AV.idsFromL N l
 | .rowl _ _ l=>AV.idsFromL N l.flatten
 | .rowlR _ _ l=>AV.idsFromL N l.flatten
 | .lp _ _ l _ _ _=>AV.idsFromL N l
 | _=>[]
def Xi:List Nat→List Nat→List Nat
 | [],acc=>acc
 | x::l,acc=>match acc.contains x with
  | true=>Xi l acc
  | false=>Xi l (acc++[x])
def GO(N:Nat)(h:List (Nat×Blk)):Nat→List Nat→List Nat
 | 0,l=>l
 | n+1,l=>GO N h n (Xi (l.flatMap fun id=>match look h id with|some b=>b.idsFrom N|none=>[]) l)
def zW(n:Nat):List (Nat×Blk)→List (Nat×Blk)
 | []=>[]
 | (i,b)::l=>match Nat.blt i n with
  | true=>(i,b)::zW n l
  | false=>zW n l
def Y4(h:List (Nat×Blk)):List Nat→List (Nat×Blk)
 | []=>[]
 | i::l=>match look h i with
  | some b=>(i,b)::Y4 h l
  | none=>Y4 h l
def gcH(on:Bool)(n:Nat)(v:AV)(h:List (Nat×Blk)):List (Nat×Blk):=match on with
 | false=>h
 | true=>zW n h++Y4 h (GO n h 8 (Xi (v.idsFrom n++(zW n h).flatMap fun p=>p.2.idsFrom n) []))
theorem QGa{n:Nat}:∀{h t:List (Nat×Blk)} {id:Nat} {b:Blk},look (zW n h++t) id=some b→(id<n∧look h id=some b)∨look t id=some b
 | [],t,id,b,e => .inr e
 | (i,c)::l,t,id,b,e=>by
  simp only[zW]at e;split at e
  ·rename_i hi;rw[List.cons_append,K3]at e
   by_cases h:i=id
   ·subst h;simp only[beq_self_eq_true,if_true]at e;refine .inl ⟨Nat.le_of_ble_eq_true hi,?_⟩;rw[K3];simp only[beq_self_eq_true,if_true];exact e
   ·have h2:(i==id)=false:=by simpa using h
    simp only[h2,Bool.false_eq_true,if_false]at e;rcases QGa e with ⟨h3,h4⟩|h3
    ·refine .inl ⟨h3,?_⟩;rw[K3];simp only[h2,Bool.false_eq_true,if_false];exact h4
    ·exact .inr h3
  ·rename_i hi;rcases QGa e with ⟨h3,h4⟩|h3
   ·refine .inl ⟨h3,?_⟩
    have h2:(i==id)=false:=by
     cases hb:(i==id)with
     | true=>
      have:i=id:=by simpa using hb
      subst this;rw[show Nat.blt i n=true from Nat.ble_eq_true_of_le h3]at hi;cases hi
     | false=>rfl
    rw[K3];simp only[h2,Bool.false_eq_true,if_false];exact h4
   ·exact .inr h3
theorem QEB{h:List (Nat×Blk)}:∀{l:List Nat} {id:Nat} {b:Blk},look (Y4 h l) id=some b→look h id=some b
 | [],_,_,e=>by cases e
 | i::l,id,b,e=>by
  simp only[Y4]at e;split at e
  ·rename_i c hc;rw[K3]at e;split at e
   ·rename_i hi;have hi:i=id:=by simpa using hi
    subst hi;rw[Xz hc]at e;simp only[if_true,qsI]at e;rw[←e];exact hc
   ·exact QEB e
  ·exact QEB e
variable {n:Nat}{G:Ctx}{r:Nat→Loc}{w:World}{hp:List (Nat×Blk)}{E:Env}{H:Hnd}{f:FuncId}{c:Code}{α:Type}
theorem QUf{on:Bool}{v:AV}{h:List (Nat×Blk)}{id:Nat}{b:Blk}(e:look (gcH on n v h) id=some b):look h id=some b:=by
 cases on with
 | false=>exact e
 | true=>
  rcases QGa e with ⟨_,h1⟩|h1
  ·exact h1
  ·exact QEB h1
theorem KW.sub{h h':List (Nat×Blk)}(hH:KW G n r h w)(hs:∀ id b,look h' id=some b→look h id=some b):KW G n r h' w:=
 ⟨fun id b e=>hH.rep id b (hs _ _ e),fun id id' b b' e e'=>hH.sep id id' b b' (hs _ _ e) (hs _ _ e'),hH.ext,hH.fr,fun id b e=>hH.own id b (hs _ _ e),fun id b e=>hH.out id b (hs _ _ e),fun id b e=>hH.blk id b (hs _ _ e)⟩
def H0 : Hnd := ⟨fun _ _ _ => .fail "a loop", fun _ _ _ _ _ => .fail "a call without a contract", fun _ _ _ _ _ => .fail "yield"⟩
def Vt(E:Env):Nat→Bool→Hnd
 | 0,_=>H0
 | n+1,fr=>⟨fun s st K=>match s with
   | .loop body=>exec E (Vt E n fr) body st fun e st'=>(match e with
    | .normal=>(Vt E n fr).loop (.loop body) st' K
    | .exit id=>K (.exit id) st'
    | .ret=>K .ret st')
   | .rangeFunc g ps as body=>(match fr with
    | false => .fail "a range over a function in a round"
    | true=>match evA st.tm g with
     | .fn (.func f) cap=>(Vt E n true).call f (.yld (st.nid+1)::cap) ((st.nid+1,.lp .ready none st.tm ps as body)::(st.nid,.dfr)::st.hp) (st.nid+8) fun _ hp nid=>
      (match Wq ((st.nid,.dfr)::st.hp) hp with
      | true=>(match look hp (st.nid+1)with
       | some (.lp s pend _ _ _ _)=>(match s with
        | .busy => .fail "a busy loop"
        | _=>match pend with
         | none=>K .normal ⟨st.tm,(st.nid+1,.gone)::hp,nid⟩
         | some .ret=>K .ret ⟨st.tm,(st.nid+1,.gone)::hp,nid⟩
         | some (.exit j)=>K (.exit j) ⟨st.tm,(st.nid+1,.gone)::hp,nid⟩
         | _ => .fail "pending")
       | _ => .fail "the loop's record")
      | false => .fail "deferred")
     | _ => .fail "what is ranged over")
   | _ => .fail "statement",
  fun g args hp nid K=>match E.P.funcs[g]? with
   | some fn=>(match J3 E.P g with
    | true=>vh E.gc QRW args fun args=>vh E.gc V1 nid fun nid=>Vc E (Vt E n true) fn args hp nid fun v hp' nid'=>vh E.gc H6 v fun v=>vh E.gc QCb (gcH E.gc nid v hp') fun hp'=>K v hp' nid'
    | false => .fail "no function of the program")
   | none => .fail "no such function",
  fun id args hp nid K=>match look hp id with
   | some (.lp .ready _ tms ps as body)=>(match args.length==ps.size with
    | true=>exec E (Vt E n false) as ⟨YN tms ps.toList args,hp,nid⟩ fun e st=>(match e with
     | .normal=>(match look st.hp id with
      | some (.lp .ready pend1 tms1 ps1 as1 body1)=>exec E (Vt E n false) body { st with hp:=(id,.lp .busy pend1 tms1 ps1 as1 body1)::st.hp } fun e st2=>
       (match look st2.hp id with
       | some (.lp _ _ tms2 ps2 as2 body2)=>(match e with
        | .normal=>K (.bool true true) ((id,.lp .ready none tms2 ps2 as2 body2)::st2.hp) st2.nid
        | .ret=>K (.bool true false) ((id,.lp .done (some .ret) tms2 ps2 as2 body2)::st2.hp) st2.nid
        | .exit j=>K (.bool true false) ((id,.lp .done (some (.exit j)) tms2 ps2 as2 body2)::st2.hp) st2.nid)
       | _ => .fail "a round's record")
      | _ => .fail "a round's record")
     | _ => .fail "an assignment")
    | false => .fail "how many are handed out")
   | _ => .fail "a loop that isn't ready"⟩
def hnd(E:Env)(n:Nat):Hnd:=Vt E n true
theorem QIb{r:Nat→Loc}:∀(ts:List Tmp) (vs tm:List AV) (arr:Array Value),arr.size=tm.length→(∀ t,arr.getD t undef=(QL tm t).den r) →
  ((ts.zip (AV.denL r vs)).foldl (fun tmps (t,v)=>tmps.setIfInBounds t v) arr).size=(YN tm ts vs).length∧∀ t,((ts.zip (AV.denL r vs)).foldl (fun tmps (t,v)=>tmps.setIfInBounds t v) arr).getD t undef=(QL (YN tm ts vs) t).den r
 | [],vs,tm,arr,h1,h2=>by simp only[List.zip_nil_left,List.foldl_nil,YN];exact⟨h1,h2⟩
 | t::ts,[],tm,arr,h1,h2=>by simp only[AV.denL,List.zip_nil_right,List.foldl_nil,YN];exact⟨h1,h2⟩
 | t::ts,v::vs,tm,arr,h1,h2=>by
  simp only[AV.denL,List.zip_cons_cons,List.foldl_cons,YN];refine QIb ts vs _ _ (by rw[Ht];simpa using h1) fun t' => ?_
  rw[ZK,Array.getD_eq_getD_getElem?,Array.getElem?_setIfInBounds]
  by_cases htt:t=t'
  ·subst htt
   by_cases hlt:t<arr.size
   ·rw[if_pos rfl,if_pos hlt,if_pos ⟨rfl,h1 ▸ hlt⟩];rfl
   ·rw[if_pos rfl,if_neg hlt,if_neg (by rintro⟨_,h⟩;exact hlt (h1 ▸ h))]
    rw[←h2 t,Array.getD_eq_getD_getElem?,Array.getElem?_eq_none (Nat.le_of_not_lt hlt)]
  ·rw[if_neg htt,if_neg (by rintro⟨h,_⟩;exact htt (by simpa using h)),←h2 t',Array.getD_eq_getD_getElem?]
theorem QNF{p:Nat→Bool}:∀(ts:List Tmp) (vs tm:List AV),AV.allL p tm=true→AV.allL p vs=true→∀ t,(QL (YN tm ts vs) t).all p=true
 | [],vs,tm,h1,_=>fun t=>by
  unfold YN QL;cases ht:tm[t]? with
  | none=>rfl
  | some v=>exact HA h1 v (List.mem_of_getElem? ht)
 | t::ts,[],tm,h1,_=>fun t'=>by
  unfold YN QL;cases ht:tm[t']? with
  | none=>rfl
  | some v=>exact HA h1 v (List.mem_of_getElem? ht)
 | t::ts,v::vs,tm,h1,h2=>by
  simp only[AV.allL,qbA]at h2;refine QNF ts vs _ ?_ h2.2
  have:∀ l:List AV,(∀ x∈l,x.all p=true)→AV.allL p l=true:=by
   intro l
   induction l with
   | nil=>intro _;rfl
   | cons x l ih=>intro h;simp only[AV.allL,h x (by simp),ih (fun y hy=>h y (by simp[hy]))];rfl
  refine this _ fun x hx => ?_;simp only[setO]at hx;rcases List.mem_or_eq_of_mem_set hx with hx|rfl
  ·exact HA h1 x hx
  ·exact h2.1
theorem QTK{tm:List AV}{arr:Array Value}(h1:arr.size=tm.length)(h2:∀ t,arr.getD t undef=(QL tm t).den r):arr=(AV.denL r tm).toArray:=by
 apply Array.ext
 ·simp[Kq,h1]
 ·intro i hi1 hi2;have:=h2 i;rw[Array.getD_eq_getD_getElem?,Array.getElem?_eq_getElem hi1]at this;simp only[Option.getD_some]at this;rw[this];have hlt:i<tm.length:=by omega
  simp only[List.getElem_toArray,Q1,List.getElem_map,QL,List.getElem?_eq_getElem hlt,Option.getD_some]
theorem KW.call(h:KW G n r hp w){rd:Option Nat}:KW ⟨G.w,G.ch,n,r,rd⟩ n r hp w:=⟨h.rep,h.sep,fun _ _=>rfl,h.fr,h.own,h.out,h.blk⟩
theorem KW.back{n':Nat}{r':Nat→Loc}{hp':List (Nat×Blk)}{w':World}{rd:Option Nat}(hn:G.n≤n)(h:KW G n r hp w)(h':KW ⟨G.w,G.ch,n,r,rd⟩ n' r' hp' w'):KW G n' r' hp' w':=
 ⟨h'.rep,h'.sep,fun id hid=>(h'.ext id (Nat.lt_of_lt_of_le hid hn)).trans (h.ext id hid),h'.fr,h'.own,h'.out,h'.blk⟩
theorem KW.toRep(h:KW G n r hp w){tm:List AV}{a:Act}(h1:a.tmps.size=tm.length)(h2:∀ t,a.tmps.getD t undef=(QL tm t).den r)(h3:∀ t,(QL tm t).all (·<n)=true)(h4:Dfr G r (look hp) a){m:Nat}:Rep G n ⟨tm,hp,m⟩ a w:=
 ⟨⟨r,h1,h4,h2,h.rep,fun _ _ hb=>Xz hb,h.sep,h.ext,h.fr,h.own⟩,h3,h.out,h.blk⟩
theorem KW.put(h:KW G n r hp w){id:Nat}{b b':Blk}{o:Obj}(hb:look hp id=some b)(hpl:b.plain=true)(hpl':b'.plain=true)(ho:b.own=true)(hr:b'.live=true→QP r id (w.putObj (r id).blk o) b')(ha:b'.all (·<n)=true):
  KW G n r ((id,b')::hp) (w.putObj (r id).blk o):=by
 have hlk:∀ id' c,look ((id,b')::hp) id'=some c→(id'=id∧c=b'∧b'.live=true)∨(id'≠id∧look hp id'=some c):=by
  intro id' c hc;simp only[K3]at hc;split at hc
  ·rename_i he;have he:id=id':=by simpa using he
   split at hc
   ·rename_i hl;simp only[qsI]at hc;exact .inl ⟨he.symm,hc.symm,hl⟩
   ·cases hc
  ·rename_i he;exact .inr ⟨fun e=>he (by simp[e]),hc⟩
 have hge:=h.own id b hb ho _ ((VD hpl).2 rfl);have hF:∀ k,Qh r id b' k→Qh r id b k:=fun k hk=>(VD hpl).2 ((VD hpl').1 hk);refine⟨fun id' c hc => ?_,fun id1 id2 c1 c2 h1 h2 hne how => ?_,h.ext,?_,fun id' c hc how => ?_,fun id' c hc => ?_,fun id' c hc => ?_⟩
 ·rcases hlk id' c hc with ⟨rfl,rfl,hl⟩|⟨hne,hc⟩
  ·exact hr hl
  ·refine(h.rep id' c hc).keep (p:=fun _=>true) (fun _ _=>rfl) rfl (by simp) (QPO c) fun _ k hk => ?_
   unfold bk;exact World.putObj_heap_other (fun e=>h.sep id id' b c hb hc (Ne.symm hne) ho k ((VD hpl).2 e) hk)
 ·rcases hlk id1 c1 h1 with ⟨rfl,rfl,_⟩|⟨hn1,k1⟩<;>rcases hlk id2 c2 h2 with ⟨rfl,rfl,_⟩|⟨hn2,k2⟩
  ·exact absurd rfl hne
  ·exact fun k hk=>h.sep id1 id2 b c2 hb k2 hne ho k (hF k hk)
  ·exact fun k hk hk'=>h.sep id2 id1 b c1 hb k1 (Ne.symm hne) ho k (hF k hk') hk
  ·exact h.sep id1 id2 c1 c2 k1 k2 hne how
 ·refine⟨h.fr.os,h.fr.tape,h.fr.output,by simpa using h.fr.size,fun k hk hc => ?_⟩
  rw[←h.fr.block k hk hc];unfold bk;refine World.putObj_heap_other ?_;rintro rfl;rcases hge with h1|h1
  ·exact hc h1
  ·omega
 ·rcases hlk id' c hc with ⟨rfl,rfl,_⟩|⟨_,k⟩
  ·exact fun k hk=>h.own id' b hb ho k (hF k hk)
  ·exact h.own id' c k how
 ·rcases hlk id' c hc with ⟨rfl,rfl,_⟩|⟨_,k⟩
  ·exact h.out id' b hb
  ·exact h.out id' c k
 ·rcases hlk id' c hc with ⟨rfl,rfl,_⟩|⟨_,k⟩
  ·exact ha
  ·exact h.blk id' c k
theorem KW.lp{G:Ctx}{n:Nat}{r:Nat→Loc}{hp:List (Nat×Blk)}{w:World}(h:KW G n r hp w){id:Nat}{s s':LoopState}{p p':Option Code}{l:List AV}{ps:Array Tmp}{as body:Code}{rec:Loop}(hb:look hp id=some (.lp s p l ps as body))(hk:bk w (r id).blk=some (.loop rec)):
  KW G n r ((id,.lp s' p' l ps as body)::hp) (w.putObj (r id).blk (.loop { rec with state:=s',pending:=p' })):=by
 refine h.put hb rfl rfl rfl (fun _ => ?_) (by have:=h.blk id _ hb;exact this)
 obtain⟨fn,D,hd⟩:=h.rep id _ hb;rw[hk]at hd;simp only[qsI,Obj.loop.injEq]at hd;subst hd;refine⟨fn,D,?_⟩;unfold bk;exact World.putObj_heap_same (XL hk)
theorem QcO (hE:E.Sound) (hH:∀ G' c,KH E G' H c) {id:Nat} {args:List AV} {nid:Nat} {K:AV→List (Nat×Blk)→Nat→QD} {T:AV→List (Nat×Blk)→Prop} (hn:G.n≤nid) (hI:KW G nid r hp w) (ha:AV.allL (·<nid) args=true)
  (h:(match look hp id with
   | some (.lp .ready _ tms ps as body)=>(match args.length==ps.size with
    | true=>exec E H as ⟨YN tms ps.toList args,hp,nid⟩ fun e st=>(match e with
     | .normal=>(match look st.hp id with
      | some (.lp .ready pend1 tms1 ps1 as1 body1)=>exec E H body { st with hp:=(id,.lp .busy pend1 tms1 ps1 as1 body1)::st.hp } fun e st2=>
       (match look st2.hp id with
       | some (.lp _ _ tms2 ps2 as2 body2)=>(match e with
        | .normal=>K (.bool true true) ((id,.lp .ready none tms2 ps2 as2 body2)::st2.hp) st2.nid
        | .ret=>K (.bool true false) ((id,.lp .done (some .ret) tms2 ps2 as2 body2)::st2.hp) st2.nid
        | .exit j=>K (.bool true false) ((id,.lp .done (some (.exit j)) tms2 ps2 as2 body2)::st2.hp) st2.nid)
       | _ => .fail "a round's record")
      | _ => .fail "a round's record")
     | _ => .fail "an assignment")
    | false => .fail "how many are handed out")
   | _ => .fail "a loop that isn't ready" : QD).den T) :
  ∃ rec,bk w (r id).blk=some (.loop rec)∧args.length=rec.params.size ∧
   RoundIn Fence.wide 0 E.P (r id).blk rec.fn ((rec.params.zip (AV.denL r args).toArray).foldl (fun tmps (t,v)=>tmps.setIfInBounds t v) rec.tmps) rec.assign rec.body w fun e w'=>
    ∃ u,e = .returned u∧∃ v hp' nid' r',(K v hp' nid').den T∧u=v.den r'∧nid≤nid'∧(∀ id,id<nid→r' id=r id)∧KW G nid' r' hp' w'∧v.all (·<nid')=true:=by
 split at h<;>(try (exact h.elim))
 rename_i pend tms ps as body hlk;split at h<;>(try (exact h.elim))
 rename_i hlen;have hlen:args.length=ps.size:=by simpa using hlen
 obtain⟨fn,D,hrec⟩:=hI.rep id _ hlk;have hid:id<nid:=hI.out id _ hlk;have htms:AV.allL (·<nid) tms=true:=hI.blk id _ hlk;refine⟨_,hrec,hlen,QW2 ?_⟩
 have hset:=QIb (r:=r) ps.toList args tms (AV.denL r tms).toArray (by simp[Kq]) (fun t=>by
  rw[Array.getD_eq_getD_getElem?,List.getElem?_toArray,Q1,List.getElem?_map];unfold QL;cases tms[t]? <;> rfl)
 have ezip:((ps.zip (AV.denL r args).toArray).foldl (fun tmps (t,v)=>tmps.setIfInBounds t v) (AV.denL r tms).toArray)=(ps.toList.zip (AV.denL r args)).foldl (fun tmps (t,v)=>tmps.setIfInBounds t v) (AV.denL r tms).toArray:=by
  rw[←Array.foldl_toList];simp
 simp only[ezip];let G':Ctx:=⟨G.w,G.ch,nid,r,some (r id).blk⟩;have hI':KW G' nid r hp w:=hI.call;refine jM (G:=G') hE (hH G' as).call (hH G' as).yield as (hH G' as).loop ⟨YN tms ps.toList args,hp,nid⟩ _ T _ _ w (qlr _) h (hI'.toRep hset.1 hset.2 (QNF _ _ _ htms ha) (Dfr.none rfl)) ?_;intro e st1 a1 w1 hn1 h1 hr1;cases e with
 | exit j=>exact h1.elim
 | ret=>exact h1.elim
 | normal=>
 simp only at h1;split at h1<;>(try (exact h1.elim))
 rename_i pend1 tms1 ps1 as1 body1 hlk1;obtain⟨⟨r1,hI1⟩,hS1⟩:=hr1;obtain⟨fn1,D1,hrec1⟩:=hI1.rep id _ hlk1;have e1:r1 id=r id:=hI1.ext id hid;rw[e1]at hrec1;show ∃ rec1,_;refine⟨_,hrec1,rfl,?_⟩;have hH1:KW G' st1.nid r1 st1.hp w1:=Rep.hinv hI1 hS1;have hput:=hH1.lp (s' := .busy) (p':=pend1) hlk1 (by rw[e1];exact hrec1)
 rw[e1]at hput
 have hd1:Dfr G' r1 (look ((id,.lp .busy pend1 tms1 ps1 as1 body1)::st1.hp)) a1:=hI1.defers.to rfl fun id' _ hd=>⟨by
  simp only[K3];split
  ·rename_i he;have he:id=id':=by simpa using he
   subst he;rw[hlk1]at hd;cases hd
  ·exact hd,rfl⟩
 refine jM (G:=G') hE (hH G' body).call (hH G' body).yield body (hH G' body).loop { st1 with hp:=(id,.lp .busy pend1 tms1 ps1 as1 body1)::st1.hp } _ T _ a1 _ hn1 h1 (hput.toRep (m:=st1.nid) hI1.size hI1.tm hS1.tm hd1) ?_
 intro e st2 a2 w2 hn2 h2 hr2;split at h2<;>(try (exact h2.elim))
 rename_i s2 pend2 tms2 ps2 as2 body2 hlk2;obtain⟨⟨r2,hI2⟩,hS2⟩:=hr2;obtain⟨fn2,D2,hrec2⟩:=hI2.rep id _ hlk2;have e2:r2 id=r id:=hI2.ext id hid;rw[e2]at hrec2;have hH2:KW G' st2.nid r2 st2.hp w2:=Rep.hinv hI2 hS2
 have fin:∀ s' p',KW G st2.nid r2 ((id,.lp s' p' tms2 ps2 as2 body2)::st2.hp) (w2.putObj (r id).blk (.loop { ({ state:=s2,pending:=pend2,fn:=fn2,tmps:=(AV.denL r2 tms2).toArray,params:=ps2,assign:=as2,body:=body2,defers:=D2 }:Loop)with state:=s',pending:=p' })):=by
  intro s' p';have:=hH2.lp (s':=s') (p':=p') hlk2 (by rw[e2];exact hrec2)
  rw[e2]at this;exact KW.back hn hI this
 cases e with
 | normal=>exact QS8 hrec2 ⟨_,rfl,.bool true true,_,_,r2,h2,rfl,hn2,fun i hi=>hI2.ext i hi,fin .ready none,rfl⟩
 | ret=>exact QU2 hrec2 ⟨_,rfl,.bool true false,_,_,r2,h2,rfl,hn2,fun i hi=>hI2.ext i hi,fin .done (some .ret),rfl⟩
 | exit j=>exact Qbr hrec2 ⟨_,rfl,.bool true false,_,_,r2,h2,rfl,hn2,fun i hi=>hI2.ext i hi,fin .done (some (.exit j)),rfl⟩
theorem QZY (hrd:G.rd=none) {call:FuncId→List AV→List (Nat×Blk)→Nat→(AV→List (Nat×Blk)→Nat→QD)→QD} (hC:GP E G call) {g:Operand} {ps:Array Tmp} {as body:Code} {st:St} {K:Ex→St→QD} {T:AV→List (Nat×Blk)→Prop} {Q:Exit→Act→World→Prop} {a:Act} (hn:G.n≤st.nid)
  (h : (match evA st.tm g with
        | .fn (.func f) cap => call f (.yld (st.nid + 1) :: cap) ((st.nid + 1,.lp .ready none st.tm ps as body) :: (st.nid,.dfr) :: st.hp) (st.nid + 8) fun _ hp nid =>
          (match Wq ((st.nid,.dfr) :: st.hp) hp with
          | true => (match look hp (st.nid + 1)with
            | some (.lp s pend _ _ _ _) => (match s with
              | .busy => .fail "a busy loop"
              | _ => match pend with
                | none => K .normal ⟨st.tm,(st.nid + 1,.gone) :: hp,nid⟩
                | some .ret => K .ret ⟨st.tm,(st.nid + 1,.gone) :: hp,nid⟩
                | some (.exit j) => K (.exit j) ⟨st.tm,(st.nid + 1,.gone) :: hp,nid⟩
                | _ => .fail "pending")
            | _ => .fail "the loop's record")
          | false => .fail "deferred")
        | _ => .fail "what is ranged over" : QD).den T) (hr : Rep G st.nid st a w)
  (hQ:∀ e st' a' w',G.n≤st'.nid→(K e st').den T→Rep G st'.nid st' a' w'→Q e.to a' w'):(Code.rangeFunc g ps as body).wpIn (FW G.rd) 0 E.P Q a w:=by
 obtain⟨⟨r,hI⟩,hS⟩:=hr;have heg:a.eval g=(evA st.tm g).den r:=Gi fun t _=>hI.tm t;split at h<;>(try (exact h.elim))
 rename_i f cap hg;rw[hg]at heg
 have hcap:AV.allL (·<st.nid) cap=true:=by
  have:=jH (x:=g) hS.tm;rw[hg]at this;exact this
 have htm:∀ t,(QL st.tm t).all (·<st.nid)=true:=hS.tm
 have htmL:AV.allL (·<st.nid) st.tm=true:=by
  have:∀ l:List AV,(∀ x∈l,x.all (·<st.nid)=true)→AV.allL (·<st.nid) l=true:=by
   intro l
   induction l with
   | nil=>intro _;rfl
   | cons x l ih=>intro h;simp only[AV.allL,h x (by simp),ih (fun y hy=>h y (by simp[hy]))];rfl
  refine this _ fun x hx => ?_;obtain⟨t,ht⟩:=List.getElem?_of_mem hx;have:=htm t;unfold QL at this;rw[ht]at this;exact this
 let r':Nat→Loc:=fun i=>if i=st.nid then Loc.of w.heap.size 0 0 0 else if i=st.nid+1 then Loc.of (w.heap.size+1) 0 0 0 else r i
 have hr':∀ i,i<st.nid→r' i=r i:=by
  intro i hi;show(if i=st.nid then _ else if i=st.nid+1 then _ else r i)=r i
  rw[if_neg (by omega),if_neg (by omega)]
 have hrD:r' st.nid=Loc.of w.heap.size 0 0 0:=by show(if _ then _ else _)=_;rw[if_pos rfl]
 have hrL:r' (st.nid+1)=Loc.of (w.heap.size+1) 0 0 0:=by
  show(if _ then _ else _)=_
  rw[if_neg (by omega),if_pos rfl]
 have hcong:∀ i,decide (i<st.nid)=true→r i=r' i:=fun i hi=>(hr' i (by simpa using hi)).symm
 have hargs:(AV.denL r' (.yld (st.nid+1)::cap)).toArray = #[.func (.yield (w.heap.size+1)) #[] #[]]++(AV.denL r cap).toArray:=by
  rw[denL_congr hcong cap hcap];simp only[AV.denL,AV.den,hrL,Loc.of];simp
 have hsz:∀ fn,((w.alloc (.deferred (some []))).alloc (.loop { state := .ready,pending:=none,fn,tmps:=a.tmps,params:=ps,assign:=as,body,defers:=w.heap.size })).heap.size=w.heap.size+2:=by intro fn;unfold World.alloc;simp only[Array.size_push]
 have hold:∀ fn k,k<w.heap.size→bk ((w.alloc (.deferred (some []))).alloc (.loop { state := .ready,pending:=none,fn,tmps:=a.tmps,params:=ps,assign:=as,body,defers:=w.heap.size })) k=bk w k:=by
  intro fn k hk;unfold bk World.alloc;simp only[Array.getElem?_push,Array.size_push];rw[if_neg (by omega),if_neg (by omega)]
 have hfoot:∀(id:Nat) (b:Blk) (k:Nat),id<st.nid→(Qh r' id b k↔Qh r id b k):=fun id b k hid=>by unfold Qh;rw[hr' id hid]
 have hHI:∀ fn,KW G (st.nid+8) r' ((st.nid+1,.lp .ready none st.tm ps as body)::(st.nid,.dfr)::st.hp) ((w.alloc (.deferred (some []))).alloc (.loop { state := .ready,pending:=none,fn,tmps:=a.tmps,params:=ps,assign:=as,body,defers:=w.heap.size })):=by
  intro fn
  have hlk:∀ id b,look ((st.nid+1,.lp .ready none st.tm ps as body)::(st.nid,.dfr)::st.hp) id=some b→(id=st.nid+1∧b = .lp .ready none st.tm ps as body)∨(id=st.nid∧b = .dfr)∨(id<st.nid∧look st.hp id=some b∧∀ k,Qh r id b k→k<w.heap.size):=by
   intro id b hb;simp only[K3]at hb;split at hb
   ·rename_i he;simp only[Blk.live,if_true,qsI]at hb
    exact .inl ⟨by have : st.nid + 1 = id := by simpa using he
                   exact this.symm,hb.symm⟩
   ·split at hb
    ·rename_i he;simp only[Blk.live,if_true,qsI]at hb
     exact .inr (.inl ⟨by have : st.nid = id := by simpa using he
                          exact this.symm,hb.symm⟩)
    ·exact .inr (.inr ⟨hS.out id b hb,hb,(hI.rep id b hb).lt (hI.live id b hb)⟩)
  refine⟨fun id b hb => ?_,fun id id' b b' hb hb' hne ho k hk hk' => ?_,fun id hid => ?_,?_,fun id b hb ho k hk => ?_,fun id b hb => ?_,fun id b hb => ?_⟩
  ·rcases hlk id b hb with ⟨rfl,rfl⟩|⟨rfl,rfl⟩|⟨h1,h2,h3⟩
   ·refine⟨fn,w.heap.size,?_⟩;rw[hrL];show bk _ (w.heap.size+1)=_;rw[←denL_congr hcong _ htmL,←QTK hI.size hI.tm];unfold bk World.alloc;simp only[Array.getElem?_push,Array.size_push,if_true]
   ·show bk _ (r' st.nid).blk=_;rw[hrD];show bk _ w.heap.size=_;unfold bk World.alloc;simp only[Array.getElem?_push,Array.size_push,if_true];rw[if_neg (by omega)]
   ·refine(hI.rep id b h2).keep hcong (hr' id h1).symm (by rw[hsz];omega) (hS.blk id b h2) fun _ k hk=>hold fn _ (h3 k hk)
  ·rcases hlk id b hb with ⟨rfl,rfl⟩|⟨rfl,rfl⟩|⟨h1,h2,h3⟩<;>rcases hlk id' b' hb' with ⟨rfl,rfl⟩|⟨rfl,rfl⟩|⟨g1,g2,g3⟩
   ·exact absurd rfl hne
   ·have e1:k=(r' (st.nid+1)).blk:=hk;have e2:k=(r' st.nid).blk:=hk';rw[hrL]at e1;rw[hrD]at e2;simp only[Loc.of]at e1 e2;omega
   ·have e1:k=(r' (st.nid+1)).blk:=hk;rw[hrL]at e1;simp only[Loc.of]at e1;have:=g3 k ((hfoot _ _ _ g1).1 hk');omega
   ·cases ho
   ·cases ho
   ·cases ho
   ·have e1:k=(r' (st.nid+1)).blk:=hk';rw[hrL]at e1;simp only[Loc.of]at e1;have:=h3 k ((hfoot _ _ _ h1).1 hk);omega
   ·have e1:k=(r' st.nid).blk:=hk';rw[hrD]at e1;simp only[Loc.of]at e1;have:=h3 k ((hfoot _ _ _ h1).1 hk);omega
   ·exact hI.sep _ _ _ _ h2 g2 hne ho k ((hfoot _ _ _ h1).1 hk) ((hfoot _ _ _ g1).1 hk')
  ·rw[hr' id (Nat.lt_of_lt_of_le hid hn)];exact hI.ext id hid
  ·refine⟨hI.fr.os,hI.fr.tape,hI.fr.output,by rw[hsz];have:=hI.fr.size;omega,fun k hk hc => ?_⟩
   rw[hold fn k (Nat.lt_of_lt_of_le hk hI.fr.size)];exact hI.fr.block k hk hc
  ·rcases hlk id b hb with ⟨rfl,rfl⟩|⟨rfl,rfl⟩|⟨h1,h2,h3⟩
   ·have e1:k=(r' (st.nid+1)).blk:=hk;rw[hrL]at e1;simp only[Loc.of]at e1;exact .inr (by have:=hI.fr.size;omega)
   ·cases ho
   ·exact hI.own id b h2 ho k ((hfoot _ _ _ h1).1 hk)
  ·rcases hlk id b hb with ⟨rfl,rfl⟩|⟨rfl,rfl⟩|⟨h1,h2,h3⟩<;>omega
  ·rcases hlk id b hb with ⟨rfl,rfl⟩|⟨rfl,rfl⟩|⟨h1,h2,h3⟩
   ·exact allL_mono (Xk (by omega)) _ htmL
   ·rfl
   ·exact Blk.all_mono (Xk (by omega)) _ (hS.blk id b h2)
 have hall:AV.allL (·<st.nid+8) (.yld (st.nid+1)::cap)=true:=by
  simp only[AV.allL,AV.all,qbA,qdE];exact⟨by omega,allL_mono (Xk (by omega)) _ hcap⟩
 have key:=fun fn=>hC f _ _ (st.nid+8) _ T r' _ (by omega) (hHI fn) hall h
 rw[hrd];refine QZl (gf:=f) (lb:=(AV.denL r cap).toArray) (by rw[heg];rfl) (key 0).1 fun fn => ?_
 have:=(key fn).2;rw[hargs]at this;refine this.mono ?_;rintro e w3 ⟨v,hp',nid',r2,hK,rfl,hle,hrr,hH,hv⟩;split at hK<;>(try (exact hK.elim))
 rename_i hkd;split at hK<;>(try (exact hK.elim))
 rename_i s pend tms' ps' as' body' hlk;obtain⟨fn3,D3,hrec⟩:=hH.rep _ _ hlk;have e1:(r2 (st.nid+1)).blk=w.heap.size+1:=by rw[hrr _ (by omega),hrL];rfl
 rw[e1]at hrec;have hge:=hI.fr.size;have hr2:∀ i,i<st.nid→r2 i=r i:=fun i hi=>(hrr i (by omega)).trans (hr' i hi)
 have fin:∀ o,Rep G nid' ⟨st.tm,(st.nid+1,.gone)::hp',nid'⟩ { a with defers:=Wx w.heap.size::a.defers } (w3.putObj (w.heap.size+1) o):=by
  intro o;have hp:=hH.put (b' := .gone) (o:=o) hlk rfl rfl rfl (fun hl=>by cases hl) rfl
  rw[e1]at hp;refine hp.toRep (a:={ a with defers:=Wx w.heap.size::a.defers }) hI.size (fun t => ?_) (fun t=>all_mono (Xk (by omega)) _ (htm t)) ?_
  ·rw[hI.tm t];exact J7 (p:=(·<st.nid)) (fun i hi=>(hr2 i (by simpa using hi)).symm) _ (htm t)
  ·obtain⟨ds,d1,d2,d3⟩:=hI.defers
   have hkeep:∀ id,look ((st.nid,Blk.dfr)::st.hp) id=some .dfr→look ((st.nid+1,.gone)::hp') id=some .dfr:=by
    intro id hid;have:=QNm hkd hid;simp only[K3];split
    ·rename_i he;have he:st.nid+1=id:=by simpa using he
     subst he;rw[hlk]at this;cases this
    ·exact this
   have hlt:∀ id∈ds,id<st.nid∧(r id).blk<w.heap.size:=fun id hid=>⟨hS.out id _ (d3 id hid).2.1,(hI.rep id _ (d3 id hid).2.1).lt rfl _ rfl⟩;have hD:(r2 st.nid).blk=w.heap.size:=by rw[hrr _ (by omega),hrD];rfl
   have emap:ds.map (fun id=>(r2 id).blk)=ds.map (fun id=>(r id).blk):=List.map_congr_left fun id hid=>by rw[hr2 id (hlt id hid).1]
   refine⟨st.nid::ds,?_,?_,fun id hid => ?_⟩
   ·simp only[List.map_cons,hD];rw[d1];congr 1;exact List.map_congr_left fun id hid=>by rw[hr2 id (hlt id hid).1]
   ·simp only[List.map_cons,hD,List.nodup_cons,emap];refine⟨fun hm => ?_,d2⟩;obtain⟨id,hid,he⟩:=List.mem_map.1 hm;have:=(hlt id hid).2;omega
   ·rcases List.mem_cons.1 hid with rfl|hid
    ·exact⟨hn,hkeep _ (by simp[K3,Blk.live]),by rw[hD];exact hge⟩
    ·refine⟨(d3 id hid).1,hkeep _ ?_,by rw[hr2 id (hlt id hid).1];exact(d3 id hid).2.2⟩
     have hne:(st.nid==id)=false:=by have:=(hlt id hid).1;simp;omega
     simp only[K3,hne];exact(d3 id hid).2.1
 have hK2:s ≠ .busy∧(match (generalizing:=false) pend with
   | none=>K .normal ⟨st.tm,(st.nid+1,.gone)::hp',nid'⟩
   | some .ret=>K .ret ⟨st.tm,(st.nid+1,.gone)::hp',nid'⟩
   | some (.exit j)=>K (.exit j) ⟨st.tm,(st.nid+1,.gone)::hp',nid'⟩
   | _ => .fail "pending" : QD).den T := by
  split at hK
  ·exact hK.elim
  ·rename_i hs;exact⟨hs,hK⟩
 refine⟨_,_,rfl,hrec,hK2.1,?_⟩;have hK3:=hK2.2;have hn':G.n≤nid':=by omega
 split at hK3<;>(try (exact hK3.elim))
 ·exact hQ .normal _ _ _ hn' hK3 (fin _)
 ·exact wpIn_ret (hQ .ret _ _ _ hn' hK3 (fin _))
 ·rename_i j;exact wpIn_exit (hQ (.exit j) _ _ _ hn' hK3 (fin _))
theorem QXc:∀(n:Nat) (fr:Bool) (s:Code),(∀ body,s ≠ .loop body)→(∀ g ps as body,s ≠ .rangeFunc g ps as body)→J5 E G s ((Vt E n fr).loop s)
 | 0,_,s,_,_=>fun st K T Q a w _ h _ _=>h.elim
 | n+1,_,s,hs,hr=>fun st K T Q a w _ h _ _=>by
  cases s with
  | loop body=>exact absurd rfl (hs _)
  | rangeFunc g ps as body=>exact absurd rfl (hr _ _ _ _)
  | _=>exact h.elim
structure G5 (E:Env) (G:Ctx) (n:Nat) (fr:Bool):Prop where
 rounds:∀(body:Code) (st:St) (K:Ex→St→QD) (T:AV→List (Nat×Blk)→Prop) (Q:Exit→Act→World→Prop) (a:Act) (w:World),G.n≤st.nid→((Vt E n fr).loop (.loop body) st K).den T→Rep G st.nid st a w →
  (∀ e st' a' w',G.n≤st'.nid→(K e st').den T→Rep G st'.nid st' a' w'→Q e.to a' w')→Code.roundsIn (FW G.rd) 0 E.P body Q n a w
 range:∀ g ps as body,J5 E G (.rangeFunc g ps as body) ((Vt E n fr).loop (.rangeFunc g ps as body))
 call:GP E G (Vt E n fr).call
 yield:QBI E G (Vt E n fr).yield
theorem G5.stmt{fr:Bool}(h:G5 E G n fr)(s:Code):J5 E G s ((Vt E n fr).loop s):=by
 by_cases hs:∃ body,s = .loop body
 ·obtain⟨body,rfl⟩:=hs;exact fun st K T Q a w h1 h2 h3 h4=>wpIn_loop_rounds n (h.rounds body st K T Q a w h1 h2 h3 h4)
 ·by_cases hr:∃ g ps as body,s = .rangeFunc g ps as body
  ·obtain⟨g,ps,as,body,rfl⟩:=hr;exact h.range g ps as body
  ·exact QXc n fr s (fun body he=>hs ⟨body,he⟩) fun g ps as body he=>hr ⟨g,ps,as,body,he⟩
theorem G5.ok{fr:Bool}(h:G5 E G n fr)(c:Code):KH E G (Vt E n fr) c:=⟨fun s _=>h.stmt s,h.call,h.yield⟩
theorem QQe{E:Env}(hE:E.Sound):∀(n:Nat) (fr:Bool) (G:Ctx),(fr=true→G.rd=none)→G5 E G n fr
 | 0,fr,G,_=>⟨fun body st K T Q a w _ h _ _=>h.elim,fun g ps as body st K T Q a w _ h _ _=>h.elim,fun g args hp nid K T r w _ _ _ h=>h.elim,fun id args hp nid K T r w _ _ _ h=>h.elim⟩
 | n+1,fr,G,hfr=>by
  have ih:=QQe hE n;refine⟨fun body st K T Q a w hn h hr hQ => ?_,fun g ps as body st K T Q a w hn h hr hQ => ?_,fun g args hp nid K T r w hn hH hs h => ?_,fun id args hp nid K T r w hn hH hs h => ?_⟩
  ·rw[roundsIn_succ];simp only[Vt]at h;refine jM hE (ih fr G hfr).call (ih fr G hfr).yield body (fun s _=>(ih fr G hfr).stmt s) st _ T _ a w hn h hr ?_;intro e st' a' w' hn' h' hr';cases e with
   | normal=>exact(ih fr G hfr).rounds body st' K T Q a' w' hn' h' hr' hQ
   | exit id=>exact hQ (.exit id) st' a' w' hn' h' hr'
   | ret=>exact hQ .ret st' a' w' hn' h' hr'
  ·cases fr with
   | false=>exact h.elim
   | true=>exact QZY (hfr rfl) (ih true G hfr).call hn h hr hQ
  ·simp only[Vt]at h;split at h
   ·rename_i fn hf;split at h
    ·rename_i hgo;refine⟨hgo,?_⟩;simp only[j4 QTm,j4 HJ,j4 QAU,j4 QIv]at h
     have hb:∃ c,fn.body=some c:=by
      cases hb:fn.body with
      | none=>simp only[Vc,hb]at h;exact h.elim
      | some c=>exact⟨c,rfl⟩
     obtain⟨c,hb⟩:=hb;have:=vR hE hf hb (G:=⟨G.w,G.ch,nid,r,none⟩) ((ih true _ fun _=>rfl).ok c) rfl hH.call hs h;refine this.mono ?_;rintro e w' ⟨v,h',nid',r',hK,rfl,hle,hI,hv⟩;exact⟨v,_,nid',r',hK,rfl,hle,hI.ext,(KW.back hn hH hI).sub fun _ _ e=>QUf e,hv⟩
    ·exact h.elim
   ·exact h.elim
  ·exact QcO hE (fun G' c=>(ih false G' (fun h=>by cases h)).ok c) hn hH hs h
theorem Qz(hE:E.Sound)(n:Nat)(G:Ctx)(c:Code)(hG:G.rd=none):KH E G (hnd E n) c:=(QQe hE n true G fun _=>hG).ok c
mutual
def AV.known:AV→Bool
 | .int c _ _=>c
 | .bool c _=>c
 | .slice c _ _ _ _=>c
 | .fn _ cap=>AV.knownL cap
 | .mth _ l=>AV.knownL l
 | .alt .. => false
 | .ifc _ v=>v.known
 | .opt .. => false
 | .slz .. => false
 | .agg l=>AV.knownL l
 | .tup l=>AV.knownL l
 | _=>true
def AV.knownL:List AV→Bool
 | []=>true
 | v::l=>v.known&&AV.knownL l
end
abbrev PF:=List AV→Option (Bool×AV)
def KD(F:PF):FC:=fun args _ _=>([],fun _=>match F args with
 | some (p,v)=>match AV.knownL args with
  | true=>some ⟨true,p,v.setK true,[]⟩
  | false=>some ⟨false,p,v.setK false,[]⟩
 | none=>none)
theorem QLO(hE:E.Sound){fn:Func}(hf:E.P.funcs[f]? = some fn)(hb:fn.body=some c)(hgo:J3 E.P f=true)(hl:∀ G,G.n=0→G.rd=none→KH E G H c){F:PF}(hF:∀ args v,F args=some (true,v)→∃ args',(∀ r,AV.denL r args'=AV.denL r args)∧AV.allL (fun _=>false) args'=true∧(Q8 E H false fn args' [] 0).den fun u _=>∀ r r',u.den r'=v.den r):QQ E.P f (KD F):=by
 refine⟨hgo,fun args nid all r w lk blks eff _ _ _ he hp => ?_⟩
 have:∃ v,F args=some (true,v)∧eff.upd=[]∧∀ r,eff.val.den r=v.den r:=by
  simp only[KD]at he;split at he<;>(try (cases he;done))
  rename_i p v hFa;split at he<;>simp only[qsI]at he<;>subst he<;>simp only at hp<;>subst hp<;>exact⟨v,hFa,rfl,fun r=>qL r _ v⟩
 obtain⟨v,hFa,hu,hv⟩:=this;obtain⟨args',h1,h2,h3⟩:=hF args v hFa;have:=vR hE hf hb (G:=⟨w,fun _=>False,0,r,none⟩) (hl _ rfl rfl) (args:=args') (hp:=[]) (nid:=0) (r:=r) (w:=w) rfl ⟨by simp[look],by simp[look],by simp,Fr.refl _ _,by simp[look],by simp[look],by simp[look]⟩ (allL_mono (fun _ h=>by cases h) _ h2) h3
 rw[←h1 r];refine this.mono fun e w' ⟨u,h',nid',r',hT,he,_,hI,_⟩=>⟨r,by rw[he,hT r r',hv r],?_⟩
 rw[hu];exact⟨fun _ _=>rfl,by simp,⟨hI.fr.os,hI.fr.tape,hI.fr.output,hI.fr.size,fun k hk _=>hI.fr.block k hk (by simp)⟩,by simp,by simp,by simp⟩
mutual
def AV.same:AV→AV→Prop
 | .int _ k n,.int _ k' n'=>k=k'∧n=n'
 | .bool _ b,.bool _ b'=>b=b'
 | .nilp,.nilp=>True
 | .nils,.nils=>True
 | .nilm,.nilm=>True
 | .nilf,.nilf=>True
 | .nili,.nili=>True
 | .str s,.str s'=>s=s'
 | .ifc t v,.ifc t' v'=>t=t'∧v.same v'
 | .agg l,.agg l'=>AV.sameL l l'
 | .tup l,.tup l'=>AV.sameL l l'
 | _,_=>False
def AV.sameL:List AV→List AV→Prop
 | [],[]=>True
 | v::l,v'::l'=>v.same v'∧AV.sameL l l'
 | _,_=>False
end
mutual
theorem QHh(r r':Nat→Loc):∀ u v:AV,u.same v→u.den r'=v.den r
 | .int ..,v,h=>by cases v<;>simp only[AV.same]at h;obtain⟨rfl,rfl⟩:=h;rfl
 | .bool ..,v,h=>by cases v<;>simp only[AV.same]at h;subst h;rfl
 | .nilp,v,h=>by cases v<;>simp only[AV.same]at h;rfl
 | .nils,v,h=>by cases v<;>simp only[AV.same]at h;rfl
 | .nilm,v,h=>by cases v<;>simp only[AV.same]at h;rfl
 | .nilf,v,h=>by cases v<;>simp only[AV.same]at h;rfl
 | .nili,v,h=>by cases v<;>simp only[AV.same]at h;rfl
 | .str ..,v,h=>by cases v<;>simp only[AV.same]at h;subst h;rfl
 | .ifc t u,v,h=>by cases v<;>simp only[AV.same]at h;obtain⟨rfl,h⟩:=h;simp only[AV.den];rw[QHh r r' u _ h]
 | .agg l,v,h=>by cases v<;>simp only[AV.same]at h;simp only[AV.den];rw[same_denL r r' l _ h]
 | .tup l,v,h=>by cases v<;>simp only[AV.same]at h;simp only[AV.den];rw[same_denL r r' l _ h]
 | .ptr ..,v,h=>by cases v<;>simp only[AV.same]at h
 | .addr ..,v,h=>by cases v<;>simp only[AV.same]at h
 | .slice ..,v,h=>by cases v<;>simp only[AV.same]at h
 | .map ..,v,h=>by cases v<;>simp only[AV.same]at h
 | .yld ..,v,h=>by cases v<;>simp only[AV.same]at h
 | .fn ..,v,h=>by cases v<;>simp only[AV.same]at h
 | .mth ..,v,h=>by cases v<;>simp only[AV.same]at h
 | .alt ..,v,h=>by cases v<;>simp only[AV.same]at h
 | .raw ..,v,h=>by cases v<;>simp only[AV.same]at h
 | .opt ..,v,h=>by cases v<;>simp only[AV.same]at h
theorem same_denL(r r':Nat→Loc):∀ u v:List AV,AV.sameL u v→AV.denL r' u=AV.denL r v
 | [],v,h=>by cases v<;>simp only[AV.sameL]at h;rfl
 | x::l,v,h=>by
  cases v<;>simp only[AV.sameL]at h
  simp only[AV.denL];rw[QHh r r' x _ h.1,same_denL r r' l _ h.2]
end
def qE(P:Program)(t:TypeId)(name:String):Option FuncId:=
 match P.info? t,P.underlying t with
 | some i,some u=>match i.methods.find? (·.name==name)with
  | some m=>match m.path.toList,m.func with
   | [],some (f,pr)=>match u,pr with
    | .pointer _,true=>some f
    | .pointer _,false=>none
    | _,false=>some f
    | _,true=>none
   | _,_=>none
  | none=>none
 | _,_=>none
theorem vu(P:Program):HE P (qE P):=by
 intro t name f h v w;unfold qE at h;split at h<;>(try (cases h;done))
 rename_i i u hi hu;split at h<;>(try (cases h;done))
 rename_i m hm;split at h<;>(try (cases h;done))
 rename_i f' pr hp hf;rw[show P.types.size+Made.depth=(P.types.size+Made.depth-1)+1 by simp[Made.depth]]
 split at h<;>(try (cases h;done))<;>simp only[qsI]at h<;>subst h <;>
  simp[method,typeInfo,hi,hm,hp,hf,follow,receiverAt,run_underlying hu,Place.get]
class Enc (α:Type) where
 enc:α→AV
 dec:AV→Option α
 ok:∀ v x,dec v=some x→(∀ r,(enc x).den r=v.den r)∧(enc x).all (fun _=>false)=true
class Qt (α:Type) where
 enc:α→List AV
 dec:List AV→Option α
 ok:∀ v x,dec v=some x→(∀ r,AV.denL r (enc x)=AV.denL r v)∧AV.allL (fun _=>false) (enc x)=true
instance : Enc Int where
  enc n := .int false .i64 n
  dec | .int _ .i64 n => some n | _ => none
  ok v x h := by
    split at h <;> (try (cases h; done))
    simp only[qsI]at h; subst h; exact⟨fun _ => rfl,rfl⟩
instance : Enc Bool where
  enc b := .bool false b
  dec | .bool _ b => some b | _ => none
  ok v x h := by
    split at h <;> (try (cases h; done))
    simp only[qsI]at h; subst h; exact⟨fun _ => rfl,rfl⟩
instance : Qt Unit where
  enc _ := []
  dec | [] => some () | _ => none
  ok v x h := by
    split at h <;> (try (cases h; done))
    exact⟨fun _ => rfl,rfl⟩
instance {α β : Type} [Enc α] [Qt β] : Qt (α × β) where
  enc x := Enc.enc x.1 :: Qt.enc x.2
  dec | v :: l => match Enc.dec v,Qt.dec l with
        | some a,some b => some (a,b)
        | _,_ => none
      | _ => none
  ok v x h := by
    split at h <;> (try (cases h; done))
    split at h <;> (try (cases h; done))
    rename_i a b ha hb;simp only[qsI]at h; subst h;have h1 := Enc.ok _ a ha;have h2 := Qt.ok _ b hb;exact⟨fun r => by simp only[AV.denL]; rw[h1.1 r,h2.1 r],by simp only[AV.allL,h1.2,h2.2]; rfl⟩
theorem QD.den_mono{Q Q':AV→List (Nat×Blk)→Prop}(h:∀ v l,Q v l→Q' v l):∀{t:QD},t.den Q→t.den Q'
 | .leaf v l,ht=>h v l ht
 | .br _ _ _,ht=>⟨fun hb=>QD.den_mono h (ht.1 hb),fun hb=>QD.den_mono h (ht.2 hb)⟩
 | .need _ _,ht=>⟨ht.1,QD.den_mono h ht.2⟩
 | .all _,ht=>fun g=>QD.den_mono h (ht g)
 | .asm _ _,ht=>fun hp=>QD.den_mono h (ht hp)
 | .ask _ _,ht=>⟨ht.1,QD.den_mono h ht.2⟩
 | .both _ _,ht=>⟨QD.den_mono h ht.1,QD.den_mono h ht.2⟩
 | .bnd _ _,ht=>fun x hx=>QD.den_mono h (ht x hx)
 | .bndI _ _,ht=>fun x hx=>QD.den_mono h (ht x hx)
 | .fail _,ht=>ht.elim
theorem Ga{t t':QD}{Q:AV→List (Nat×Blk)→Prop}(e:t=t')(h:t'.den Q):t.den Q:=e ▸ h
def KE[Qt α](f:α→Bool×AV):PF:=fun args=>match (Qt.dec args:Option α)with
 | some x=>some (f x)
 | none=>none
theorem QF8(hE:E.Sound){fn:Func}(hf:E.P.funcs[f]? = some fn)(hb:fn.body=some c)(hgo:J3 E.P f=true)(hl:∀ G,G.n=0→G.rd=none→KH E G H c)[Qt α]{F:α→Bool×AV}(hF:∀ x,(F x).1=true→(Q8 E H false fn (Qt.enc x) [] 0).den fun u _=>u.same (F x).2):QQ E.P f (KD (KE F)):=by
 refine QLO hE hf hb hgo hl fun args v h => ?_;unfold KE at h;split at h<;>(try (cases h;done))
 rename_i x hx;simp only[qsI]at h;obtain⟨h1,h2⟩:=Qt.ok args x hx;refine⟨Qt.enc x,h1,h2,?_⟩;have:=hF x (by rw[h])
 refine QD.den_mono ?_ this;intro u _ hs r r';rw[h]at hs;exact QHh r r' _ _ hs
theorem Qap(hE:E.Sound){fn:Func}(hf:E.P.funcs[f]? = some fn)(hb:fn.body=some c)(hgo:J3 E.P f=true)(hl:∀ G,G.n=0→G.rd=none→KH E G H c)[Qt α]{F:α→Bool×AV}(hF:∀ x,(F x).1=true→(Q8 E H false fn (Qt.enc x) [] 0).den fun u _=>∀ r r',u.den r'=(F x).2.den r):QQ E.P f (KD (KE F)):=by
 refine QLO hE hf hb hgo hl fun args v h => ?_;unfold KE at h;split at h<;>(try (cases h;done))
 rename_i x hx;simp only[qsI]at h;obtain⟨h1,h2⟩:=Qt.ok args x hx;have:=hF x (by rw[h])
 rw[h]at this;exact⟨Qt.enc x,h1,h2,this⟩
end Go.SX
