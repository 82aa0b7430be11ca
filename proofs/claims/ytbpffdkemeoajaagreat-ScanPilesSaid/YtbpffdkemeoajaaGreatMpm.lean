/- - -/
import Derived.Test.YtbpffdkemeoajaaGreatMpl
namespace Go.SX
open Go Go.RowKit Go.Proofs.YtbpffdkemeoajaaGreat
def Yk:List AV->List Tmp->List AV->List AV
 | tm,t::ts,v::vs=>Yk (setO tm (some t) v) ts vs
 | tm,_,_=>tm
mutual
def AV.idsFrom(N:Nat):AV->List Nat
 | .ptr id _ _=>if N<=id then [id]else []
 | .slice _ id _ _ _=>if N<=id then [id]else []
 | .slz id _ _ _=>if N<=id then [id]else []
 | .map id=>if N<=id then [id]else []
 | .yld id=>if N<=id then [id]else []
 | .fn _ l=>AV.idsFromL N l
 | .mth _ l=>AV.idsFromL N l
 | .alt _ v w=>v.idsFrom N++w.idsFrom N
 | .ifc _ v=>v.idsFrom N
 | .agg l=>AV.idsFromL N l
 | .tup l=>AV.idsFromL N l
 | _=>[]
def AV.idsFromL(N:Nat):List AV->List Nat
 | []=>[]
 | v::l=>v.idsFrom N++AV.idsFromL N l
end
def Blk.idsFrom(N:Nat):Blk->List Nat
 | .cells _ _ l=>AV.idsFromL N l
 | .cellsR _ _ l=>AV.idsFromL N l
 | .rowl _ _ l=>AV.idsFromL N l.flatten
 | .rowlR _ _ l=>AV.idsFromL N l.flatten
 | .lp _ _ l _ _ _=>AV.idsFromL N l
 | _=>[]
def YK:List Nat->List Nat->List Nat
 | [],acc=>acc
 | x::l,acc=>match acc.contains x with
  | true=>YK l acc
  | false=>YK l (acc++[x])
def Ge(N:Nat)(h:List (Nat×Blk)):Nat->List Nat->List Nat
 | 0,l=>l
 | n+1,l=>Ge N h n (YK (l.flatMap λid=>match look h id with|some b=>b.idsFrom N|none=>[]) l)
def zl(n:Nat):List (Nat×Blk)->List (Nat×Blk)
 | []=>[]
 | (i,b)::l=>match Nat.blt i n with
  | true=>(i,b)::zl n l
  | false=>zl n l
def Zs(h:List (Nat×Blk)):List Nat->List (Nat×Blk)
 | []=>[]
 | i::l=>match look h i with
  | some b=>(i,b)::Zs h l
  | none=>Zs h l
def gcH(on:Bool)(n:Nat)(v:AV)(h:List (Nat×Blk)):List (Nat×Blk):=match on with
 | false=>h
 | true=>zl n h++Zs h (Ge n h 8 (YK (v.idsFrom n++(zl n h).flatMap λp=>p.2.idsFrom n) []))
theorem QG4{n:Nat}:∀{h t:List (Nat×Blk)} {id:Nat} {b:Blk},look (zl n h++t) id=some b->(id<n/\look h id=some b)∨look t id=some b
 | [],t,id,b,e => .inr e
 | (i,c)::l,t,id,b,e=>by
  simp only[zl]at e;split at e
  .rename_i hi;rw[List.cons_append,JD]at e
   by_cases h:i=id
   .subst h;simp only[beq_self_eq_true,if_true]at e;refine .inl ⟨Nat.le_of_ble_eq_true hi,?_⟩;rw[JD];simp only[beq_self_eq_true,if_true];exact e
   .have h2:(i==id)=false:=by simpa using h
    simp only[h2,Bool.false_eq_true,if_false]at e;rcases QG4 e with ⟨h3,h4⟩|h3
    .refine .inl ⟨h3,?_⟩;rw[JD];simp only[h2,Bool.false_eq_true,if_false];exact h4
    .exact .inr h3
  .rename_i hi;rcases QG4 e with ⟨h3,h4⟩|h3
   .refine .inl ⟨h3,?_⟩
    have h2:(i==id)=false:=by
     cases hb:(i==id)with
     | true=>
      have:i=id:=by simpa using hb
      subst this;rw[show Nat.blt i n=true from Nat.ble_eq_true_of_le h3]at hi;cases hi
     | false=>rfl
    rw[JD];simp only[h2,Bool.false_eq_true,if_false];exact h4
   .exact .inr h3
theorem QHi{h:List (Nat×Blk)}:∀{l:List Nat} {id:Nat} {b:Blk},look (Zs h l) id=some b->look h id=some b
 | [],_,_,e=>by cases e
 | i::l,id,b,e=>by
  simp only[Zs]at e;split at e
  .rename_i c hc;rw[JD]at e;split at e
   .rename_i hi;have hi:i=id:=by simpa using hi
    subst hi;rw[YC hc]at e;simp only[if_true,qsI]at e;rw[<-e];exact hc
   .exact QHi e
  .exact QHi e
variable {n:Nat}{G:Ctx}{r:Nat->Loc}{w:World}{hp:List (Nat×Blk)}{E:Env}{H:Hnd}{f:FuncId}{c:Code}{α:Type}
theorem QeE{on:Bool}{v:AV}{h:List (Nat×Blk)}{id:Nat}{b:Blk}(e:look (gcH on n v h) id=some b):look h id=some b:=by
 cases on with
 | false=>exact e
 | true=>
  rcases QG4 e with ⟨_,h1⟩|h1
  .exact h1
  .exact QHi h1
theorem Kc.sub{h h':List (Nat×Blk)}(hH:Kc G n r h w)(hs:∀ id b,look h' id=some b->look h id=some b):Kc G n r h' w:=
 ⟨λid b e=>hH.rep id b (hs _ _ e),λid id' b b' e e'=>hH.sep id id' b b' (hs _ _ e) (hs _ _ e'),hH.ext,hH.fr,λid b e=>hH.own id b (hs _ _ e),λid b e=>hH.out id b (hs _ _ e),λid b e=>hH.blk id b (hs _ _ e)⟩
def H0 : Hnd := ⟨λ_ _ _=>.fail "a loop", λ_ _ _ _ _=>.fail "a call without a contract", λ_ _ _ _ _=>.fail "yield"⟩
def V0(E:Env):Nat->Bool->Hnd
 | 0,_=>H0
 | n+1,fr=>⟨λs st K=>match s with
   | .loop body=>exec E (V0 E n fr) body st λe st'=>(match e with
    | .normal=>(V0 E n fr).loop (.loop body) st' K
    | .exit id=>K (.exit id) st'
    | .ret=>K .ret st')
   | .rangeFunc g ps as body=>(match fr with
    | false => .fail "a range over a function in a round"
    | true=>match evA st.tm g with
     | .fn (.func f) cap=>(V0 E n true).call f (.yld (st.nid+1)::cap) ((st.nid+1,.lp .ready none st.tm ps as body)::(st.nid,.dfr)::st.hp) (st.nid+8) λ_ hp nid=>
      (match qX ((st.nid,.dfr)::st.hp) hp with
      | true=>(match look hp (st.nid+1)with
       | some (.lp s pend _ _ _ _)=>(match s with
        | .busy => .fail "a busy loop"
        | _=>match pend with
         | none=>K .normal ⟨st.tm,(st.nid+1,.gone)::hp,nid⟩
         | some .ret=>K .ret ⟨st.tm,(st.nid+1,.gone)::hp,nid⟩
         | some (.exit j)=>K (.exit j) ⟨st.tm,(st.nid+1,.gone)::hp,nid⟩
         | _ => .fail "pending")
       | _ => .fail "the loop's record")
      | false => .fail "deferred")
     | _ => .fail "what is ranged over")
   | _ => .fail "statement",
  λg args hp nid K=>match E.P.funcs[g]? with
   | some fn=>(match VB E.P g with
    | true=>zB E.gc QQF args λargs=>zB E.gc Xe nid λnid=>Vm E (V0 E n true) fn args hp nid λv hp' nid'=>zB E.gc QAg v λv=>zB E.gc QEH (gcH E.gc nid v hp') λhp'=>K v hp' nid'
    | false => .fail "no function of the program")
   | none => .fail "no such function",
  λid args hp nid K=>match look hp id with
   | some (.lp .ready _ tms ps as body)=>(match args.length==ps.size with
    | true=>exec E (V0 E n false) as ⟨Yk tms ps.toList args,hp,nid⟩ λe st=>(match e with
     | .normal=>(match look st.hp id with
      | some (.lp .ready pend1 tms1 ps1 as1 body1)=>exec E (V0 E n false) body { st with hp:=(id,.lp .busy pend1 tms1 ps1 as1 body1)::st.hp } λe st2=>
       (match look st2.hp id with
       | some (.lp _ _ tms2 ps2 as2 body2)=>(match e with
        | .normal=>K (.bool true true) ((id,.lp .ready none tms2 ps2 as2 body2)::st2.hp) st2.nid
        | .ret=>K (.bool true false) ((id,.lp .done (some .ret) tms2 ps2 as2 body2)::st2.hp) st2.nid
        | .exit j=>K (.bool true false) ((id,.lp .done (some (.exit j)) tms2 ps2 as2 body2)::st2.hp) st2.nid)
       | _ => .fail "a round's record")
      | _ => .fail "a round's record")
     | _ => .fail "an assignment")
    | false => .fail "how many are handed out")
   | _ => .fail "a loop that isn't ready"⟩
def hnd(E:Env)(n:Nat):Hnd:=V0 E n true
theorem QMd{r:Nat->Loc}:∀(ts:List Tmp) (vs tm:List AV) (arr:Array Value),arr.size=tm.length->(∀ t,arr.getD t undef=(QM tm t).den r) ->
  ((ts.zip (AV.denL r vs)).foldl (λtmps (t,v)=>tmps.setIfInBounds t v) arr).size=(Yk tm ts vs).length/\∀ t,((ts.zip (AV.denL r vs)).foldl (λtmps (t,v)=>tmps.setIfInBounds t v) arr).getD t undef=(QM (Yk tm ts vs) t).den r
 | [],vs,tm,arr,h1,h2=>by simp only[List.zip_nil_left,List.foldl_nil,Yk];exact⟨h1,h2⟩
 | t::ts,[],tm,arr,h1,h2=>by simp only[AV.denL,List.zip_nil_right,List.foldl_nil,Yk];exact⟨h1,h2⟩
 | t::ts,v::vs,tm,arr,h1,h2=>by
  simp only[AV.denL,List.zip_cons_cons,List.foldl_cons,Yk];refine QMd ts vs _ _ (by rw[QAJ];simpa using h1) λt'=>?_
  rw[Zz,Array.getD_eq_getD_getElem?,Array.getElem?_setIfInBounds]
  by_cases htt:t=t'
  .subst htt
   by_cases hlt:t<arr.size
   .rw[if_pos rfl,if_pos hlt,if_pos ⟨rfl,h1 ▸ hlt⟩];rfl
   .rw[if_pos rfl,if_neg hlt,if_neg (by rintro⟨_,h⟩;exact hlt (h1 ▸ h))]
    rw[<-h2 t,Array.getD_eq_getD_getElem?,Array.getElem?_eq_none (Nat.le_of_not_lt hlt)]
  .rw[if_neg htt,if_neg (by rintro⟨h,_⟩;exact htt (by simpa using h)),<-h2 t',Array.getD_eq_getD_getElem?]
theorem QPf{p:Nat->Bool}:∀(ts:List Tmp) (vs tm:List AV),AV.allL p tm=true->AV.allL p vs=true->∀ t,(QM (Yk tm ts vs) t).all p=true
 | [],vs,tm,h1,_=>λt=>by
  unfold Yk QM;cases ht:tm[t]? with
  | none=>rfl
  | some v=>exact Gx h1 v (List.mem_of_getElem? ht)
 | t::ts,[],tm,h1,_=>λt'=>by
  unfold Yk QM;cases ht:tm[t']? with
  | none=>rfl
  | some v=>exact Gx h1 v (List.mem_of_getElem? ht)
 | t::ts,v::vs,tm,h1,h2=>by
  simp only[AV.allL,qbA]at h2;refine QPf ts vs _ ?_ h2.2
  have:∀ l:List AV,(∀ x∈l,x.all p=true)->AV.allL p l=true:=by
   intro l
   induction l with
   | nil=>intro _;rfl
   | cons x l ih=>intro h;simp only[AV.allL,h x (by simp),ih (λy hy=>h y (by simp[hy]))];rfl
  refine this _ λx hx=>?_;simp only[setO]at hx;rcases List.mem_or_eq_of_mem_set hx with hx|rfl
  .exact Gx h1 x hx
  .exact h2.1
theorem QdT{tm:List AV}{arr:Array Value}(h1:arr.size=tm.length)(h2:∀ t,arr.getD t undef=(QM tm t).den r):arr=(AV.denL r tm).toArray:=by
 apply Array.ext
 .simp[Ks,h1]
 .intro i hi1 hi2;have:=h2 i;rw[Array.getD_eq_getD_getElem?,Array.getElem?_eq_getElem hi1]at this;simp only[Option.getD_some]at this;rw[this];have hlt:i<tm.length:=by omega
  simp only[List.getElem_toArray,Q5,List.getElem_map,QM,List.getElem?_eq_getElem hlt,Option.getD_some]
theorem Kc.call(h:Kc G n r hp w){rd:Option Nat}:Kc ⟨G.w,G.ch,n,r,rd⟩ n r hp w:=⟨h.rep,h.sep,λ_ _=>rfl,h.fr,h.own,h.out,h.blk⟩
theorem Kc.back{n':Nat}{r':Nat->Loc}{hp':List (Nat×Blk)}{w':World}{rd:Option Nat}(hn:G.n<=n)(h:Kc G n r hp w)(h':Kc ⟨G.w,G.ch,n,r,rd⟩ n' r' hp' w'):Kc G n' r' hp' w':=
 ⟨h'.rep,h'.sep,λid hid=>(h'.ext id (Nat.lt_of_lt_of_le hid hn)).trans (h.ext id hid),h'.fr,h'.own,h'.out,h'.blk⟩
theorem Kc.toRep(h:Kc G n r hp w){tm:List AV}{a:Act}(h1:a.tmps.size=tm.length)(h2:∀ t,a.tmps.getD t undef=(QM tm t).den r)(h3:∀ t,(QM tm t).all (·<n)=true)(h4:Dfr G r (look hp) a){m:Nat}:Rep G n ⟨tm,hp,m⟩ a w:=
 ⟨⟨r,h1,h4,h2,h.rep,λ_ _ hb=>YC hb,h.sep,h.ext,h.fr,h.own⟩,h3,h.out,h.blk⟩
theorem Kc.put(h:Kc G n r hp w){id:Nat}{b b':Blk}{o:Obj}(hb:look hp id=some b)(hpl:b.plain=true)(hpl':b'.plain=true)(ho:b.own=true)(hr:b'.live=true->QR r id (w.putObj (r id).blk o) b')(ha:b'.all (·<n)=true):
  Kc G n r ((id,b')::hp) (w.putObj (r id).blk o):=by
 have hlk:∀ id' c,look ((id,b')::hp) id'=some c->(id'=id/\c=b'/\b'.live=true)∨(id'≠id/\look hp id'=some c):=by
  intro id' c hc;simp only[JD]at hc;split at hc
  .rename_i he;have he:id=id':=by simpa using he
   split at hc
   .rename_i hl;simp only[qsI]at hc;exact .inl ⟨he.symm,hc.symm,hl⟩
   .cases hc
  .rename_i he;exact .inr ⟨λe=>he (by simp[e]),hc⟩
 have hge:=h.own id b hb ho _ ((VH hpl).2 rfl);have hF:∀ k,Qm r id b' k->Qm r id b k:=λk hk=>(VH hpl).2 ((VH hpl').1 hk);refine⟨λid' c hc=>?_,λid1 id2 c1 c2 h1 h2 hne how=>?_,h.ext,?_,λid' c hc how=>?_,λid' c hc=>?_,λid' c hc=>?_⟩
 .rcases hlk id' c hc with ⟨rfl,rfl,hl⟩|⟨hne,hc⟩
  .exact hr hl
  .refine(h.rep id' c hc).keep (p:=λ_=>true) (λ_ _=>rfl) rfl (by simp) (QQv c) λ_ k hk=>?_
   unfold bk;exact World.putObj_heap_other (λe=>h.sep id id' b c hb hc (Ne.symm hne) ho k ((VH hpl).2 e) hk)
 .rcases hlk id1 c1 h1 with ⟨rfl,rfl,_⟩|⟨hn1,k1⟩<;>rcases hlk id2 c2 h2 with ⟨rfl,rfl,_⟩|⟨hn2,k2⟩
  .exact absurd rfl hne
  .exact λk hk=>h.sep id1 id2 b c2 hb k2 hne ho k (hF k hk)
  .exact λk hk hk'=>h.sep id2 id1 b c1 hb k1 (Ne.symm hne) ho k (hF k hk') hk
  .exact h.sep id1 id2 c1 c2 k1 k2 hne how
 .refine⟨h.fr.os,h.fr.tape,h.fr.output,by simpa using h.fr.size,λk hk hc=>?_⟩
  rw[<-h.fr.block k hk hc];unfold bk;refine World.putObj_heap_other ?_;rintro rfl;rcases hge with h1|h1
  .exact hc h1
  .omega
 .rcases hlk id' c hc with ⟨rfl,rfl,_⟩|⟨_,k⟩
  .exact λk hk=>h.own id' b hb ho k (hF k hk)
  .exact h.own id' c k how
 .rcases hlk id' c hc with ⟨rfl,rfl,_⟩|⟨_,k⟩
  .exact h.out id' b hb
  .exact h.out id' c k
 .rcases hlk id' c hc with ⟨rfl,rfl,_⟩|⟨_,k⟩
  .exact ha
  .exact h.blk id' c k
theorem Kc.lp{G:Ctx}{n:Nat}{r:Nat->Loc}{hp:List (Nat×Blk)}{w:World}(h:Kc G n r hp w){id:Nat}{s s':LoopState}{p p':Option Code}{l:List AV}{ps:Array Tmp}{as body:Code}{rec:Loop}(hb:look hp id=some (.lp s p l ps as body))(hk:bk w (r id).blk=some (.loop rec)):
  Kc G n r ((id,.lp s' p' l ps as body)::hp) (w.putObj (r id).blk (.loop { rec with state:=s',pending:=p' })):=by
 refine h.put hb rfl rfl rfl (λ_=>?_) (by have:=h.blk id _ hb;exact this)
 obtain⟨fn,D,hd⟩:=h.rep id _ hb;rw[hk]at hd;simp only[qsI,Obj.loop.injEq]at hd;subst hd;refine⟨fn,D,?_⟩;unfold bk;exact World.putObj_heap_same (X0 hk)
theorem QXp (hE:E.Sound) (hH:∀ G' c,Q8 E G' H c) {id:Nat} {args:List AV} {nid:Nat} {K:AV->List (Nat×Blk)->Nat->QE} {T:AV->List (Nat×Blk)->Prop} (hn:G.n<=nid) (hI:Kc G nid r hp w) (ha:AV.allL (·<nid) args=true)
  (h:(match look hp id with
   | some (.lp .ready _ tms ps as body)=>(match args.length==ps.size with
    | true=>exec E H as ⟨Yk tms ps.toList args,hp,nid⟩ λe st=>(match e with
     | .normal=>(match look st.hp id with
      | some (.lp .ready pend1 tms1 ps1 as1 body1)=>exec E H body { st with hp:=(id,.lp .busy pend1 tms1 ps1 as1 body1)::st.hp } λe st2=>
       (match look st2.hp id with
       | some (.lp _ _ tms2 ps2 as2 body2)=>(match e with
        | .normal=>K (.bool true true) ((id,.lp .ready none tms2 ps2 as2 body2)::st2.hp) st2.nid
        | .ret=>K (.bool true false) ((id,.lp .done (some .ret) tms2 ps2 as2 body2)::st2.hp) st2.nid
        | .exit j=>K (.bool true false) ((id,.lp .done (some (.exit j)) tms2 ps2 as2 body2)::st2.hp) st2.nid)
       | _ => .fail "a round's record")
      | _ => .fail "a round's record")
     | _ => .fail "an assignment")
    | false => .fail "how many are handed out")
   | _ => .fail "a loop that isn't ready" : QE).den T) :
  ∃ rec,bk w (r id).blk=some (.loop rec)/\args.length=rec.params.size /\
   RoundIn Fence.wide 0 E.P (r id).blk rec.fn ((rec.params.zip (AV.denL r args).toArray).foldl (λtmps (t,v)=>tmps.setIfInBounds t v) rec.tmps) rec.assign rec.body w λe w'=>
    ∃ u,e = .returned u/\∃ v hp' nid' r',(K v hp' nid').den T/\u=v.den r'/\nid<=nid'/\(∀ id,id<nid->r' id=r id)/\Kc G nid' r' hp' w'/\v.all (·<nid')=true:=by
 split at h<;>(try (exact h.elim))
 rename_i pend tms ps as body hlk;split at h<;>(try (exact h.elim))
 rename_i hlen;have hlen:args.length=ps.size:=by simpa using hlen
 obtain⟨fn,D,hrec⟩:=hI.rep id _ hlk;have hid:id<nid:=hI.out id _ hlk;have htms:AV.allL (·<nid) tms=true:=hI.blk id _ hlk;refine⟨_,hrec,hlen,QfI ?_⟩
 have hset:=QMd (r:=r) ps.toList args tms (AV.denL r tms).toArray (by simp[Ks]) (λt=>by
  rw[Array.getD_eq_getD_getElem?,List.getElem?_toArray,Q5,List.getElem?_map];unfold QM;cases tms[t]? <;> rfl)
 have ezip:((ps.zip (AV.denL r args).toArray).foldl (λtmps (t,v)=>tmps.setIfInBounds t v) (AV.denL r tms).toArray)=(ps.toList.zip (AV.denL r args)).foldl (λtmps (t,v)=>tmps.setIfInBounds t v) (AV.denL r tms).toArray:=by
  rw[<-Array.foldl_toList];simp
 simp only[ezip];let G':Ctx:=⟨G.w,G.ch,nid,r,some (r id).blk⟩;have hI':Kc G' nid r hp w:=hI.call;refine jp (G:=G') hE (hH G' as).call (hH G' as).yield as (hH G' as).loop ⟨Yk tms ps.toList args,hp,nid⟩ _ T _ _ w (qlr _) h (hI'.toRep hset.1 hset.2 (QPf _ _ _ htms ha) (Dfr.none rfl)) ?_;intro e st1 a1 w1 hn1 h1 hr1;cases e with
 | exit j=>exact h1.elim
 | ret=>exact h1.elim
 | normal=>
 simp only at h1;split at h1<;>(try (exact h1.elim))
 rename_i pend1 tms1 ps1 as1 body1 hlk1;obtain⟨⟨r1,hI1⟩,hS1⟩:=hr1;obtain⟨fn1,D1,hrec1⟩:=hI1.rep id _ hlk1;have e1:r1 id=r id:=hI1.ext id hid;rw[e1]at hrec1;show ∃ rec1,_;refine⟨_,hrec1,rfl,?_⟩;have hH1:Kc G' st1.nid r1 st1.hp w1:=Rep.hinv hI1 hS1;have hput:=hH1.lp (s' := .busy) (p':=pend1) hlk1 (by rw[e1];exact hrec1)
 rw[e1]at hput
 have hd1:Dfr G' r1 (look ((id,.lp .busy pend1 tms1 ps1 as1 body1)::st1.hp)) a1:=hI1.defers.to rfl λid' _ hd=>⟨by
  simp only[JD];split
  .rename_i he;have he:id=id':=by simpa using he
   subst he;rw[hlk1]at hd;cases hd
  .exact hd,rfl⟩
 refine jp (G:=G') hE (hH G' body).call (hH G' body).yield body (hH G' body).loop { st1 with hp:=(id,.lp .busy pend1 tms1 ps1 as1 body1)::st1.hp } _ T _ a1 _ hn1 h1 (hput.toRep (m:=st1.nid) hI1.size hI1.tm hS1.tm hd1) ?_
 intro e st2 a2 w2 hn2 h2 hr2;split at h2<;>(try (exact h2.elim))
 rename_i s2 pend2 tms2 ps2 as2 body2 hlk2;obtain⟨⟨r2,hI2⟩,hS2⟩:=hr2;obtain⟨fn2,D2,hrec2⟩:=hI2.rep id _ hlk2;have e2:r2 id=r id:=hI2.ext id hid;rw[e2]at hrec2;have hH2:Kc G' st2.nid r2 st2.hp w2:=Rep.hinv hI2 hS2
 have fin:∀ s' p',Kc G st2.nid r2 ((id,.lp s' p' tms2 ps2 as2 body2)::st2.hp) (w2.putObj (r id).blk (.loop { ({ state:=s2,pending:=pend2,fn:=fn2,tmps:=(AV.denL r2 tms2).toArray,params:=ps2,assign:=as2,body:=body2,defers:=D2 }:Loop)with state:=s',pending:=p' })):=by
  intro s' p';have:=hH2.lp (s':=s') (p':=p') hlk2 (by rw[e2];exact hrec2)
  rw[e2]at this;exact Kc.back hn hI this
 cases e with
 | normal=>exact QVw hrec2 ⟨_,rfl,.bool true true,_,_,r2,h2,rfl,hn2,λi hi=>hI2.ext i hi,fin .ready none,rfl⟩
 | ret=>exact Qc9 hrec2 ⟨_,rfl,.bool true false,_,_,r2,h2,rfl,hn2,λi hi=>hI2.ext i hi,fin .done (some .ret),rfl⟩
 | exit j=>exact QUY hrec2 ⟨_,rfl,.bool true false,_,_,r2,h2,rfl,hn2,λi hi=>hI2.ext i hi,fin .done (some (.exit j)),rfl⟩
theorem QUH (hrd:G.rd=none) {call:FuncId->List AV->List (Nat×Blk)->Nat->(AV->List (Nat×Blk)->Nat->QE)->QE} (hC:H6 E G call) {g:Operand} {ps:Array Tmp} {as body:Code} {st:St} {K:Ex->St->QE} {T:AV->List (Nat×Blk)->Prop} {Q:Exit->Act->World->Prop} {a:Act} (hn:G.n<=st.nid)
  (h : (match evA st.tm g with
        | .fn (.func f) cap => call f (.yld (st.nid + 1) :: cap) ((st.nid + 1,.lp .ready none st.tm ps as body) :: (st.nid,.dfr) :: st.hp) (st.nid + 8) λ_ hp nid=>
          (match qX ((st.nid,.dfr) :: st.hp) hp with
          | true => (match look hp (st.nid + 1)with
            | some (.lp s pend _ _ _ _) => (match s with
              | .busy => .fail "a busy loop"
              | _ => match pend with
                | none => K .normal ⟨st.tm,(st.nid + 1,.gone) :: hp,nid⟩
                | some .ret => K .ret ⟨st.tm,(st.nid + 1,.gone) :: hp,nid⟩
                | some (.exit j) => K (.exit j) ⟨st.tm,(st.nid + 1,.gone) :: hp,nid⟩
                | _ => .fail "pending")
            | _ => .fail "the loop's record")
          | false => .fail "deferred")
        | _ => .fail "what is ranged over" : QE).den T) (hr : Rep G st.nid st a w)
  (hQ:∀ e st' a' w',G.n<=st'.nid->(K e st').den T->Rep G st'.nid st' a' w'->Q e.to a' w'):(Code.rangeFunc g ps as body).wpIn (FW G.rd) 0 E.P Q a w:=by
 obtain⟨⟨r,hI⟩,hS⟩:=hr;have heg:a.eval g=(evA st.tm g).den r:=HI λt _=>hI.tm t;split at h<;>(try (exact h.elim))
 rename_i f cap hg;rw[hg]at heg
 have hcap:AV.allL (·<st.nid) cap=true:=by
  have:=jH (x:=g) hS.tm;rw[hg]at this;exact this
 have htm:∀ t,(QM st.tm t).all (·<st.nid)=true:=hS.tm
 have htmL:AV.allL (·<st.nid) st.tm=true:=by
  have:∀ l:List AV,(∀ x∈l,x.all (·<st.nid)=true)->AV.allL (·<st.nid) l=true:=by
   intro l
   induction l with
   | nil=>intro _;rfl
   | cons x l ih=>intro h;simp only[AV.allL,h x (by simp),ih (λy hy=>h y (by simp[hy]))];rfl
  refine this _ λx hx=>?_;obtain⟨t,ht⟩:=List.getElem?_of_mem hx;have:=htm t;unfold QM at this;rw[ht]at this;exact this
 let r':Nat->Loc:=λi=>if i=st.nid then Loc.of w.heap.size 0 0 0 else if i=st.nid+1 then Loc.of (w.heap.size+1) 0 0 0 else r i
 have hr':∀ i,i<st.nid->r' i=r i:=by
  intro i hi;show(if i=st.nid then _ else if i=st.nid+1 then _ else r i)=r i
  rw[if_neg (by omega),if_neg (by omega)]
 have hrD:r' st.nid=Loc.of w.heap.size 0 0 0:=by show(if _ then _ else _)=_;rw[if_pos rfl]
 have hrL:r' (st.nid+1)=Loc.of (w.heap.size+1) 0 0 0:=by
  show(if _ then _ else _)=_
  rw[if_neg (by omega),if_pos rfl]
 have hcong:∀ i,decide (i<st.nid)=true->r i=r' i:=λi hi=>(hr' i (by simpa using hi)).symm
 have hargs:(AV.denL r' (.yld (st.nid+1)::cap)).toArray = #[.func (.yield (w.heap.size+1)) #[] #[]]++(AV.denL r cap).toArray:=by
  rw[denL_congr hcong cap hcap];simp only[AV.denL,AV.den,hrL,Loc.of];simp
 have hsz:∀ fn,((w.alloc (.deferred (some []))).alloc (.loop { state := .ready,pending:=none,fn,tmps:=a.tmps,params:=ps,assign:=as,body,defers:=w.heap.size })).heap.size=w.heap.size+2:=by intro fn;unfold World.alloc;simp only[Array.size_push]
 have hold:∀ fn k,k<w.heap.size->bk ((w.alloc (.deferred (some []))).alloc (.loop { state := .ready,pending:=none,fn,tmps:=a.tmps,params:=ps,assign:=as,body,defers:=w.heap.size })) k=bk w k:=by
  intro fn k hk;unfold bk World.alloc;simp only[Array.getElem?_push,Array.size_push];rw[if_neg (by omega),if_neg (by omega)]
 have hfoot:∀(id:Nat) (b:Blk) (k:Nat),id<st.nid->(Qm r' id b k↔Qm r id b k):=λid b k hid=>by unfold Qm;rw[hr' id hid]
 have hHI:∀ fn,Kc G (st.nid+8) r' ((st.nid+1,.lp .ready none st.tm ps as body)::(st.nid,.dfr)::st.hp) ((w.alloc (.deferred (some []))).alloc (.loop { state := .ready,pending:=none,fn,tmps:=a.tmps,params:=ps,assign:=as,body,defers:=w.heap.size })):=by
  intro fn
  have hlk:∀ id b,look ((st.nid+1,.lp .ready none st.tm ps as body)::(st.nid,.dfr)::st.hp) id=some b->(id=st.nid+1/\b = .lp .ready none st.tm ps as body)∨(id=st.nid/\b = .dfr)∨(id<st.nid/\look st.hp id=some b/\∀ k,Qm r id b k->k<w.heap.size):=by
   intro id b hb;simp only[JD]at hb;split at hb
   .rename_i he;simp only[Blk.live,if_true,qsI]at hb
    exact .inl ⟨by have : st.nid + 1 = id := by simpa using he
                   exact this.symm,hb.symm⟩
   .split at hb
    .rename_i he;simp only[Blk.live,if_true,qsI]at hb
     exact .inr (.inl ⟨by have : st.nid = id := by simpa using he
                          exact this.symm,hb.symm⟩)
    .exact .inr (.inr ⟨hS.out id b hb,hb,(hI.rep id b hb).lt (hI.live id b hb)⟩)
  refine⟨λid b hb=>?_,λid id' b b' hb hb' hne ho k hk hk'=>?_,λid hid=>?_,?_,λid b hb ho k hk=>?_,λid b hb=>?_,λid b hb=>?_⟩
  .rcases hlk id b hb with ⟨rfl,rfl⟩|⟨rfl,rfl⟩|⟨h1,h2,h3⟩
   .refine⟨fn,w.heap.size,?_⟩;rw[hrL];show bk _ (w.heap.size+1)=_;rw[<-denL_congr hcong _ htmL,<-QdT hI.size hI.tm];unfold bk World.alloc;simp only[Array.getElem?_push,Array.size_push,if_true]
   .show bk _ (r' st.nid).blk=_;rw[hrD];show bk _ w.heap.size=_;unfold bk World.alloc;simp only[Array.getElem?_push,Array.size_push,if_true];rw[if_neg (by omega)]
   .refine(hI.rep id b h2).keep hcong (hr' id h1).symm (by rw[hsz];omega) (hS.blk id b h2) λ_ k hk=>hold fn _ (h3 k hk)
  .rcases hlk id b hb with ⟨rfl,rfl⟩|⟨rfl,rfl⟩|⟨h1,h2,h3⟩<;>rcases hlk id' b' hb' with ⟨rfl,rfl⟩|⟨rfl,rfl⟩|⟨g1,g2,g3⟩
   .exact absurd rfl hne
   .have e1:k=(r' (st.nid+1)).blk:=hk;have e2:k=(r' st.nid).blk:=hk';rw[hrL]at e1;rw[hrD]at e2;simp only[Loc.of]at e1 e2;omega
   .have e1:k=(r' (st.nid+1)).blk:=hk;rw[hrL]at e1;simp only[Loc.of]at e1;have:=g3 k ((hfoot _ _ _ g1).1 hk');omega
   .cases ho
   .cases ho
   .cases ho
   .have e1:k=(r' (st.nid+1)).blk:=hk';rw[hrL]at e1;simp only[Loc.of]at e1;have:=h3 k ((hfoot _ _ _ h1).1 hk);omega
   .have e1:k=(r' st.nid).blk:=hk';rw[hrD]at e1;simp only[Loc.of]at e1;have:=h3 k ((hfoot _ _ _ h1).1 hk);omega
   .exact hI.sep _ _ _ _ h2 g2 hne ho k ((hfoot _ _ _ h1).1 hk) ((hfoot _ _ _ g1).1 hk')
  .rw[hr' id (Nat.lt_of_lt_of_le hid hn)];exact hI.ext id hid
  .refine⟨hI.fr.os,hI.fr.tape,hI.fr.output,by rw[hsz];have:=hI.fr.size;omega,λk hk hc=>?_⟩
   rw[hold fn k (Nat.lt_of_lt_of_le hk hI.fr.size)];exact hI.fr.block k hk hc
  .rcases hlk id b hb with ⟨rfl,rfl⟩|⟨rfl,rfl⟩|⟨h1,h2,h3⟩
   .have e1:k=(r' (st.nid+1)).blk:=hk;rw[hrL]at e1;simp only[Loc.of]at e1;exact .inr (by have:=hI.fr.size;omega)
   .cases ho
   .exact hI.own id b h2 ho k ((hfoot _ _ _ h1).1 hk)
  .rcases hlk id b hb with ⟨rfl,rfl⟩|⟨rfl,rfl⟩|⟨h1,h2,h3⟩<;>omega
  .rcases hlk id b hb with ⟨rfl,rfl⟩|⟨rfl,rfl⟩|⟨h1,h2,h3⟩
   .exact allL_mono (YB (by omega)) _ htmL
   .rfl
   .exact Blk.all_mono (YB (by omega)) _ (hS.blk id b h2)
 have hall:AV.allL (·<st.nid+8) (.yld (st.nid+1)::cap)=true:=by
  simp only[AV.allL,AV.all,qbA,qdE];exact⟨by omega,allL_mono (YB (by omega)) _ hcap⟩
 have key:=λfn=>hC f _ _ (st.nid+8) _ T r' _ (by omega) (hHI fn) hall h
 rw[hrd];refine QW8 (gf:=f) (lb:=(AV.denL r cap).toArray) (by rw[heg];rfl) (key 0).1 λfn=>?_
 have:=(key fn).2;rw[hargs]at this;refine this.mono ?_;rintro e w3 ⟨v,hp',nid',r2,hK,rfl,hle,hrr,hH,hv⟩;split at hK<;>(try (exact hK.elim))
 rename_i hkd;split at hK<;>(try (exact hK.elim))
 rename_i s pend tms' ps' as' body' hlk;obtain⟨fn3,D3,hrec⟩:=hH.rep _ _ hlk;have e1:(r2 (st.nid+1)).blk=w.heap.size+1:=by rw[hrr _ (by omega),hrL];rfl
 rw[e1]at hrec;have hge:=hI.fr.size;have hr2:∀ i,i<st.nid->r2 i=r i:=λi hi=>(hrr i (by omega)).trans (hr' i hi)
 have fin:∀ o,Rep G nid' ⟨st.tm,(st.nid+1,.gone)::hp',nid'⟩ { a with defers:=Wn w.heap.size::a.defers } (w3.putObj (w.heap.size+1) o):=by
  intro o;have hp:=hH.put (b' := .gone) (o:=o) hlk rfl rfl rfl (λhl=>by cases hl) rfl
  rw[e1]at hp;refine hp.toRep (a:={ a with defers:=Wn w.heap.size::a.defers }) hI.size (λt=>?_) (λt=>all_mono (YB (by omega)) _ (htm t)) ?_
  .rw[hI.tm t];exact VL (p:=(·<st.nid)) (λi hi=>(hr2 i (by simpa using hi)).symm) _ (htm t)
  .obtain⟨ds,d1,d2,d3⟩:=hI.defers
   have hkeep:∀ id,look ((st.nid,Blk.dfr)::st.hp) id=some .dfr->look ((st.nid+1,.gone)::hp') id=some .dfr:=by
    intro id hid;have:=QNC hkd hid;simp only[JD];split
    .rename_i he;have he:st.nid+1=id:=by simpa using he
     subst he;rw[hlk]at this;cases this
    .exact this
   have hlt:∀ id∈ds,id<st.nid/\(r id).blk<w.heap.size:=λid hid=>⟨hS.out id _ (d3 id hid).2.1,(hI.rep id _ (d3 id hid).2.1).lt rfl _ rfl⟩;have hD:(r2 st.nid).blk=w.heap.size:=by rw[hrr _ (by omega),hrD];rfl
   have emap:ds.map (λid=>(r2 id).blk)=ds.map (λid=>(r id).blk):=List.map_congr_left λid hid=>by rw[hr2 id (hlt id hid).1]
   refine⟨st.nid::ds,?_,?_,λid hid=>?_⟩
   .simp only[List.map_cons,hD];rw[d1];congr 1;exact List.map_congr_left λid hid=>by rw[hr2 id (hlt id hid).1]
   .simp only[List.map_cons,hD,List.nodup_cons,emap];refine⟨λhm=>?_,d2⟩;obtain⟨id,hid,he⟩:=List.mem_map.1 hm;have:=(hlt id hid).2;omega
   .rcases List.mem_cons.1 hid with rfl|hid
    .exact⟨hn,hkeep _ (by simp[JD,Blk.live]),by rw[hD];exact hge⟩
    .refine⟨(d3 id hid).1,hkeep _ ?_,by rw[hr2 id (hlt id hid).1];exact(d3 id hid).2.2⟩
     have hne:(st.nid==id)=false:=by have:=(hlt id hid).1;simp;omega
     simp only[JD,hne];exact(d3 id hid).2.1
 have hK2:s ≠ .busy/\(match (generalizing:=false) pend with
   | none=>K .normal ⟨st.tm,(st.nid+1,.gone)::hp',nid'⟩
   | some .ret=>K .ret ⟨st.tm,(st.nid+1,.gone)::hp',nid'⟩
   | some (.exit j)=>K (.exit j) ⟨st.tm,(st.nid+1,.gone)::hp',nid'⟩
   | _ => .fail "pending" : QE).den T := by
  split at hK
  .exact hK.elim
  .rename_i hs;exact⟨hs,hK⟩
 refine⟨_,_,rfl,hrec,hK2.1,?_⟩;have hK3:=hK2.2;have hn':G.n<=nid':=by omega
 split at hK3<;>(try (exact hK3.elim))
 .exact hQ .normal _ _ _ hn' hK3 (fin _)
 .exact wpIn_ret (hQ .ret _ _ _ hn' hK3 (fin _))
 .rename_i j;exact wpIn_exit (hQ (.exit j) _ _ _ hn' hK3 (fin _))
theorem Qcl:∀(n:Nat) (fr:Bool) (s:Code),(∀ body,s ≠ .loop body)->(∀ g ps as body,s ≠ .rangeFunc g ps as body)->Vf E G s ((V0 E n fr).loop s)
 | 0,_,s,_,_=>λst K T Q a w _ h _ _=>h.elim
 | n+1,_,s,hs,hr=>λst K T Q a w _ h _ _=>by
  cases s with
  | loop body=>exact absurd rfl (hs _)
  | rangeFunc g ps as body=>exact absurd rfl (hr _ _ _ _)
  | _=>exact h.elim
structure H8 (E:Env) (G:Ctx) (n:Nat) (fr:Bool):Prop where
 rounds:∀(body:Code) (st:St) (K:Ex->St->QE) (T:AV->List (Nat×Blk)->Prop) (Q:Exit->Act->World->Prop) (a:Act) (w:World),G.n<=st.nid->((V0 E n fr).loop (.loop body) st K).den T->Rep G st.nid st a w ->
  (∀ e st' a' w',G.n<=st'.nid->(K e st').den T->Rep G st'.nid st' a' w'->Q e.to a' w')->Code.roundsIn (FW G.rd) 0 E.P body Q n a w
 range:∀ g ps as body,Vf E G (.rangeFunc g ps as body) ((V0 E n fr).loop (.rangeFunc g ps as body))
 call:H6 E G (V0 E n fr).call
 yield:QBP E G (V0 E n fr).yield
theorem H8.stmt{fr:Bool}(h:H8 E G n fr)(s:Code):Vf E G s ((V0 E n fr).loop s):=by
 by_cases hs:∃ body,s = .loop body
 .obtain⟨body,rfl⟩:=hs;exact λst K T Q a w h1 h2 h3 h4=>wpIn_loop_rounds n (h.rounds body st K T Q a w h1 h2 h3 h4)
 .by_cases hr:∃ g ps as body,s = .rangeFunc g ps as body
  .obtain⟨g,ps,as,body,rfl⟩:=hr;exact h.range g ps as body
  .exact Qcl n fr s (λbody he=>hs ⟨body,he⟩) λg ps as body he=>hr ⟨g,ps,as,body,he⟩
theorem H8.ok{fr:Bool}(h:H8 E G n fr)(c:Code):Q8 E G (V0 E n fr) c:=⟨λs _=>h.stmt s,h.call,h.yield⟩
theorem QOo{E:Env}(hE:E.Sound):∀(n:Nat) (fr:Bool) (G:Ctx),(fr=true->G.rd=none)->H8 E G n fr
 | 0,fr,G,_=>⟨λbody st K T Q a w _ h _ _=>h.elim,λg ps as body st K T Q a w _ h _ _=>h.elim,λg args hp nid K T r w _ _ _ h=>h.elim,λid args hp nid K T r w _ _ _ h=>h.elim⟩
 | n+1,fr,G,hfr=>by
  have ih:=QOo hE n;refine⟨λbody st K T Q a w hn h hr hQ=>?_,λg ps as body st K T Q a w hn h hr hQ=>?_,λg args hp nid K T r w hn hH hs h=>?_,λid args hp nid K T r w hn hH hs h=>?_⟩
  .rw[roundsIn_succ];simp only[V0]at h;refine jp hE (ih fr G hfr).call (ih fr G hfr).yield body (λs _=>(ih fr G hfr).stmt s) st _ T _ a w hn h hr ?_;intro e st' a' w' hn' h' hr';cases e with
   | normal=>exact(ih fr G hfr).rounds body st' K T Q a' w' hn' h' hr' hQ
   | exit id=>exact hQ (.exit id) st' a' w' hn' h' hr'
   | ret=>exact hQ .ret st' a' w' hn' h' hr'
  .cases fr with
   | false=>exact h.elim
   | true=>exact QUH (hfr rfl) (ih true G hfr).call hn h hr hQ
  .simp only[V0]at h;split at h
   .rename_i fn hf;split at h
    .rename_i hgo;refine⟨hgo,?_⟩;simp only[vb QbF,vb QAf,vb QEF,vb QOF]at h
     have hb:∃ c,fn.body=some c:=by
      cases hb:fn.body with
      | none=>simp only[Vm,hb]at h;exact h.elim
      | some c=>exact⟨c,rfl⟩
     obtain⟨c,hb⟩:=hb;have:=zD hE hf hb (G:=⟨G.w,G.ch,nid,r,none⟩) ((ih true _ λ_=>rfl).ok c) rfl hH.call hs h;refine this.mono ?_;rintro e w' ⟨v,h',nid',r',hK,rfl,hle,hI,hv⟩;exact⟨v,_,nid',r',hK,rfl,hle,hI.ext,(Kc.back hn hH hI).sub λ_ _ e=>QeE e,hv⟩
    .exact h.elim
   .exact h.elim
  .exact QXp hE (λG' c=>(ih false G' (λh=>by cases h)).ok c) hn hH hs h
theorem Qw(hE:E.Sound)(n:Nat)(G:Ctx)(c:Code)(hG:G.rd=none):Q8 E G (hnd E n) c:=(QOo hE n true G λ_=>hG).ok c
mutual
def AV.known:AV->Bool
 | .int c _ _=>c
 | .bool c _=>c
 | .slice c _ _ _ _=>c
 | .fn _ cap=>AV.knownL cap
 | .mth _ l=>AV.knownL l
 | .alt .. => false
 | .ifc _ v=>v.known
 | .opt .. => false
 | .slz .. => false
 | .agg l=>AV.knownL l
 | .tup l=>AV.knownL l
 | _=>true
def AV.knownL:List AV->Bool
 | []=>true
 | v::l=>v.known&&AV.knownL l
end
abbrev PF:=List AV->Option (Bool×AV)
def KM(F:PF):FC:=λargs _ _=>([],λ_=>match F args with
 | some (p,v)=>match AV.knownL args with
  | true=>some ⟨true,p,v.setK true,[]⟩
  | false=>some ⟨false,p,v.setK false,[]⟩
 | none=>none)
theorem QJ6(hE:E.Sound){fn:Func}(hf:E.P.funcs[f]? = some fn)(hb:fn.body=some c)(hgo:VB E.P f=true)(hl:∀ G,G.n=0->G.rd=none->Q8 E G H c){F:PF}(hF:∀ args v,F args=some (true,v)->∃ args',(∀ r,AV.denL r args'=AV.denL r args)/\AV.allL (λ_=>false) args'=true/\(KJ E H false fn args' [] 0).den λu _=>∀ r r',u.den r'=v.den r):QO E.P f (KM F):=by
 refine⟨hgo,λargs nid all r w lk blks eff _ _ _ he hp=>?_⟩
 have:∃ v,F args=some (true,v)/\eff.upd=[]/\∀ r,eff.val.den r=v.den r:=by
  simp only[KM]at he;split at he<;>(try (cases he;done))
  rename_i p v hFa;split at he<;>simp only[qsI]at he<;>subst he<;>simp only at hp<;>subst hp<;>exact⟨v,hFa,rfl,λr=>ju r _ v⟩
 obtain⟨v,hFa,hu,hv⟩:=this;obtain⟨args',h1,h2,h3⟩:=hF args v hFa;have:=zD hE hf hb (G:=⟨w,λ_=>False,0,r,none⟩) (hl _ rfl rfl) (args:=args') (hp:=[]) (nid:=0) (r:=r) (w:=w) rfl ⟨by simp[look],by simp[look],by simp,Fr.refl _ _,by simp[look],by simp[look],by simp[look]⟩ (allL_mono (λ_ h=>by cases h) _ h2) h3
 rw[<-h1 r];refine this.mono λe w' ⟨u,h',nid',r',hT,he,_,hI,_⟩=>⟨r,by rw[he,hT r r',hv r],?_⟩
 rw[hu];exact⟨λ_ _=>rfl,by simp,⟨hI.fr.os,hI.fr.tape,hI.fr.output,hI.fr.size,λk hk _=>hI.fr.block k hk (by simp)⟩,by simp,by simp,by simp⟩
mutual
def AV.same:AV->AV->Prop
 | .int _ k n,.int _ k' n'=>k=k'/\n=n'
 | .bool _ b,.bool _ b'=>b=b'
 | .nilp,.nilp=>True
 | .nils,.nils=>True
 | .nilm,.nilm=>True
 | .nilf,.nilf=>True
 | .nili,.nili=>True
 | .str s,.str s'=>s=s'
 | .ifc t v,.ifc t' v'=>t=t'/\v.same v'
 | .agg l,.agg l'=>AV.sameL l l'
 | .tup l,.tup l'=>AV.sameL l l'
 | _,_=>False
def AV.sameL:List AV->List AV->Prop
 | [],[]=>True
 | v::l,v'::l'=>v.same v'/\AV.sameL l l'
 | _,_=>False
end
mutual
theorem QIo(r r':Nat->Loc):∀ u v:AV,u.same v->u.den r'=v.den r
 | .int ..,v,h=>by cases v<;>simp only[AV.same]at h;obtain⟨rfl,rfl⟩:=h;rfl
 | .bool ..,v,h=>by cases v<;>simp only[AV.same]at h;subst h;rfl
 | .nilp,v,h=>by cases v<;>simp only[AV.same]at h;rfl
 | .nils,v,h=>by cases v<;>simp only[AV.same]at h;rfl
 | .nilm,v,h=>by cases v<;>simp only[AV.same]at h;rfl
 | .nilf,v,h=>by cases v<;>simp only[AV.same]at h;rfl
 | .nili,v,h=>by cases v<;>simp only[AV.same]at h;rfl
 | .str ..,v,h=>by cases v<;>simp only[AV.same]at h;subst h;rfl
 | .ifc t u,v,h=>by cases v<;>simp only[AV.same]at h;obtain⟨rfl,h⟩:=h;simp only[AV.den];rw[QIo r r' u _ h]
 | .agg l,v,h=>by cases v<;>simp only[AV.same]at h;simp only[AV.den];rw[same_denL r r' l _ h]
 | .tup l,v,h=>by cases v<;>simp only[AV.same]at h;simp only[AV.den];rw[same_denL r r' l _ h]
 | .ptr ..,v,h=>by cases v<;>simp only[AV.same]at h
 | .addr ..,v,h=>by cases v<;>simp only[AV.same]at h
 | .slice ..,v,h=>by cases v<;>simp only[AV.same]at h
 | .map ..,v,h=>by cases v<;>simp only[AV.same]at h
 | .yld ..,v,h=>by cases v<;>simp only[AV.same]at h
 | .fn ..,v,h=>by cases v<;>simp only[AV.same]at h
 | .mth ..,v,h=>by cases v<;>simp only[AV.same]at h
 | .alt ..,v,h=>by cases v<;>simp only[AV.same]at h
 | .raw ..,v,h=>by cases v<;>simp only[AV.same]at h
 | .opt ..,v,h=>by cases v<;>simp only[AV.same]at h
theorem same_denL(r r':Nat->Loc):∀ u v:List AV,AV.sameL u v->AV.denL r' u=AV.denL r v
 | [],v,h=>by cases v<;>simp only[AV.sameL]at h;rfl
 | x::l,v,h=>by
  cases v<;>simp only[AV.sameL]at h
  simp only[AV.denL];rw[QIo r r' x _ h.1,same_denL r r' l _ h.2]
end
def vJ(P:Program)(t:TypeId)(name:String):Option FuncId:=
 match P.info? t,P.underlying t with
 | some i,some u=>match i.methods.find? (·.name==name)with
  | some m=>match m.path.toList,m.func with
   | [],some (f,pr)=>match u,pr with
    | .pointer _,true=>some f
    | .pointer _,false=>none
    | _,false=>some f
    | _,true=>none
   | _,_=>none
  | none=>none
 | _,_=>none
theorem QAn(P:Program):Hk P (vJ P):=by
 intro t name f h v w;unfold vJ at h;split at h<;>(try (cases h;done))
 rename_i i u hi hu;split at h<;>(try (cases h;done))
 rename_i m hm;split at h<;>(try (cases h;done))
 rename_i f' pr hp hf;rw[show P.types.size+Made.depth=(P.types.size+Made.depth-1)+1 by simp[Made.depth]]
 split at h<;>(try (cases h;done))<;>simp only[qsI]at h<;>subst h <;>
  simp[method,typeInfo,hi,hm,hp,hf,follow,receiverAt,run_underlying hu,Place.get]
class Enc (α:Type) where
 enc:α->AV
 dec:AV->Option α
 ok:∀ v x,dec v=some x->(∀ r,(enc x).den r=v.den r)/\(enc x).all (λ_=>false)=true
class Q3 (α:Type) where
 enc:α->List AV
 dec:List AV->Option α
 ok:∀ v x,dec v=some x->(∀ r,AV.denL r (enc x)=AV.denL r v)/\AV.allL (λ_=>false) (enc x)=true
instance : Enc Int where
  enc n := .int false .i64 n
  dec | .int _ .i64 n => some n | _ => none
  ok v x h := by
    split at h <;> (try (cases h; done))
    simp only[qsI]at h; subst h; exact⟨λ_=>rfl,rfl⟩
instance : Enc Bool where
  enc b := .bool false b
  dec | .bool _ b => some b | _ => none
  ok v x h := by
    split at h <;> (try (cases h; done))
    simp only[qsI]at h; subst h; exact⟨λ_=>rfl,rfl⟩
instance : Q3 Unit where
  enc _ := []
  dec | [] => some () | _ => none
  ok v x h := by
    split at h <;> (try (cases h; done))
    exact⟨λ_=>rfl,rfl⟩
instance {α β : Type} [Enc α] [Q3 β] : Q3 (α × β) where
  enc x := Enc.enc x.1 :: Q3.enc x.2
  dec | v :: l => match Enc.dec v,Q3.dec l with
        | some a,some b => some (a,b)
        | _,_ => none
      | _ => none
  ok v x h := by
    split at h <;> (try (cases h; done))
    split at h <;> (try (cases h; done))
    rename_i a b ha hb;simp only[qsI]at h; subst h;have h1 := Enc.ok _ a ha;have h2 := Q3.ok _ b hb;exact⟨λr=>by simp only[AV.denL]; rw[h1.1 r,h2.1 r],by simp only[AV.allL,h1.2,h2.2]; rfl⟩
theorem QE.den_mono{Q Q':AV->List (Nat×Blk)->Prop}(h:∀ v l,Q v l->Q' v l):∀{t:QE},t.den Q->t.den Q'
 | .leaf v l,ht=>h v l ht
 | .br _ _ _,ht=>⟨λhb=>QE.den_mono h (ht.1 hb),λhb=>QE.den_mono h (ht.2 hb)⟩
 | .need _ _,ht=>⟨ht.1,QE.den_mono h ht.2⟩
 | .all _,ht=>λg=>QE.den_mono h (ht g)
 | .asm _ _,ht=>λhp=>QE.den_mono h (ht hp)
 | .ask _ _,ht=>⟨ht.1,QE.den_mono h ht.2⟩
 | .both _ _,ht=>⟨QE.den_mono h ht.1,QE.den_mono h ht.2⟩
 | .bnd _ _,ht=>λx hx=>QE.den_mono h (ht x hx)
 | .bndI _ _,ht=>λx hx=>QE.den_mono h (ht x hx)
 | .fail _,ht=>ht.elim
theorem QAz{t t':QE}{Q:AV->List (Nat×Blk)->Prop}(e:t=t')(h:t'.den Q):t.den Q:=e ▸ h
def KN[Q3 α](f:α->Bool×AV):PF:=λargs=>match (Q3.dec args:Option α)with
 | some x=>some (f x)
 | none=>none
theorem QH8(hE:E.Sound){fn:Func}(hf:E.P.funcs[f]? = some fn)(hb:fn.body=some c)(hgo:VB E.P f=true)(hl:∀ G,G.n=0->G.rd=none->Q8 E G H c)[Q3 α]{F:α->Bool×AV}(hF:∀ x,(F x).1=true->(KJ E H false fn (Q3.enc x) [] 0).den λu _=>u.same (F x).2):QO E.P f (KM (KN F)):=by
 refine QJ6 hE hf hb hgo hl λargs v h=>?_;unfold KN at h;split at h<;>(try (cases h;done))
 rename_i x hx;simp only[qsI]at h;obtain⟨h1,h2⟩:=Q3.ok args x hx;refine⟨Q3.enc x,h1,h2,?_⟩;have:=hF x (by rw[h])
 refine QE.den_mono ?_ this;intro u _ hs r r';rw[h]at hs;exact QIo r r' _ _ hs
theorem QeA(hE:E.Sound){fn:Func}(hf:E.P.funcs[f]? = some fn)(hb:fn.body=some c)(hgo:VB E.P f=true)(hl:∀ G,G.n=0->G.rd=none->Q8 E G H c)[Q3 α]{F:α->Bool×AV}(hF:∀ x,(F x).1=true->(KJ E H false fn (Q3.enc x) [] 0).den λu _=>∀ r r',u.den r'=(F x).2.den r):QO E.P f (KM (KN F)):=by
 refine QJ6 hE hf hb hgo hl λargs v h=>?_;unfold KN at h;split at h<;>(try (cases h;done))
 rename_i x hx;simp only[qsI]at h;obtain⟨h1,h2⟩:=Q3.ok args x hx;have:=hF x (by rw[h])
 rw[h]at this;exact⟨Q3.enc x,h1,h2,this⟩
