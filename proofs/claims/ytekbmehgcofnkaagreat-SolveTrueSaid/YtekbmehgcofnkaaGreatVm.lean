/- - -/
import Derived.Test.YtekbmehgcofnkaaGreatVl
namespace Go.SX
open Go Go.RowKit Go.Proofs.YtekbmehgcofnkaaGreat
def YZ:List AV->List Tmp->List AV->List AV
 | tm,t::ts,v::vs=>YZ (setO tm (some t) v) ts vs
 | tm,_,_=>tm
mutual
def AV.idsFrom(N:Nat):AV->List Nat
 | .ptr id _ _=>if N<=id then [id]else []
 | .slice _ id _ _ _=>if N<=id then [id]else []
 | .slz id _ _ _=>if N<=id then [id]else []
 | .map id=>if N<=id then [id]else []
 | .yld id=>if N<=id then [id]else []
 | .fn _ l=>AV.idsFromL N l
 | .mth _ l=>AV.idsFromL N l
 | .alt _ v w=>v.idsFrom N++w.idsFrom N
 | .ifc _ v=>v.idsFrom N
 | .agg l=>AV.idsFromL N l
 | .tup l=>AV.idsFromL N l
 | _=>[]
def AV.idsFromL(N:Nat):List AV->List Nat
 | []=>[]
 | v::l=>v.idsFrom N++AV.idsFromL N l
end
def Blk.idsFrom(N:Nat):Blk->List Nat
 | .cells _ _ l=>AV.idsFromL N l
 | .cellsR _ _ l=>AV.idsFromL N l
 | .rowl _ _ l=>AV.idsFromL N l.flatten
 | .rowlR _ _ l=>AV.idsFromL N l.flatten
 | .lp _ _ l _ _ _=>AV.idsFromL N l
 | .itm l _ _ _ _=>AV.idsFromL N l
 | _=>[]
def Xn:List Nat->List Nat->List Nat
 | [],acc=>acc
 | x::l,acc=>match acc.contains x with
  | true=>Xn l acc
  | false=>Xn l (acc++[x])
def QCB(N:Nat)(h:List (Nat×Blk)):Nat->List Nat->List Nat
 | 0,l=>l
 | n+1,l=>QCB N h n (Xn (l.flatMap λid=>match look h id with|some b=>b.idsFrom N|none=>[]) l)
def QAb(n:Nat):List (Nat×Blk)->List (Nat×Blk)
 | []=>[]
 | (i,b)::l=>match Nat.blt i n with
  | true=>(i,b)::QAb n l
  | false=>QAb n l
def Z3(h:List (Nat×Blk)):List Nat->List (Nat×Blk)
 | []=>[]
 | i::l=>match look h i with
  | some b=>(i,b)::Z3 h l
  | none=>Z3 h l
def gcH(on:Bool)(n:Nat)(v:AV)(h:List (Nat×Blk)):List (Nat×Blk):=match on with
 | false=>h
 | true=>QAb n h++Z3 h (QCB n h 8 (Xn (v.idsFrom n++(QAb n h).flatMap λp=>p.2.idsFrom n) []))
theorem QJ6{n:Nat}:∀{h t:List (Nat×Blk)} {id:Nat} {b:Blk},look (QAb n h++t) id=some b->(id<n/\look h id=some b)∨look t id=some b
 | [],t,id,b,e => .inr e
 | (i,c)::l,t,id,b,e=>by
  simp only[QAb]at e;split at e
  .rename_i hi;rw[List.cons_append,Kw]at e
   by_cases h:i=id
   .subst h;simp only[beq_self_eq_true,if_true]at e;refine .inl ⟨Nat.le_of_ble_eq_true hi,?_⟩;rw[Kw];simp only[beq_self_eq_true,if_true];exact e
   .have h2:(i==id)=false:=by simpa using h
    simp only[h2,Bool.false_eq_true,if_false]at e;rcases QJ6 e with ⟨h3,h4⟩|h3
    .refine .inl ⟨h3,?_⟩;rw[Kw];simp only[h2,Bool.false_eq_true,if_false];exact h4
    .exact .inr h3
  .rename_i hi;rcases QJ6 e with ⟨h3,h4⟩|h3
   .refine .inl ⟨h3,?_⟩
    have h2:(i==id)=false:=by
     cases hb:(i==id)with
     | true=>
      have:i=id:=by simpa using hb
      subst this;rw[show Nat.blt i n=true from Nat.ble_eq_true_of_le h3]at hi;cases hi
     | false=>rfl
    rw[Kw];simp only[h2,Bool.false_eq_true,if_false];exact h4
   .exact .inr h3
theorem QHS{h:List (Nat×Blk)}:∀{l:List Nat} {id:Nat} {b:Blk},look (Z3 h l) id=some b->look h id=some b
 | [],_,_,e=>by cases e
 | i::l,id,b,e=>by
  simp only[Z3]at e;split at e
  .rename_i c hc;rw[Kw]at e;split at e
   .rename_i hi;have hi:i=id:=by simpa using hi
    subst hi;rw[XQ hc]at e;simp only[if_true,qsI]at e;rw[<-e];exact hc
   .exact QHS e
  .exact QHS e
variable {n:Nat}{G:Ctx}{r:Nat->Loc}{w:World}{hp:List (Nat×Blk)}{a:Act}{E:Env}{H:Hnd}{T:AV->List (Nat×Blk)->Prop}
theorem Qjg{on:Bool}{v:AV}{h:List (Nat×Blk)}{id:Nat}{b:Blk}(e:look (gcH on n v h) id=some b):look h id=some b:=by
 cases on with
 | false=>exact e
 | true=>
  rcases QJ6 e with ⟨_,h1⟩|h1
  .exact h1
  .exact QHS h1
theorem KM.sub{h h':List (Nat×Blk)}(hH:KM G n r h w)(hs:∀ id b,look h' id=some b->look h id=some b):KM G n r h' w:=
 ⟨λid b e=>hH.rep id b (hs _ _ e),λid id' b b' e e'=>hH.sep id id' b b' (hs _ _ e) (hs _ _ e'),hH.ext,hH.fr,λid b e=>hH.own id b (hs _ _ e),λid b e=>hH.out id b (hs _ _ e),λid b e=>hH.blk id b (hs _ _ e)⟩
def QTn(fc:FC)(args:List AV)(hp:List (Nat×Blk))(nid:Nat)(K:AV->List (Nat×Blk)->Nat->QC):QC:=
 match fc args nid (jc hp)with
 | (ids,g)=>(match WI hp ids with
  | none => .fail "a block that is not known"
  | some blks=>(match g blks with
   | none => .fail "a call that its contract does not know"
   | some eff=>(match Wu nid ids hp eff with
    | true=>QDx eff.known eff.pre (K eff.val (vD eff.upd hp) (nid+8))
    | false => .fail "scope")))
def QDS(E:Env)(call:FuncId->List AV->List (Nat×Blk)->Nat->(AV->List (Nat×Blk)->Nat->QC)->QC)(f:FuncId)(args:List AV)(hp:List (Nat×Blk))(nid:Nat)(K:AV->List (Nat×Blk)->Nat->QC):QC:=match E.C f with
 | some fc=>QTn fc args hp nid K
 | none=>call f args hp nid K
def H0 : Hnd := ⟨λ_ _ _=>.fail "a loop", λ_ _ _ _ _=>.fail "a call without a contract", λ_ _ _ _ _=>.fail "yield"⟩
def Vp(E:Env):Nat->Option Nat->Hnd
 | 0,_=>H0
 | n+1,fr=>⟨λs st K=>match s with
   | .loop body=>exec E (Vp E n fr) body st λe st'=>(match e with
    | .normal=>(Vp E n fr).loop (.loop body) st' K
    | .exit id=>K (.exit id) st'
    | .ret=>K .ret st')
   | .rangeFunc g ps as body=>(match fr with
    | some id0=>(match look st.hp id0 with
     | some (.lp _ _ _ _ _ _)=>(match evA st.tm g with
      | .fn (.func f) cap=>QDS E (Vp E n none).call f (.yld (st.nid+1)::cap) ((st.nid+1,.lp .ready none st.tm ps as body)::st.hp) (st.nid+8) λ_ hp nid=>
       (match Zh st.hp hp with
       | true=>(match look hp (st.nid+1)with
        | some (.lp s pend _ _ _ _)=>(match s with
         | .busy => .fail "a busy loop"
         | _=>match pend with
          | none=>K .normal ⟨st.tm,(st.nid+1,.gone)::hp,nid⟩
          | some .ret=>K .ret ⟨st.tm,(st.nid+1,.gone)::hp,nid⟩
          | some (.exit j)=>K (.exit j) ⟨st.tm,(st.nid+1,.gone)::hp,nid⟩
          | _ => .fail "pending")
        | _ => .fail "the loop's record")
       | false => .fail "deferred")
      | _ => .fail "what is ranged over")
     | _ => .fail "the round's record")
    | none=>match evA st.tm g with
     | .fn (.func f) cap=>QDS E (Vp E n none).call f (.yld (st.nid+1)::cap) ((st.nid+1,.lp .ready none st.tm ps as body)::(st.nid,.dfr)::st.hp) (st.nid+8) λ_ hp nid=>
      (match Zh ((st.nid,.dfr)::st.hp) hp with
      | true=>(match look hp (st.nid+1)with
       | some (.lp s pend _ _ _ _)=>(match s with
        | .busy => .fail "a busy loop"
        | _=>match pend with
         | none=>K .normal ⟨st.tm,(st.nid+1,.gone)::hp,nid⟩
         | some .ret=>K .ret ⟨st.tm,(st.nid+1,.gone)::hp,nid⟩
         | some (.exit j)=>K (.exit j) ⟨st.tm,(st.nid+1,.gone)::hp,nid⟩
         | _ => .fail "pending")
       | _ => .fail "the loop's record")
      | false => .fail "deferred")
     | _ => .fail "what is ranged over")
   | _ => .fail "statement",
  λg args hp nid K=>match E.P.funcs[g]? with
   | some fn=>(match J8 E.P g with
    | true=>QAX E.gc QO9 args λargs=>QAX E.gc XN nid λnid=>Vv E (Vp E n none) fn args hp nid λv hp' nid'=>QAX E.gc QCa v λv=>QAX E.gc QDZ (gcH E.gc nid v hp') λhp'=>K v hp' nid'
    | false => .fail "no function of the program")
   | none => .fail "no such function",
  λid args hp nid K=>match look hp id with
   | some (.lp .ready _ tms ps as body)=>(match args.length==ps.size with
    | true=>exec E (Vp E n (some id)) as ⟨YZ tms ps.toList args,hp,nid⟩ λe st=>(match e with
     | .normal=>(match look st.hp id with
      | some (.lp .ready pend1 tms1 ps1 as1 body1)=>exec E (Vp E n (some id)) body { st with hp:=(id,.lp .busy pend1 tms1 ps1 as1 body1)::st.hp } λe st2=>
       (match look st2.hp id with
       | some (.lp _ _ tms2 ps2 as2 body2)=>(match e with
        | .normal=>K (.bool true true) ((id,.lp .ready none tms2 ps2 as2 body2)::st2.hp) st2.nid
        | .ret=>K (.bool true false) ((id,.lp .done (some .ret) tms2 ps2 as2 body2)::st2.hp) st2.nid
        | .exit j=>K (.bool true false) ((id,.lp .done (some (.exit j)) tms2 ps2 as2 body2)::st2.hp) st2.nid)
       | _ => .fail "a round's record")
      | _ => .fail "a round's record")
     | _ => .fail "an assignment")
    | false => .fail "how many are handed out")
   | _ => .fail "a loop that isn't ready"⟩
def hnd(E:Env)(n:Nat):Hnd:=Vp E n none
theorem QNR{r:Nat->Loc}:∀(ts:List Tmp) (vs tm:List AV) (arr:Array Value),arr.size=tm.length->(∀ t,arr.getD t undef=(QJ tm t).den r) ->
  ((ts.zip (AV.denL r vs)).foldl (λtmps (t,v)=>tmps.setIfInBounds t v) arr).size=(YZ tm ts vs).length/\∀ t,((ts.zip (AV.denL r vs)).foldl (λtmps (t,v)=>tmps.setIfInBounds t v) arr).getD t undef=(QJ (YZ tm ts vs) t).den r
 | [],vs,tm,arr,h1,h2=>by simp only[List.zip_nil_left,List.foldl_nil,YZ];exact⟨h1,h2⟩
 | t::ts,[],tm,arr,h1,h2=>by simp only[AV.denL,List.zip_nil_right,List.foldl_nil,YZ];exact⟨h1,h2⟩
 | t::ts,v::vs,tm,arr,h1,h2=>by
  simp only[AV.denL,List.zip_cons_cons,List.foldl_cons,YZ];refine QNR ts vs _ _ (by rw[QBv];simpa using h1) λt'=>?_
  rw[Zl,Array.getD_eq_getD_getElem?,Array.getElem?_setIfInBounds]
  by_cases htt:t=t'
  .subst htt
   by_cases hlt:t<arr.size
   .rw[if_pos rfl,if_pos hlt,if_pos ⟨rfl,h1 ▸ hlt⟩];rfl
   .rw[if_pos rfl,if_neg hlt,if_neg (by rintro⟨_,h⟩;exact hlt (h1 ▸ h))]
    rw[<-h2 t,Array.getD_eq_getD_getElem?,Array.getElem?_eq_none (Nat.le_of_not_lt hlt)]
  .rw[if_neg htt,if_neg (by rintro⟨h,_⟩;exact htt (by simpa using h)),<-h2 t',Array.getD_eq_getD_getElem?]
theorem QRR{p:Nat->Bool}:∀(ts:List Tmp) (vs tm:List AV),AV.allL p tm=true->AV.allL p vs=true->∀ t,(QJ (YZ tm ts vs) t).all p=true
 | [],vs,tm,h1,_=>λt=>by
  unfold YZ QJ;cases ht:tm[t]? with
  | none=>rfl
  | some v=>exact QBR h1 v (List.mem_of_getElem? ht)
 | t::ts,[],tm,h1,_=>λt'=>by
  unfold YZ QJ;cases ht:tm[t']? with
  | none=>rfl
  | some v=>exact QBR h1 v (List.mem_of_getElem? ht)
 | t::ts,v::vs,tm,h1,h2=>by
  simp only[AV.allL,qbA]at h2;refine QRR ts vs _ ?_ h2.2
  have:∀ l:List AV,(∀ x∈l,x.all p=true)->AV.allL p l=true:=by
   intro l
   induction l with
   | nil=>intro _;rfl
   | cons x l ih=>intro h;simp only[AV.allL,h x (by simp),ih (λy hy=>h y (by simp[hy]))];rfl
  refine this _ λx hx=>?_;simp only[setO]at hx;rcases List.mem_or_eq_of_mem_set hx with hx|rfl
  .exact QBR h1 x hx
  .exact h2.1
theorem QMq{tm:List AV}{arr:Array Value}(h1:arr.size=tm.length)(h2:∀ t,arr.getD t undef=(QJ tm t).den r):arr=(AV.denL r tm).toArray:=by
 apply Array.ext
 .simp[Kf,h1]
 .intro i hi1 hi2;have:=h2 i;rw[Array.getD_eq_getD_getElem?,Array.getElem?_eq_getElem hi1]at this;simp only[Option.getD_some]at this;rw[this];have hlt:i<tm.length:=by omega
  simp only[List.getElem_toArray,Qy,List.getElem_map,QJ,List.getElem?_eq_getElem hlt,Option.getD_some]
theorem KM.call(h:KM G n r hp w){rd:Option Nat}:KM ⟨G.w,G.ch,n,r,rd⟩ n r hp w:=⟨h.rep,h.sep,λ_ _=>rfl,h.fr,h.own,h.out,h.blk⟩
theorem KM.back{n':Nat}{r':Nat->Loc}{hp':List (Nat×Blk)}{w':World}{rd:Option Nat}(hn:G.n<=n)(h:KM G n r hp w)(h':KM ⟨G.w,G.ch,n,r,rd⟩ n' r' hp' w'):KM G n' r' hp' w':=
 ⟨h'.rep,h'.sep,λid hid=>(h'.ext id (Nat.lt_of_lt_of_le hid hn)).trans (h.ext id hid),h'.fr,h'.own,h'.out,h'.blk⟩
theorem KM.toRep(h:KM G n r hp w){tm:List AV}(h1:a.tmps.size=tm.length)(h2:∀ t,a.tmps.getD t undef=(QJ tm t).den r)(h3:∀ t,(QJ tm t).all (·<n)=true)(h4:Dfr G r (look hp) a){m:Nat}:Rep G n ⟨tm,hp,m⟩ a w:=
 ⟨⟨r,h1,h4,h2,h.rep,λ_ _ hb=>XQ hb,h.sep,h.ext,h.fr,h.own⟩,h3,h.out,h.blk⟩
theorem KM.put(h:KM G n r hp w){id:Nat}{b b':Blk}{o:Obj}(hb:look hp id=some b)(hpl:b.plain=true)(hpl':b'.plain=true)(ho:b.own=true)(hr:b'.live=true->QN r id (w.putObj (r id).blk o) b')(ha:b'.all (·<n)=true):
  KM G n r ((id,b')::hp) (w.putObj (r id).blk o):=by
 have hlk:∀ id' c,look ((id,b')::hp) id'=some c->(id'=id/\c=b'/\b'.live=true)∨(id'≠id/\look hp id'=some c):=by
  intro id' c hc;simp only[Kw]at hc;split at hc
  .rename_i he;have he:id=id':=by simpa using he
   split at hc
   .rename_i hl;simp only[qsI]at hc;exact .inl ⟨he.symm,hc.symm,hl⟩
   .cases hc
  .rename_i he;exact .inr ⟨λe=>he (by simp[e]),hc⟩
 have hge:=h.own id b hb ho _ ((VJ hpl).2 rfl);have hF:∀ k,Qo r id b' k->Qo r id b k:=λk hk=>(VJ hpl).2 ((VJ hpl').1 hk);refine⟨λid' c hc=>?_,λid1 id2 c1 c2 h1 h2 hne how=>?_,h.ext,?_,λid' c hc how=>?_,λid' c hc=>?_,λid' c hc=>?_⟩
 .rcases hlk id' c hc with ⟨rfl,rfl,hl⟩|⟨hne,hc⟩
  .exact hr hl
  .refine(h.rep id' c hc).keep (p:=λ_=>true) (λ_ _=>rfl) rfl (by simp) (QVA c) λ_ k hk=>?_
   unfold bk;exact World.putObj_heap_other (λe=>h.sep id id' b c hb hc (Ne.symm hne) ho k ((VJ hpl).2 e) hk)
 .rcases hlk id1 c1 h1 with ⟨rfl,rfl,_⟩|⟨hn1,k1⟩<;>rcases hlk id2 c2 h2 with ⟨rfl,rfl,_⟩|⟨hn2,k2⟩
  .exact absurd rfl hne
  .exact λk hk=>h.sep id1 id2 b c2 hb k2 hne ho k (hF k hk)
  .exact λk hk hk'=>h.sep id2 id1 b c1 hb k1 (Ne.symm hne) ho k (hF k hk') hk
  .exact h.sep id1 id2 c1 c2 k1 k2 hne how
 .refine⟨h.fr.os,h.fr.tape,h.fr.output,by simpa using h.fr.size,h.fr.drawn,λk hk hc=>?_⟩
  rw[<-h.fr.block k hk hc];unfold bk;refine World.putObj_heap_other ?_;rintro rfl;rcases hge with h1|h1
  .exact hc h1
  .omega
 .rcases hlk id' c hc with ⟨rfl,rfl,_⟩|⟨_,k⟩
  .exact λk hk=>h.own id' b hb ho k (hF k hk)
  .exact h.own id' c k how
 .rcases hlk id' c hc with ⟨rfl,rfl,_⟩|⟨_,k⟩
  .exact h.out id' b hb
  .exact h.out id' c k
 .rcases hlk id' c hc with ⟨rfl,rfl,_⟩|⟨_,k⟩
  .exact ha
  .exact h.blk id' c k
theorem KM.lp{G:Ctx}{n:Nat}{r:Nat->Loc}{hp:List (Nat×Blk)}{w:World}(h:KM G n r hp w){id:Nat}{s s':LoopState}{p p':Option Code}{l:List AV}{ps:Array Tmp}{as body:Code}{rec:Loop}(hb:look hp id=some (.lp s p l ps as body))(hk:bk w (r id).blk=some (.loop rec)):
  KM G n r ((id,.lp s' p' l ps as body)::hp) (w.putObj (r id).blk (.loop { rec with state:=s',pending:=p' })):=by
 refine h.put hb rfl rfl rfl (λ_=>?_) (by have:=h.blk id _ hb;exact this)
 obtain⟨fn,D,hd⟩:=h.rep id _ hb;rw[hk]at hd;simp only[qsI,Obj.loop.injEq]at hd;subst hd;refine⟨fn,D,?_⟩;unfold bk;exact World.putObj_heap_same (Yx hk)
theorem QdJ (hE:E.Sound) {id:Nat} (hH:∀ G':Ctx,id<G'.n->G'.rd=some (G'.r id).blk->∀ c,Q0 E G' H c) {args:List AV} {nid:Nat} {K:AV->List (Nat×Blk)->Nat->QC} (hn:G.n<=nid) (hI:KM G nid r hp w) (ha:AV.allL (·<nid) args=true)
  (h:(match look hp id with
   | some (.lp .ready _ tms ps as body)=>(match args.length==ps.size with
    | true=>exec E H as ⟨YZ tms ps.toList args,hp,nid⟩ λe st=>(match e with
     | .normal=>(match look st.hp id with
      | some (.lp .ready pend1 tms1 ps1 as1 body1)=>exec E H body { st with hp:=(id,.lp .busy pend1 tms1 ps1 as1 body1)::st.hp } λe st2=>
       (match look st2.hp id with
       | some (.lp _ _ tms2 ps2 as2 body2)=>(match e with
        | .normal=>K (.bool true true) ((id,.lp .ready none tms2 ps2 as2 body2)::st2.hp) st2.nid
        | .ret=>K (.bool true false) ((id,.lp .done (some .ret) tms2 ps2 as2 body2)::st2.hp) st2.nid
        | .exit j=>K (.bool true false) ((id,.lp .done (some (.exit j)) tms2 ps2 as2 body2)::st2.hp) st2.nid)
       | _ => .fail "a round's record")
      | _ => .fail "a round's record")
     | _ => .fail "an assignment")
    | false => .fail "how many are handed out")
   | _ => .fail "a loop that isn't ready" : QC).den T) :
  ∃ rec,bk w (r id).blk=some (.loop rec)/\args.length=rec.params.size /\
   RoundIn Fence.wide 0 E.P (r id).blk rec.fn ((rec.params.zip (AV.denL r args).toArray).foldl (λtmps (t,v)=>tmps.setIfInBounds t v) rec.tmps) rec.assign rec.body w λe w'=>
    ∃ u,e = .returned u/\∃ v hp' nid' r',(K v hp' nid').den T/\u=v.den r'/\nid<=nid'/\(∀ id,id<nid->r' id=r id)/\KM G nid' r' hp' w'/\v.all (·<nid')=true:=by
 split at h<;>(try (exact h.elim))
 rename_i pend tms ps as body hlk;split at h<;>(try (exact h.elim))
 rename_i hlen;have hlen:args.length=ps.size:=by simpa using hlen
 obtain⟨fn,D,hrec⟩:=hI.rep id _ hlk;have hid:id<nid:=hI.out id _ hlk;have htms:AV.allL (·<nid) tms=true:=hI.blk id _ hlk;refine⟨_,hrec,hlen,QXV ?_⟩
 have hset:=QNR (r:=r) ps.toList args tms (AV.denL r tms).toArray (by simp[Kf]) (λt=>by
  rw[Array.getD_eq_getD_getElem?,List.getElem?_toArray,Qy,List.getElem?_map];unfold QJ;cases tms[t]? <;> rfl)
 have ezip:((ps.zip (AV.denL r args).toArray).foldl (λtmps (t,v)=>tmps.setIfInBounds t v) (AV.denL r tms).toArray)=(ps.toList.zip (AV.denL r args)).foldl (λtmps (t,v)=>tmps.setIfInBounds t v) (AV.denL r tms).toArray:=by
  rw[<-Array.foldl_toList];simp
 simp only[ezip];let G':Ctx:=⟨G.w,G.ch,nid,r,some (r id).blk⟩;have hI':KM G' nid r hp w:=hI.call;have hH:=hH G' hid rfl;refine jE (G:=G') hE (hH as).call (hH as).yield as (hH as).loop ⟨YZ tms ps.toList args,hp,nid⟩ _ T _ _ w (qlr _) h (hI'.toRep hset.1 hset.2 (QRR _ _ _ htms ha) (Dfr.none rfl)) ?_;intro e st1 a1 w1 hn1 h1 hr1;cases e with
 | exit j=>exact h1.elim
 | ret=>exact h1.elim
 | normal=>
 simp only at h1;split at h1<;>(try (exact h1.elim))
 rename_i pend1 tms1 ps1 as1 body1 hlk1;obtain⟨⟨r1,hI1⟩,hS1⟩:=hr1;obtain⟨fn1,D1,hrec1⟩:=hI1.rep id _ hlk1;have e1:r1 id=r id:=hI1.ext id hid;rw[e1]at hrec1;show ∃ rec1,_;refine⟨_,hrec1,rfl,?_⟩;have hH1:KM G' st1.nid r1 st1.hp w1:=Rep.hinv hI1 hS1;have hput:=hH1.lp (s' := .busy) (p':=pend1) hlk1 (by rw[e1];exact hrec1)
 rw[e1]at hput
 have hd1:Dfr G' r1 (look ((id,.lp .busy pend1 tms1 ps1 as1 body1)::st1.hp)) a1:=hI1.defers.to rfl λid' _ hd=>⟨by
  simp only[Kw];split
  .rename_i he;have he:id=id':=by simpa using he
   subst he;rw[hlk1]at hd;cases hd
  .exact hd,rfl⟩
 refine jE (G:=G') hE (hH body).call (hH body).yield body (hH body).loop { st1 with hp:=(id,.lp .busy pend1 tms1 ps1 as1 body1)::st1.hp } _ T _ a1 _ hn1 h1 (hput.toRep (m:=st1.nid) hI1.size hI1.tm hS1.tm hd1) ?_
 intro e st2 a2 w2 hn2 h2 hr2;split at h2<;>(try (exact h2.elim))
 rename_i s2 pend2 tms2 ps2 as2 body2 hlk2;obtain⟨⟨r2,hI2⟩,hS2⟩:=hr2;obtain⟨fn2,D2,hrec2⟩:=hI2.rep id _ hlk2;have e2:r2 id=r id:=hI2.ext id hid;rw[e2]at hrec2;have hH2:KM G' st2.nid r2 st2.hp w2:=Rep.hinv hI2 hS2
 have fin:∀ s' p',KM G st2.nid r2 ((id,.lp s' p' tms2 ps2 as2 body2)::st2.hp) (w2.putObj (r id).blk (.loop { ({ state:=s2,pending:=pend2,fn:=fn2,tmps:=(AV.denL r2 tms2).toArray,params:=ps2,assign:=as2,body:=body2,defers:=D2 }:Loop)with state:=s',pending:=p' })):=by
  intro s' p';have:=hH2.lp (s':=s') (p':=p') hlk2 (by rw[e2];exact hrec2)
  rw[e2]at this;exact KM.back hn hI this
 cases e with
 | normal=>exact QZ0 hrec2 ⟨_,rfl,.bool true true,_,_,r2,h2,rfl,hn2,λi hi=>hI2.ext i hi,fin .ready none,rfl⟩
 | ret=>exact QYy hrec2 ⟨_,rfl,.bool true false,_,_,r2,h2,rfl,hn2,λi hi=>hI2.ext i hi,fin .done (some .ret),rfl⟩
 | exit j=>exact Qkp hrec2 ⟨_,rfl,.bool true false,_,_,r2,h2,rfl,hn2,λi hi=>hI2.ext i hi,fin .done (some (.exit j)),rfl⟩
theorem Qjy (hrd:G.rd=none) {call:FuncId->List AV->List (Nat×Blk)->Nat->(AV->List (Nat×Blk)->Nat->QC)->QC} (hC:ZA E G call) {g:Operand} {ps:Array Tmp} {as body:Code} {st:St} {K:Ex->St->QC} {Q:Exit->Act->World->Prop} (hn:G.n<=st.nid)
  (h : (match evA st.tm g with
        | .fn (.func f) cap => call f (.yld (st.nid + 1) :: cap) ((st.nid + 1,.lp .ready none st.tm ps as body) :: (st.nid,.dfr) :: st.hp) (st.nid + 8) λ_ hp nid=>
          (match Zh ((st.nid,.dfr) :: st.hp) hp with
          | true => (match look hp (st.nid + 1)with
            | some (.lp s pend _ _ _ _) => (match s with
              | .busy => .fail "a busy loop"
              | _ => match pend with
                | none => K .normal ⟨st.tm,(st.nid + 1,.gone) :: hp,nid⟩
                | some .ret => K .ret ⟨st.tm,(st.nid + 1,.gone) :: hp,nid⟩
                | some (.exit j) => K (.exit j) ⟨st.tm,(st.nid + 1,.gone) :: hp,nid⟩
                | _ => .fail "pending")
            | _ => .fail "the loop's record")
          | false => .fail "deferred")
        | _ => .fail "what is ranged over" : QC).den T) (hr : Rep G st.nid st a w)
  (hQ:∀ e st' a' w',G.n<=st'.nid->(K e st').den T->Rep G st'.nid st' a' w'->Q e.to a' w'):(Code.rangeFunc g ps as body).wpIn (FW G.rd) 0 E.P Q a w:=by
 obtain⟨⟨r,hI⟩,hS⟩:=hr;have heg:a.eval g=(evA st.tm g).den r:=zw λt _=>hI.tm t;split at h<;>(try (exact h.elim))
 rename_i f cap hg;rw[hg]at heg
 have hcap:AV.allL (·<st.nid) cap=true:=by
  have:=W8 (x:=g) hS.tm;rw[hg]at this;exact this
 have htm:∀ t,(QJ st.tm t).all (·<st.nid)=true:=hS.tm
 have htmL:AV.allL (·<st.nid) st.tm=true:=by
  have:∀ l:List AV,(∀ x∈l,x.all (·<st.nid)=true)->AV.allL (·<st.nid) l=true:=by
   intro l
   induction l with
   | nil=>intro _;rfl
   | cons x l ih=>intro h;simp only[AV.allL,h x (by simp),ih (λy hy=>h y (by simp[hy]))];rfl
  refine this _ λx hx=>?_;obtain⟨t,ht⟩:=List.getElem?_of_mem hx;have:=htm t;unfold QJ at this;rw[ht]at this;exact this
 let r':Nat->Loc:=λi=>if i=st.nid then Loc.of w.heap.size 0 0 0 else if i=st.nid+1 then Loc.of (w.heap.size+1) 0 0 0 else r i
 have hr':∀ i,i<st.nid->r' i=r i:=by
  intro i hi;show(if i=st.nid then _ else if i=st.nid+1 then _ else r i)=r i
  rw[if_neg (by omega),if_neg (by omega)]
 have hrD:r' st.nid=Loc.of w.heap.size 0 0 0:=by show(if _ then _ else _)=_;rw[if_pos rfl]
 have hrL:r' (st.nid+1)=Loc.of (w.heap.size+1) 0 0 0:=by
  show(if _ then _ else _)=_
  rw[if_neg (by omega),if_pos rfl]
 have hcong:∀ i,decide (i<st.nid)=true->r i=r' i:=λi hi=>(hr' i (by simpa using hi)).symm
 have hargs:(AV.denL r' (.yld (st.nid+1)::cap)).toArray = #[.func (.yield (w.heap.size+1)) #[] #[]]++(AV.denL r cap).toArray:=by
  rw[denL_congr hcong cap hcap];simp only[AV.denL,AV.den,hrL,Loc.of];simp
 have hsz:∀ fn,((w.alloc (.deferred (some []))).alloc (.loop { state := .ready,pending:=none,fn,tmps:=a.tmps,params:=ps,assign:=as,body,defers:=w.heap.size })).heap.size=w.heap.size+2:=by intro fn;unfold World.alloc;simp only[Array.size_push]
 have hold:∀ fn k,k<w.heap.size->bk ((w.alloc (.deferred (some []))).alloc (.loop { state := .ready,pending:=none,fn,tmps:=a.tmps,params:=ps,assign:=as,body,defers:=w.heap.size })) k=bk w k:=by
  intro fn k hk;unfold bk World.alloc;simp only[Array.getElem?_push,Array.size_push];rw[if_neg (by omega),if_neg (by omega)]
 have hfoot:∀(id:Nat) (b:Blk) (k:Nat),id<st.nid->(Qo r' id b k↔Qo r id b k):=λid b k hid=>by unfold Qo;rw[hr' id hid]
 have hHI:∀ fn,KM G (st.nid+8) r' ((st.nid+1,.lp .ready none st.tm ps as body)::(st.nid,.dfr)::st.hp) ((w.alloc (.deferred (some []))).alloc (.loop { state := .ready,pending:=none,fn,tmps:=a.tmps,params:=ps,assign:=as,body,defers:=w.heap.size })):=by
  intro fn
  have hlk:∀ id b,look ((st.nid+1,.lp .ready none st.tm ps as body)::(st.nid,.dfr)::st.hp) id=some b->(id=st.nid+1/\b = .lp .ready none st.tm ps as body)∨(id=st.nid/\b = .dfr)∨(id<st.nid/\look st.hp id=some b/\∀ k,Qo r id b k->k<w.heap.size):=by
   intro id b hb;simp only[Kw]at hb;split at hb
   .rename_i he;simp only[Blk.live,if_true,qsI]at hb
    exact .inl ⟨by have : st.nid + 1 = id := by simpa using he
                   exact this.symm,hb.symm⟩
   .split at hb
    .rename_i he;simp only[Blk.live,if_true,qsI]at hb
     exact .inr (.inl ⟨by have : st.nid = id := by simpa using he
                          exact this.symm,hb.symm⟩)
    .exact .inr (.inr ⟨hS.out id b hb,hb,(hI.rep id b hb).lt (hI.live id b hb)⟩)
  refine⟨λid b hb=>?_,λid id' b b' hb hb' hne ho k hk hk'=>?_,λid hid=>?_,?_,λid b hb ho k hk=>?_,λid b hb=>?_,λid b hb=>?_⟩
  .rcases hlk id b hb with ⟨rfl,rfl⟩|⟨rfl,rfl⟩|⟨h1,h2,h3⟩
   .refine⟨fn,w.heap.size,?_⟩;rw[hrL];show bk _ (w.heap.size+1)=_;rw[<-denL_congr hcong _ htmL,<-QMq hI.size hI.tm];unfold bk World.alloc;simp only[Array.getElem?_push,Array.size_push,if_true]
   .intro k hk;rw[hrD]at hk;obtain rfl:k=w.heap.size:=hk;unfold bk World.alloc;simp only[Array.getElem?_push,Array.size_push,if_true];rw[if_neg (by omega)]
   .refine(hI.rep id b h2).keep hcong (hr' id h1).symm (by rw[hsz];omega) (hS.blk id b h2) λ_ k hk=>hold fn _ (h3 k hk)
  .rcases hlk id b hb with ⟨rfl,rfl⟩|⟨rfl,rfl⟩|⟨h1,h2,h3⟩<;>rcases hlk id' b' hb' with ⟨rfl,rfl⟩|⟨rfl,rfl⟩|⟨g1,g2,g3⟩
   .exact absurd rfl hne
   .have e1:k=(r' (st.nid+1)).blk:=hk;have e2:(r' st.nid).foot k:=hk';rw[hrL]at e1;rw[hrD]at e2;simp only[Loc.of]at e1 e2;omega
   .have e1:k=(r' (st.nid+1)).blk:=hk;rw[hrL]at e1;simp only[Loc.of]at e1;have:=g3 k ((hfoot _ _ _ g1).1 hk');omega
   .cases ho
   .cases ho
   .cases ho
   .have e1:k=(r' (st.nid+1)).blk:=hk';rw[hrL]at e1;simp only[Loc.of]at e1;have:=h3 k ((hfoot _ _ _ h1).1 hk);omega
   .have e1:(r' st.nid).foot k:=hk';rw[hrD]at e1;simp only[Loc.of]at e1;have:=h3 k ((hfoot _ _ _ h1).1 hk);omega
   .exact hI.sep _ _ _ _ h2 g2 hne ho k ((hfoot _ _ _ h1).1 hk) ((hfoot _ _ _ g1).1 hk')
  .rw[hr' id (Nat.lt_of_lt_of_le hid hn)];exact hI.ext id hid
  .refine⟨hI.fr.os,hI.fr.tape,hI.fr.output,by rw[hsz];have:=hI.fr.size;omega,hI.fr.drawn,λk hk hc=>?_⟩
   rw[hold fn k (Nat.lt_of_lt_of_le hk hI.fr.size)];exact hI.fr.block k hk hc
  .rcases hlk id b hb with ⟨rfl,rfl⟩|⟨rfl,rfl⟩|⟨h1,h2,h3⟩
   .have e1:k=(r' (st.nid+1)).blk:=hk;rw[hrL]at e1;simp only[Loc.of]at e1;exact .inr (by have:=hI.fr.size;omega)
   .cases ho
   .exact hI.own id b h2 ho k ((hfoot _ _ _ h1).1 hk)
  .rcases hlk id b hb with ⟨rfl,rfl⟩|⟨rfl,rfl⟩|⟨h1,h2,h3⟩<;>omega
  .rcases hlk id b hb with ⟨rfl,rfl⟩|⟨rfl,rfl⟩|⟨h1,h2,h3⟩
   .exact allL_mono (VO (by omega)) _ htmL
   .rfl
   .exact Blk.all_mono (VO (by omega)) _ (hS.blk id b h2)
 have hall:AV.allL (·<st.nid+8) (.yld (st.nid+1)::cap)=true:=by
  simp only[AV.allL,AV.all,qbA,qdE];exact⟨by omega,allL_mono (VO (by omega)) _ hcap⟩
 have key:=λfn=>hC f _ _ (st.nid+8) _ T r' _ (by omega) (hHI fn) hall h
 rw[hrd];refine QZe (gf:=f) (lb:=(AV.denL r cap).toArray) (by rw[heg];rfl) (key 0).1 λfn=>?_
 have:=(key fn).2;rw[hargs]at this;refine this.mono ?_;rintro e w3 ⟨v,hp',nid',r2,hK,rfl,hle,hrr,hH,hv⟩;split at hK<;>(try (exact hK.elim))
 rename_i hkd;split at hK<;>(try (exact hK.elim))
 rename_i s pend tms' ps' as' body' hlk;obtain⟨fn3,D3,hrec⟩:=hH.rep _ _ hlk;have e1:(r2 (st.nid+1)).blk=w.heap.size+1:=by rw[hrr _ (by omega),hrL];rfl
 rw[e1]at hrec;have hge:=hI.fr.size;have hr2:∀ i,i<st.nid->r2 i=r i:=λi hi=>(hrr i (by omega)).trans (hr' i hi)
 have fin:∀ o,Rep G nid' ⟨st.tm,(st.nid+1,.gone)::hp',nid'⟩ { a with defers:=QAJ w.heap.size::a.defers } (w3.putObj (w.heap.size+1) o):=by
  intro o;have hp:=hH.put (b' := .gone) (o:=o) hlk rfl rfl rfl (λhl=>by cases hl) rfl
  rw[e1]at hp;refine hp.toRep (a:={ a with defers:=QAJ w.heap.size::a.defers }) hI.size (λt=>?_) (λt=>all_mono (VO (by omega)) _ (htm t)) ?_
  .rw[hI.tm t];exact XT (p:=(·<st.nid)) (λi hi=>(hr2 i (by simpa using hi)).symm) _ (htm t)
  .obtain⟨ds,d1,d2,d3⟩:=hI.defers
   have hkeep:∀ id,look ((st.nid,Blk.dfr)::st.hp) id=some .dfr->look ((st.nid+1,.gone)::hp') id=some .dfr:=by
    intro id hid;have:=QII hkd hid;simp only[Kw];split
    .rename_i he;have he:st.nid+1=id:=by simpa using he
     subst he;rw[hlk]at this;cases this
    .exact this
   have hlt:∀ b∈ds,b<w.heap.size:=λb hb=>by
    obtain⟨_,id,_,h2,h3⟩:=d3 b hb;exact(hI.rep id _ h2).lt rfl _ h3
   have hD:(r2 st.nid).foot w.heap.size:=by rw[hrr _ (by omega),hrD];rfl
   refine⟨w.heap.size::ds,by rw[d1];rfl,?_,λb hb=>?_⟩
   .rw[List.nodup_cons];exact⟨λhm=>qli _ (hlt _ hm),d2⟩
   .rcases List.mem_cons.1 hb with rfl|hb
    .exact⟨hge,st.nid,hn,hkeep _ (by simp[Kw,Blk.live]),hD⟩
    .obtain⟨h0,id,h1,h2,h3⟩:=d3 b hb;have hid:=hS.out id _ h2;refine⟨h0,id,h1,hkeep _ ?_,by rw[hr2 id hid];exact h3⟩
     have hne:(st.nid==id)=false:=by simp;omega
     simp only[Kw,hne];exact h2
 have hK2:s ≠ .busy/\(match (generalizing:=false) pend with
   | none=>K .normal ⟨st.tm,(st.nid+1,.gone)::hp',nid'⟩
   | some .ret=>K .ret ⟨st.tm,(st.nid+1,.gone)::hp',nid'⟩
   | some (.exit j)=>K (.exit j) ⟨st.tm,(st.nid+1,.gone)::hp',nid'⟩
   | _ => .fail "pending" : QC).den T := by
  split at hK
  .exact hK.elim
  .rename_i hs;exact⟨hs,hK⟩
 refine⟨_,_,rfl,hrec,hK2.1,?_⟩;have hK3:=hK2.2;have hn':G.n<=nid':=by omega
 split at hK3<;>(try (exact hK3.elim))
 .exact hQ .normal _ _ _ hn' hK3 (fin _)
 .exact wpIn_ret (hQ .ret _ _ _ hn' hK3 (fin _))
 .rename_i j;exact wpIn_exit (hQ (.exit j) _ _ _ hn' hK3 (fin _))
theorem Qe5 {id0:Nat} (h0:id0<G.n) (hrd:G.rd=some (G.r id0).blk) {call:FuncId->List AV->List (Nat×Blk)->Nat->(AV->List (Nat×Blk)->Nat->QC)->QC} (hC:ZA E G call) {g:Operand} {ps:Array Tmp} {as body:Code} {st:St} {K:Ex->St->QC} {Q:Exit->Act->World->Prop} (hn:G.n<=st.nid)
  (h : (match look st.hp id0 with
        | some (.lp _ _ _ _ _ _) => (match evA st.tm g with
          | .fn (.func f) cap => call f (.yld (st.nid + 1) :: cap) ((st.nid + 1,.lp .ready none st.tm ps as body) :: st.hp) (st.nid + 8) λ_ hp nid=>
            (match Zh st.hp hp with
            | true => (match look hp (st.nid + 1)with
              | some (.lp s pend _ _ _ _) => (match s with
                | .busy => .fail "a busy loop"
                | _ => match pend with
                  | none => K .normal ⟨st.tm,(st.nid + 1,.gone) :: hp,nid⟩
                  | some .ret => K .ret ⟨st.tm,(st.nid + 1,.gone) :: hp,nid⟩
                  | some (.exit j) => K (.exit j) ⟨st.tm,(st.nid + 1,.gone) :: hp,nid⟩
                  | _ => .fail "pending")
              | _ => .fail "the loop's record")
            | false => .fail "deferred")
          | _ => .fail "what is ranged over")
        | _ => .fail "the round's record" : QC).den T) (hr : Rep G st.nid st a w)
  (hQ:∀ e st' a' w',G.n<=st'.nid->(K e st').den T->Rep G st'.nid st' a' w'->Q e.to a' w'):(Code.rangeFunc g ps as body).wpIn (FW G.rd) 0 E.P Q a w:=by
 obtain⟨⟨r,hI⟩,hS⟩:=hr;have heg:a.eval g=(evA st.tm g).den r:=zw λt _=>hI.tm t;split at h<;>(try (exact h.elim))
 rename_i s0 pend0 tms0 ps0 as0 body0 hlk0;obtain⟨fn0,D0,hrec0⟩:=hI.rep id0 _ hlk0;have e0:r id0=G.r id0:=hI.ext id0 h0;rw[e0]at hrec0;split at h<;>(try (exact h.elim))
 rename_i f cap hg;rw[hg]at heg
 have hcap:AV.allL (·<st.nid) cap=true:=by
  have:=W8 (x:=g) hS.tm;rw[hg]at this;exact this
 have htm:∀ t,(QJ st.tm t).all (·<st.nid)=true:=hS.tm
 have htmL:AV.allL (·<st.nid) st.tm=true:=by
  have:∀ l:List AV,(∀ x∈l,x.all (·<st.nid)=true)->AV.allL (·<st.nid) l=true:=by
   intro l
   induction l with
   | nil=>intro _;rfl
   | cons x l ih=>intro h;simp only[AV.allL,h x (by simp),ih (λy hy=>h y (by simp[hy]))];rfl
  refine this _ λx hx=>?_;obtain⟨t,ht⟩:=List.getElem?_of_mem hx;have:=htm t;unfold QJ at this;rw[ht]at this;exact this
 let r':Nat->Loc:=λi=>if i=st.nid+1 then Loc.of w.heap.size 0 0 0 else r i
 have hr':∀ i,i<st.nid->r' i=r i:=by
  intro i hi;show(if i=st.nid+1 then _ else r i)=r i
  rw[if_neg (by omega)]
 have hrL:r' (st.nid+1)=Loc.of w.heap.size 0 0 0:=by
  show(if _ then _ else _)=_
  rw[if_pos rfl]
 have hcong:∀ i,decide (i<st.nid)=true->r i=r' i:=λi hi=>(hr' i (by simpa using hi)).symm
 have hargs:(AV.denL r' (.yld (st.nid+1)::cap)).toArray = #[.func (.yield w.heap.size) #[] #[]]++(AV.denL r cap).toArray:=by
  rw[denL_congr hcong cap hcap];simp only[AV.denL,AV.den,hrL,Loc.of];simp
 have hsz:∀ fn,(w.alloc (.loop { state := .ready,pending:=none,fn,tmps:=a.tmps,params:=ps,assign:=as,body,defers:=D0 })).heap.size=w.heap.size+1:=by intro fn;unfold World.alloc;simp only[Array.size_push]
 have hold:∀ fn k,k<w.heap.size->bk (w.alloc (.loop { state := .ready,pending:=none,fn,tmps:=a.tmps,params:=ps,assign:=as,body,defers:=D0 })) k=bk w k:=by
  intro fn k hk;unfold bk World.alloc;simp only[Array.getElem?_push];rw[if_neg (by omega)]
 have hfoot:∀(id:Nat) (b:Blk) (k:Nat),id<st.nid->(Qo r' id b k↔Qo r id b k):=λid b k hid=>by unfold Qo;rw[hr' id hid]
 have hHI:∀ fn,KM G (st.nid+8) r' ((st.nid+1,.lp .ready none st.tm ps as body)::st.hp) (w.alloc (.loop { state := .ready,pending:=none,fn,tmps:=a.tmps,params:=ps,assign:=as,body,defers:=D0 })):=by
  intro fn
  have hlk:∀ id b,look ((st.nid+1,.lp .ready none st.tm ps as body)::st.hp) id=some b->(id=st.nid+1/\b = .lp .ready none st.tm ps as body)∨(id<st.nid/\look st.hp id=some b/\∀ k,Qo r id b k->k<w.heap.size):=by
   intro id b hb;simp only[Kw]at hb;split at hb
   .rename_i he;simp only[Blk.live,if_true,qsI]at hb
    exact .inl ⟨by have : st.nid + 1 = id := by simpa using he
                   exact this.symm,hb.symm⟩
   .exact .inr ⟨hS.out id b hb,hb,(hI.rep id b hb).lt (hI.live id b hb)⟩
  refine⟨λid b hb=>?_,λid id' b b' hb hb' hne ho k hk hk'=>?_,λid hid=>?_,?_,λid b hb ho k hk=>?_,λid b hb=>?_,λid b hb=>?_⟩
  .rcases hlk id b hb with ⟨rfl,rfl⟩|⟨h1,h2,h3⟩
   .refine⟨fn,D0,?_⟩;rw[hrL];show bk _ w.heap.size=_;rw[<-denL_congr hcong _ htmL,<-QMq hI.size hI.tm];unfold bk World.alloc;simp only[Array.getElem?_push,if_true]
   .refine(hI.rep id b h2).keep hcong (hr' id h1).symm (by rw[hsz];omega) (hS.blk id b h2) λ_ k hk=>hold fn _ (h3 k hk)
  .rcases hlk id b hb with ⟨rfl,rfl⟩|⟨h1,h2,h3⟩<;>rcases hlk id' b' hb' with ⟨rfl,rfl⟩|⟨g1,g2,g3⟩
   .exact absurd rfl hne
   .have e1:k=(r' (st.nid+1)).blk:=hk;rw[hrL]at e1;simp only[Loc.of]at e1;have:=g3 k ((hfoot _ _ _ g1).1 hk');omega
   .have e1:k=(r' (st.nid+1)).blk:=hk';rw[hrL]at e1;simp only[Loc.of]at e1;have:=h3 k ((hfoot _ _ _ h1).1 hk);omega
   .exact hI.sep _ _ _ _ h2 g2 hne ho k ((hfoot _ _ _ h1).1 hk) ((hfoot _ _ _ g1).1 hk')
  .rw[hr' id (Nat.lt_of_lt_of_le hid hn)];exact hI.ext id hid
  .refine⟨hI.fr.os,hI.fr.tape,hI.fr.output,by rw[hsz];have:=hI.fr.size;omega,hI.fr.drawn,λk hk hc=>?_⟩
   rw[hold fn k (Nat.lt_of_lt_of_le hk hI.fr.size)];exact hI.fr.block k hk hc
  .rcases hlk id b hb with ⟨rfl,rfl⟩|⟨h1,h2,h3⟩
   .have e1:k=(r' (st.nid+1)).blk:=hk;rw[hrL]at e1;simp only[Loc.of]at e1;exact .inr (by have:=hI.fr.size;omega)
   .exact hI.own id b h2 ho k ((hfoot _ _ _ h1).1 hk)
  .rcases hlk id b hb with ⟨rfl,rfl⟩|⟨h1,h2,h3⟩<;>omega
  .rcases hlk id b hb with ⟨rfl,rfl⟩|⟨h1,h2,h3⟩
   .exact allL_mono (VO (by omega)) _ htmL
   .exact Blk.all_mono (VO (by omega)) _ (hS.blk id b h2)
 have hall:AV.allL (·<st.nid+8) (.yld (st.nid+1)::cap)=true:=by
  simp only[AV.allL,AV.all,qbA,qdE];exact⟨by omega,allL_mono (VO (by omega)) _ hcap⟩
 have key:=λfn=>hC f _ _ (st.nid+8) _ T r' _ (by omega) (hHI fn) hall h
 rw[hrd];refine QhR (gf:=f) (lb:=(AV.denL r cap).toArray) hrec0 (by rw[heg];rfl) (key 0).1 λfn=>?_
 have:=(key fn).2;rw[hargs]at this;refine this.mono ?_;rintro e w3 ⟨v,hp',nid',r2,hK,rfl,hle,hrr,hH,hv⟩;split at hK<;>(try (exact hK.elim))
 rename_i hkd;split at hK<;>(try (exact hK.elim))
 rename_i s pend tms' ps' as' body' hlk;obtain⟨fn3,D3,hrec⟩:=hH.rep _ _ hlk;have e1:(r2 (st.nid+1)).blk=w.heap.size:=by rw[hrr _ (by omega),hrL];rfl
 rw[e1]at hrec;have hge:=hI.fr.size;have hr2:∀ i,i<st.nid->r2 i=r i:=λi hi=>(hrr i (by omega)).trans (hr' i hi)
 have fin:∀ o,Rep G nid' ⟨st.tm,(st.nid+1,.gone)::hp',nid'⟩ a (w3.putObj w.heap.size o):=by
  intro o;have hp:=hH.put (b' := .gone) (o:=o) hlk rfl rfl rfl (λhl=>by cases hl) rfl
  rw[e1]at hp;refine hp.toRep (a:=a) hI.size (λt=>?_) (λt=>all_mono (VO (by omega)) _ (htm t)) ?_
  .rw[hI.tm t];exact XT (p:=(·<st.nid)) (λi hi=>(hr2 i (by simpa using hi)).symm) _ (htm t)
  .obtain⟨ds,d1,d2,d3⟩:=hI.defers
   have hkeep:∀ id,look st.hp id=some .dfr->look ((st.nid+1,.gone)::hp') id=some .dfr:=by
    intro id hid;have:=QII hkd hid;simp only[Kw];split
    .rename_i he;have he:st.nid+1=id:=by simpa using he
     subst he;rw[hlk]at this;cases this
    .exact this
   refine⟨ds,d1,d2,λb hb=>?_⟩;obtain⟨h0,id,h1,h2,h3⟩:=d3 b hb;exact⟨h0,id,h1,hkeep _ h2,by rw[hr2 id (hS.out id _ h2)];exact h3⟩
 have hK2:s ≠ .busy/\(match (generalizing:=false) pend with
   | none=>K .normal ⟨st.tm,(st.nid+1,.gone)::hp',nid'⟩
   | some .ret=>K .ret ⟨st.tm,(st.nid+1,.gone)::hp',nid'⟩
   | some (.exit j)=>K (.exit j) ⟨st.tm,(st.nid+1,.gone)::hp',nid'⟩
   | _ => .fail "pending" : QC).den T := by
  split at hK
  .exact hK.elim
  .rename_i hs;exact⟨hs,hK⟩
 refine⟨_,_,rfl,hrec,hK2.1,?_⟩;have hK3:=hK2.2;have hn':G.n<=nid':=by omega
 split at hK3<;>(try (exact hK3.elim))
 .exact hQ .normal _ _ _ hn' hK3 (fin _)
 .exact wpIn_ret (hQ .ret _ _ _ hn' hK3 (fin _))
 .rename_i j;exact wpIn_exit (hQ (.exit j) _ _ _ hn' hK3 (fin _))
theorem Qhk:∀(n:Nat) (fr:Option Nat) (s:Code),(∀ body,s ≠ .loop body)->(∀ g ps as body,s ≠ .rangeFunc g ps as body)->J5 E G s ((Vp E n fr).loop s)
 | 0,_,s,_,_=>λst K T Q a w _ h _ _=>h.elim
 | n+1,_,s,hs,hr=>λst K T Q a w _ h _ _=>by
  cases s with
  | loop body=>exact absurd rfl (hs _)
  | rangeFunc g ps as body=>exact absurd rfl (hr _ _ _ _)
  | _=>exact h.elim
structure QCU (E:Env) (G:Ctx) (n:Nat) (fr:Option Nat):Prop where
 rounds:∀(body:Code) (st:St) (K:Ex->St->QC) (T:AV->List (Nat×Blk)->Prop) (Q:Exit->Act->World->Prop) (a:Act) (w:World),G.n<=st.nid->((Vp E n fr).loop (.loop body) st K).den T->Rep G st.nid st a w ->
  (∀ e st' a' w',G.n<=st'.nid->(K e st').den T->Rep G st'.nid st' a' w'->Q e.to a' w')->Code.roundsIn (FW G.rd) 0 E.P body Q n a w
 range:∀ g ps as body,J5 E G (.rangeFunc g ps as body) ((Vp E n fr).loop (.rangeFunc g ps as body))
 call:ZA E G (Vp E n fr).call
 yield:QE0 E G (Vp E n fr).yield
theorem QCU.stmt{fr:Option Nat}(h:QCU E G n fr)(s:Code):J5 E G s ((Vp E n fr).loop s):=by
 by_cases hs:∃ body,s = .loop body
 .obtain⟨body,rfl⟩:=hs;exact λst K T Q a w h1 h2 h3 h4=>wpIn_loop_rounds n (h.rounds body st K T Q a w h1 h2 h3 h4)
 .by_cases hr:∃ g ps as body,s = .rangeFunc g ps as body
  .obtain⟨g,ps,as,body,rfl⟩:=hr;exact h.range g ps as body
  .exact Qhk n fr s (λbody he=>hs ⟨body,he⟩) λg ps as body he=>hr ⟨g,ps,as,body,he⟩
theorem QCU.ok{fr:Option Nat}(h:QCU E G n fr)(c:Code):Q0 E G (Vp E n fr) c:=⟨λs _=>h.stmt s,h.call,h.yield⟩
theorem QMX(hE:E.Sound){call:FuncId->List AV->List (Nat×Blk)->Nat->(AV->List (Nat×Blk)->Nat->QC)->QC}(hC:ZA E G call):ZA E G (QDS E call):=by
 intro f args hp nid K T r w hn hI ha h;unfold QDS at h;cases hc:E.C f with
 | none=>rw[hc]at h;exact hC f args hp nid K T r w hn hI ha h
 | some fc=>
  rw[hc]at h;simp only[QTn]at h;split at h
  .exact h.elim
  rename_i blks hb;split at h
  .exact h.elim
  rename_i eff he;split at h<;>(try (exact h.elim))
  rename_i hok;obtain⟨hp1,hK⟩:=QQw h;obtain⟨⟨r0,hInv0⟩,hS⟩:=hI.toRep (tm:=[]) (a:={ tmps := #[],defers:=[] }) rfl (λ_=>rfl) (λ_=>rfl) (Dfr.none rfl) (m:=nid);have hInv:Inv G 0 r (QJ []) (look hp) { tmps := #[],defers:=[] } w:=⟨rfl,Dfr.none rfl,λ_=>rfl,hI.rep,λ_ _ hb=>XQ hb,hI.sep,hI.ext,hI.fr,hI.own⟩;have hf:=hS.free (qlr _);have hs:=hE.c f fc hc;refine⟨hs.1,?_⟩;have hargs:AV.allL (λi=>!inR nid i) args=true:=allL_mono (jA (qlr nid)) _ ha;have:=hs.2 args nid (jc hp) r w (look hp) blks eff (hInv.hok hf) hargs (HU hb) he hp1;refine this.mono ?_;rintro e w' ⟨r',rfl,hpost⟩
  unfold Wu at hok;simp only[qbA,List.all_eq_true,qbO]at hok
  have hold:∀ p∈eff.upd,inR nid p.1=false->∃ b,look hp p.1=some b/\b.own=true:=by
   intro p hpm hin;rcases(hok.2 p hpm).2 with h1|h1
   .rw[hin]at h1;cases h1
   .exact QJu h1.2
  have hst:=hInv.step (d:=none) (v:=eff.val) hf hn hpost hold
  have hlk:∀ id,look (vD eff.upd hp) id=Jp eff.upd (look hp) id:=λid=>by
   exact(jK _ _ _).trans (QEU _ _ _)
  refine⟨eff.val,vD eff.upd hp,nid+8,r',hK,rfl,by omega,λid hid=>hpost.same id (by
   have:=jA (qlr nid) id (by simpa using hid);simpa using this),?_,hok.1⟩
  refine⟨λid b hb=>hst.rep id b (by rw[<-hlk];exact hb),λid id' b b' h1 h2=>hst.sep id id' b b' (by rw[<-hlk];exact h1) (by rw[<-hlk];exact h2),hst.ext,hst.fr,λid b h1=>hst.own id b (by rw[<-hlk];exact h1),λid b h1=>?_,λid b h1=>?_⟩
  .rcases QFE ((jK _ _ _).symm.trans h1)with ⟨p,hpm,rfl,_⟩|h2
   .rcases(hok.2 p hpm).2 with h3|h3
    .exact QJA h3
    .obtain⟨b',hb',_⟩:=QJu h3.2;have:=hI.out _ _ hb';omega
   .have:=hI.out _ _ h2;omega
  .rcases QFE ((jK _ _ _).symm.trans h1)with ⟨p,hpm,_,rfl⟩|h2
   .exact(hok.2 p hpm).1
   .exact Blk.all_mono (VO (by omega)) _ (hI.blk _ _ h2)
def QT6(G:Ctx):Option Nat->Prop
 | none=>G.rd=none
 | some id=>id<G.n/\G.rd=some (G.r id).blk
theorem QLY(h:G.rd=none):QT6 G none:=h
theorem KM.rd{G:Ctx}{n:Nat}{r:Nat->Loc}{h:List (Nat×Blk)}{w:World}{rd rd':Option Nat}(hI:KM ⟨G.w,G.ch,G.n,G.r,rd⟩ n r h w):KM ⟨G.w,G.ch,G.n,G.r,rd'⟩ n r h w:=⟨hI.rep,hI.sep,hI.ext,hI.fr,hI.own,hI.out,hI.blk⟩
theorem ZA.rd{E:Env}{G:Ctx}{call:FuncId->List AV->List (Nat×Blk)->Nat->(AV->List (Nat×Blk)->Nat->QC)->QC}(h:ZA E ⟨G.w,G.ch,G.n,G.r,none⟩ call):ZA E G call:=by
 intro g args hp nid K T r w hn hI ha hd;obtain⟨h1,h2⟩:=h g args hp nid K T r w hn (KM.rd (G:=G) (rd:=G.rd) hI) ha hd;refine⟨h1,h2.mono ?_⟩;rintro e w' ⟨v,hp',nid',r',k1,k2,k3,k4,k5,k6⟩;exact⟨v,hp',nid',r',k1,k2,k3,k4,KM.rd (G:=G) (rd':=G.rd) k5,k6⟩
theorem QVy{E:Env}(hE:E.Sound):∀(n:Nat) (fr:Option Nat) (G:Ctx),QT6 G fr->QCU E G n fr
 | 0,fr,G,_=>⟨λbody st K T Q a w _ h _ _=>h.elim,λg ps as body st K T Q a w _ h _ _=>h.elim,λg args hp nid K T r w _ _ _ h=>h.elim,λid args hp nid K T r w _ _ _ h=>h.elim⟩
 | n+1,fr,G,hfr=>by
  have ih:=QVy hE n;refine⟨λbody st K T Q a w hn h hr hQ=>?_,λg ps as body st K T Q a w hn h hr hQ=>?_,λg args hp nid K T r w hn hH hs h=>?_,λid args hp nid K T r w hn hH hs h=>?_⟩
  .rw[roundsIn_succ];simp only[Vp]at h;refine jE hE (ih fr G hfr).call (ih fr G hfr).yield body (λs _=>(ih fr G hfr).stmt s) st _ T _ a w hn h hr ?_;intro e st' a' w' hn' h' hr';cases e with
   | normal=>exact(ih fr G hfr).rounds body st' K T Q a' w' hn' h' hr' hQ
   | exit id=>exact hQ (.exit id) st' a' w' hn' h' hr'
   | ret=>exact hQ .ret st' a' w' hn' h' hr'
  .cases fr with
   | some id0=>exact Qe5 hfr.1 hfr.2 (QMX hE (ih none ⟨G.w,G.ch,G.n,G.r,none⟩ (QLY rfl)).call.rd) hn h hr hQ
   | none=>exact Qjy hfr (QMX hE (ih none G hfr).call) hn h hr hQ
  .simp only[Vp]at h;split at h
   .rename_i fn hf;split at h
    .rename_i hgo;refine⟨hgo,?_⟩;simp only[HP Qbs,HP QBz,HP QDA,HP QQk]at h
     have hb:∃ c,fn.body=some c:=by
      cases hb:fn.body with
      | none=>simp only[Vv,hb]at h;exact h.elim
      | some c=>exact⟨c,rfl⟩
     obtain⟨c,hb⟩:=hb;have:=HL hE hf hb (G:=⟨G.w,G.ch,nid,r,none⟩) ((ih none _ (QLY rfl)).ok c) rfl hH.call hs h;refine this.mono ?_;rintro e w' ⟨v,h',nid',r',hK,rfl,hle,hI,hv⟩;exact⟨v,_,nid',r',hK,rfl,hle,hI.ext,(KM.back hn hH hI).sub λ_ _ e=>Qjg e,hv⟩
    .exact h.elim
   .exact h.elim
  .exact QdJ hE (λG' h1 h2 c=>(ih (some id) G' ⟨h1,h2⟩).ok c) hn hH hs h
theorem Qz(hE:E.Sound)(n:Nat)(G:Ctx)(c:Code)(hG:G.rd=none):Q0 E G (hnd E n) c:=(QVy hE n none G hG).ok c
mutual
def AV.known:AV->Bool
 | .int c _ _=>c
 | .bool c _=>c
 | .slice c _ _ _ _=>c
 | .fn _ cap=>AV.knownL cap
 | .mth _ l=>AV.knownL l
 | .alt .. => false
 | .ifc _ v=>v.known
 | .opt .. => false
 | .slz .. => false
 | .agg l=>AV.knownL l
 | .tup l=>AV.knownL l
 | _=>true
def AV.knownL:List AV->Bool
 | []=>true
 | v::l=>v.known&&AV.knownL l
end
abbrev PF:=List AV->Option (Bool×AV)
def Kj(F:PF):FC:=λargs _ _=>([],λ_=>match F args with
 | some (p,v)=>match AV.knownL args with
  | true=>some ⟨true,p,v.setK true,[]⟩
  | false=>some ⟨false,p,v.setK false,[]⟩
 | none=>none)
theorem Qjc(hE:E.Sound){f:FuncId}{fn:Func}{c:Code}(hf:E.P.funcs[f]? = some fn)(hb:fn.body=some c)(hgo:J8 E.P f=true)(hl:∀ G,G.n=0->G.rd=none->Q0 E G H c){F:PF}(hF:∀ args v,F args=some (true,v)->∃ args',(∀ r,AV.denL r args'=AV.denL r args)/\AV.allL (λ_=>false) args'=true/\(KY E H false fn args' [] 0).den λu _=>∀ r r',u.den r'=v.den r):QS E.P f (Kj F):=by
 refine⟨hgo,λargs nid all r w lk blks eff _ _ _ he hp=>?_⟩
 have:∃ v,F args=some (true,v)/\eff.upd=[]/\∀ r,eff.val.den r=v.den r:=by
  simp only[Kj]at he;split at he<;>(try (cases he;done))
  rename_i p v hFa;split at he<;>simp only[qsI]at he<;>subst he<;>simp only at hp<;>subst hp<;>exact⟨v,hFa,rfl,λr=>vO r _ v⟩
 obtain⟨v,hFa,hu,hv⟩:=this;obtain⟨args',h1,h2,h3⟩:=hF args v hFa;have:=HL hE hf hb (G:=⟨w,λ_=>False,0,r,none⟩) (hl _ rfl rfl) (args:=args') (hp:=[]) (nid:=0) (r:=r) (w:=w) rfl ⟨by simp[look],by simp[look],by simp,Fr.refl _ _,by simp[look],by simp[look],by simp[look]⟩ (allL_mono (λ_ h=>by cases h) _ h2) h3
 rw[<-h1 r];refine this.mono λe w' ⟨u,h',nid',r',hT,he,_,hI,_⟩=>⟨r,by rw[he,hT r r',hv r],?_⟩
 rw[hu];exact⟨λ_ _=>rfl,by simp,⟨hI.fr.os,hI.fr.tape,hI.fr.output,hI.fr.size,hI.fr.drawn,λk hk _=>hI.fr.block k hk (by simp)⟩,by simp,by simp,by simp⟩
mutual
def AV.same:AV->AV->Prop
 | .int _ k n,.int _ k' n'=>k=k'/\n=n'
 | .bool _ b,.bool _ b'=>b=b'
 | .nilp,.nilp=>True
 | .nils,.nils=>True
 | .nilm,.nilm=>True
 | .nilf,.nilf=>True
 | .nili,.nili=>True
 | .str s,.str s'=>s=s'
 | .ifc t v,.ifc t' v'=>t=t'/\v.same v'
 | .agg l,.agg l'=>AV.sameL l l'
 | .tup l,.tup l'=>AV.sameL l l'
 | _,_=>False
def AV.sameL:List AV->List AV->Prop
 | [],[]=>True
 | v::l,v'::l'=>v.same v'/\AV.sameL l l'
 | _,_=>False
end
mutual
theorem QHa(r r':Nat->Loc):∀ u v:AV,u.same v->u.den r'=v.den r
 | .int ..,v,h=>by cases v<;>simp only[AV.same]at h;obtain⟨rfl,rfl⟩:=h;rfl
 | .bool ..,v,h=>by cases v<;>simp only[AV.same]at h;subst h;rfl
 | .nilp,v,h=>by cases v<;>simp only[AV.same]at h;rfl
 | .nils,v,h=>by cases v<;>simp only[AV.same]at h;rfl
 | .nilm,v,h=>by cases v<;>simp only[AV.same]at h;rfl
 | .nilf,v,h=>by cases v<;>simp only[AV.same]at h;rfl
 | .nili,v,h=>by cases v<;>simp only[AV.same]at h;rfl
 | .str ..,v,h=>by cases v<;>simp only[AV.same]at h;subst h;rfl
 | .ifc t u,v,h=>by cases v<;>simp only[AV.same]at h;obtain⟨rfl,h⟩:=h;simp only[AV.den];rw[QHa r r' u _ h]
 | .agg l,v,h=>by cases v<;>simp only[AV.same]at h;simp only[AV.den];rw[same_denL r r' l _ h]
 | .tup l,v,h=>by cases v<;>simp only[AV.same]at h;simp only[AV.den];rw[same_denL r r' l _ h]
 | .ptr ..,v,h=>by cases v<;>simp only[AV.same]at h
 | .addr ..,v,h=>by cases v<;>simp only[AV.same]at h
 | .slice ..,v,h=>by cases v<;>simp only[AV.same]at h
 | .map ..,v,h=>by cases v<;>simp only[AV.same]at h
 | .yld ..,v,h=>by cases v<;>simp only[AV.same]at h
 | .fn ..,v,h=>by cases v<;>simp only[AV.same]at h
 | .mth ..,v,h=>by cases v<;>simp only[AV.same]at h
 | .alt ..,v,h=>by cases v<;>simp only[AV.same]at h
 | .raw ..,v,h=>by cases v<;>simp only[AV.same]at h
 | .opt ..,v,h=>by cases v<;>simp only[AV.same]at h
theorem same_denL(r r':Nat->Loc):∀ u v:List AV,AV.sameL u v->AV.denL r' u=AV.denL r v
 | [],v,h=>by cases v<;>simp only[AV.sameL]at h;rfl
 | x::l,v,h=>by
  cases v<;>simp only[AV.sameL]at h
  simp only[AV.denL];rw[QHa r r' x _ h.1,same_denL r r' l _ h.2]
end
def vE(P:Program)(t:TypeId)(name:String):Option FuncId:=
 match P.info? t,P.underlying t with
 | some i,some u=>match i.methods.find? (·.name==name)with
  | some m=>match m.path.toList,m.func with
   | [],some (f,pr)=>match u,pr with
    | .pointer _,true=>some f
    | .pointer _,false=>none
    | _,false=>some f
    | _,true=>none
   | _,_=>none
  | none=>none
 | _,_=>none
theorem QCL(P:Program):QBI P (vE P):=by
 intro t name f h v w;unfold vE at h;split at h<;>(try (cases h;done))
 rename_i i u hi hu;split at h<;>(try (cases h;done))
 rename_i m hm;split at h<;>(try (cases h;done))
 rename_i f' pr hp hf;rw[show P.types.size+Made.depth=(P.types.size+Made.depth-1)+1 by simp[Made.depth]]
 split at h<;>(try (cases h;done))<;>simp only[qsI]at h<;>subst h <;>
  simp[method,typeInfo,hi,hm,hp,hf,follow,receiverAt,run_underlying hu,Place.get]
class Enc (α:Type) where
 enc:α->AV
 dec:AV->Option α
 ok:∀ v x,dec v=some x->(∀ r,(enc x).den r=v.den r)/\(enc x).all (λ_=>false)=true
class KL (α:Type) where
 enc:α->List AV
 dec:List AV->Option α
 ok:∀ v x,dec v=some x->(∀ r,AV.denL r (enc x)=AV.denL r v)/\AV.allL (λ_=>false) (enc x)=true
instance : Enc Int where
  enc n := .int false .i64 n
  dec | .int _ .i64 n => some n | _ => none
  ok v x h := by
    split at h <;> (try (cases h; done))
    simp only[qsI]at h; subst h; exact⟨λ_=>rfl,rfl⟩
instance : Enc Bool where
  enc b := .bool false b
  dec | .bool _ b => some b | _ => none
  ok v x h := by
    split at h <;> (try (cases h; done))
    simp only[qsI]at h; subst h; exact⟨λ_=>rfl,rfl⟩
instance : KL Unit where
  enc _ := []
  dec | [] => some () | _ => none
  ok v x h := by
    split at h <;> (try (cases h; done))
    exact⟨λ_=>rfl,rfl⟩
instance {α β : Type} [Enc α] [KL β] : KL (α × β) where
  enc x := Enc.enc x.1 :: KL.enc x.2
  dec | v :: l => match Enc.dec v,KL.dec l with
        | some a,some b => some (a,b)
        | _,_ => none
      | _ => none
  ok v x h := by
    split at h <;> (try (cases h; done))
    split at h <;> (try (cases h; done))
    rename_i a b ha hb;simp only[qsI]at h; subst h;have h1 := Enc.ok _ a ha;have h2 := KL.ok _ b hb;exact⟨λr=>by simp only[AV.denL]; rw[h1.1 r,h2.1 r],by simp only[AV.allL,h1.2,h2.2]; rfl⟩
theorem QC.den_mono{Q Q':AV->List (Nat×Blk)->Prop}(h:∀ v l,Q v l->Q' v l):∀{t:QC},t.den Q->t.den Q'
 | .leaf v l,ht=>h v l ht
 | .br _ _ _,ht=>⟨λhb=>QC.den_mono h (ht.1 hb),λhb=>QC.den_mono h (ht.2 hb)⟩
 | .need _ _,ht=>⟨ht.1,QC.den_mono h ht.2⟩
 | .all _,ht=>λg=>QC.den_mono h (ht g)
 | .asm _ _,ht=>λhp=>QC.den_mono h (ht hp)
 | .ask _ _,ht=>⟨ht.1,QC.den_mono h ht.2⟩
 | .both _ _,ht=>⟨QC.den_mono h ht.1,QC.den_mono h ht.2⟩
 | .bnd _ _,ht=>λx hx=>QC.den_mono h (ht x hx)
 | .bndI _ _,ht=>λx hx=>QC.den_mono h (ht x hx)
 | .fail _,ht=>ht.elim
theorem QSB{t t':QC}{Q:AV->List (Nat×Blk)->Prop}(e:t=t')(h:t'.den Q):t.den Q:=e ▸ h
def Ko{α:Type}[KL α](f:α->Bool×AV):PF:=λargs=>match (KL.dec args:Option α)with
 | some x=>some (f x)
 | none=>none
theorem QKN(hE:E.Sound){f:FuncId}{fn:Func}{c:Code}(hf:E.P.funcs[f]? = some fn)(hb:fn.body=some c)(hgo:J8 E.P f=true)(hl:∀ G,G.n=0->G.rd=none->Q0 E G H c){α:Type}[KL α]{F:α->Bool×AV}(hF:∀ x,(F x).1=true->(KY E H false fn (KL.enc x) [] 0).den λu _=>u.same (F x).2):QS E.P f (Kj (Ko F)):=by
 refine Qjc hE hf hb hgo hl λargs v h=>?_;unfold Ko at h;split at h<;>(try (cases h;done))
 rename_i x hx;simp only[qsI]at h;obtain⟨h1,h2⟩:=KL.ok args x hx;refine⟨KL.enc x,h1,h2,?_⟩;have:=hF x (by rw[h])
 refine QC.den_mono ?_ this;intro u _ hs r r';rw[h]at hs;exact QHa r r' _ _ hs
