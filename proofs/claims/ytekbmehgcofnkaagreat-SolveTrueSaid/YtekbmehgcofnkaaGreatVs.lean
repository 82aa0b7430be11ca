/- - -/
import Derived.Test.YtekbmehgcofnkaaGreatVq
namespace Go.SX
open Go Go.RowKit Go.Proofs.YtekbmehgcofnkaaGreat
def QEP:Blk->Bool
 | .rowz .. | .frz .. | .dfr=>false
 | _=>true
variable {r:Nat->Loc}
theorem QE6{id:Nat}{b:Blk}{k:Nat}(h:QEP b=true):Qo r id b k↔k=(r id).blk:=by
 cases b<;>first|(cases h;done)|exact Iff.rfl
theorem QWR{id:Nat}{b:Blk}{k:Nat}:Qo r id b.ro k↔Qo r id b k:=by cases b<;>exact Iff.rfl
noncomputable def QK(ps:List Prop):Bool := @decide (Ka ps) (Classical.propDecidable _)
theorem KG{ps:List Prop}:QK ps=true↔Ka ps:=by
 unfold QK;exact @decide_eq_true_iff _ (Classical.propDecidable _)
def QI6(o:Bool)(b:Blk):Blk:=match o with
 | true=>b
 | false=>b.ro
def Y4(Q:List Pr)(h:List (Nat×Blk)):List (Nat×Blk)->List (Nat×Blk)
 | []=>[]
 | (p,b)::l=>match JI Q p with
  | some ⟨_,s,c⟩=>(match c with
   | .ghost=>Y4 Q h l
   | _=>(match look h s with
    | some b'=>(s,QI6 b.own b')::Y4 Q h l
    | none=>Y4 Q h l))
  | none=>Y4 Q h l
theorem QA5{Q:List Pr}{h:List (Nat×Blk)}:∀{l:List (Nat×Blk)},∀ x∈Y4 Q h l,∃ b,look h x.1=some b/\(x.2=b∨x.2=b.ro)
 | [],x,hx=>by cases hx
 | (p,b)::l,x,hx=>by
  have step:∀ s,x∈(match look h s with
    | some b'=>(s,QI6 b.own b')::Y4 Q h l
    | none=>Y4 Q h l)->∃ b,look h x.1=some b/\(x.2=b∨x.2=b.ro):=by
   intro s hx;split at hx
   .rename_i b' hb';rcases List.mem_cons.1 hx with rfl|hx
    .refine⟨b',hb',?_⟩;unfold QI6;split
     .exact .inl rfl
     .exact .inr rfl
    .exact QA5 x hx
   .exact QA5 x hx
  simp only[Y4]at hx;split at hx
  .split at hx
   .exact QA5 x hx
   .exact step _ hx
  .exact QA5 x hx
structure UC where
 N:Nat
 pre:JSt
 val:Nat->AV
 post:Nat->List (Nat×Blk)
def UC.va(U:UC):AV:=U.val U.pre.nid
def UC.po(U:UC):List (Nat×Blk):=U.post U.pre.nid
def Jt(N M nid i:Nat):Nat:=match Nat.blt i N with
 | true=>i
 | false=>i-M+nid
def ZJ(N:Nat)(post:List (Nat×Blk)):List (Nat×Blk)->List (Nat×Blk)
 | []=>[]
 | (i,b)::l=>match b.own && !(post.any λp=>Nat.blt p.1 N&&Nat.beq p.1 i)with
  | true=>(i,.gone)::ZJ N post l
  | false=>ZJ N post l
def QQM(N:Nat)(post h:List (Nat×Blk)):Bool:=post.all λp=>match Nat.blt p.1 N with
 | true=>(match look h p.1 with
  | some b=>QEP b&&b.own
  | none=>false)
 | false=>true
def jz(pb:List Prop->Bool)(U:UC)(args:List AV)(nid:Nat)(h gn:List (Nat×Blk)):Option Eff:=match QF U.N args h U.pre,Nat.beq args.length U.pre.len&&(Nat.ble U.N nid&&QQM U.N U.po h)with
 | some ps,true=>some ⟨false,pb ps,U.val nid,gn++U.post nid⟩
 | _,_=>none
def HC{α β:Type}:List α->(List α->β)->β
 | [],k=>k []
 | x::l,k=>HC l λl'=>k (x::l')
theorem QAq{α β:Type}:∀(l:List α) (k:List α->β),HC l k=k l
 | [],_=>rfl
 | x::l,k=>by rw[HC,QAq l]
def QHE{β:Type}:Blk->(Blk->β)->β
 | .cells z t l,k=>Vz (Xk 6) l λl'=>k (.cells z t l')
 | .cellsR z t l,k=>Vz (Xk 6) l λl'=>k (.cellsR z t l')
 | .lp s p l q r b,k=>Vz (Xk 6) l λl'=>k (.lp s p l' q r b)
 | .itm l t a b c,k=>k (.itm l t a b c)
 | .rowl z t l,k=>k (.rowl z t l)
 | .rowlR z t l,k=>k (.rowlR z t l)
 | .gone,k=>k .gone
 | .dfr,k=>k .dfr
 | .mp a b,k=>k (.mp a b)
 | .rowz a b c d e,k=>k (.rowz a b c d e)
 | .frz a b c,k=>k (.frz a b c)
theorem QZV{β:Type}(b:Blk)(k:Blk->β):QHE b k=k b:=by
 cases b<;>simp only[QHE,qG,WO (qG 6)]
def QFN{β:Type}:List (Nat×Blk)->(List (Nat×Blk)->β)->β
 | [],k=>k []
 | (i,b)::h,k=>QHE b λb'=>QFN h λh'=>k ((i,b')::h')
theorem QCK{β:Type}:∀(l:List (Nat×Blk)) (k:List (Nat×Blk)->β),QFN l k=k l
 | [],_=>rfl
 | (i,b)::h,k=>by rw[QFN,QZV,QCK h]
def KT(pb:List Prop->Bool)(U:UC):FC:=λargs nid all=>(all,λblks=>Vz (Xk 6) args λargs=>QFN (J4 id all blks) λh0=>HC (Wx U.N args (U.pre.live.map (·.2)) h0 U.pre.hp) λQ=>HC (Y4 Q h0 U.pre.hp) λh=>HC (ZJ U.N U.po h) λgn=>jz pb U args nid h gn)
noncomputable def uFC(U:UC):FC:=KT QK U
def okU(N M i:Nat):Bool:=Nat.blt i N||(Nat.ble M i&&Nat.blt i (M+8))
def KX(U:UC):JSt:=⟨1,[(0,U.va)],U.po,U.pre.nid+8⟩
structure UC.Ok (U:UC):Prop where
 le:U.N<=U.pre.nid
 slots:U.pre.live.map (·.1)=List.range U.pre.len
 val:U.va.all (okU U.N U.pre.nid)=true
 post:∀ q∈U.po,okU U.N U.pre.nid q.1=true/\q.2.own=true/\q.2.all (okU U.N U.pre.nid)=true/\(q.1<U.N->QEP q.2=true)
 dist:QCh U.po=true
 valS:∀ nid,U.N<=nid->U.val nid=U.va.mapId (Jt U.N U.pre.nid nid)
 postS:∀ nid,U.N<=nid->U.post nid=U.po.map λq=>(Jt U.N U.pre.nid nid q.1,q.2.mapId (Jt U.N U.pre.nid nid))
def Gq(N:Nat):List (Nat×Blk)->List Nat
 | []=>[]
 | (i,_)::l=>match Nat.blt i N with
  | true=>i::Gq N l
  | false=>Gq N l
def Z4(ids:List Nat)(v:AV)(h:List (Nat×Blk)):QC:=match V8 h with
 | true => .leaf v (K1 ids [v] h)
 | false => .fail "deferred"
def VK(E:Env)(H:Hnd)(fn:Func)(U:UC):QC:=Vv E H fn (U.pre.live.map (·.2)) U.pre.hp U.pre.nid λv h _=>Z4 (Gq U.N U.po) v h
def jx(U:UC)(v:AV)(h:List (Nat×Blk)):Prop:=Jg U.pre.nid [0] 1 [v] h (KX U)
structure QkL (E:Env) (H:Hnd) (fn:Func) (U:UC):Prop where
 run:Zn (jx U) (VK E H fn U)
theorem QhX{n:Nat}{l:List (Nat×AV)}:∀{s:Nat},l.map (·.1)=List.range' s n->∀ t,lkS l (s+t)=(l.map (·.2))[t]? := by
 induction l generalizing n with
 | nil=>intro s _ t;rfl
 | cons x l ih=>
  intro s h t;cases n with
  | zero=>simp at h
  | succ n=>
   rw[List.range'_succ]at h;simp only[List.map_cons,List.cons.injEq]at h;obtain⟨i,v⟩:=x;simp only at h;obtain⟨rfl,h⟩:=h;cases t with
   | zero=>simp[lkS]
   | succ t=>
    have:(i==i+(t+1))=false:=by simp
    simp only[lkS,this,List.map_cons,List.getElem?_cons_succ];rw[show i+(t+1)=i+1+t by omega]
    exact ih h t
theorem WD{N:Nat}{post:List (Nat×Blk)}:∀{h:List (Nat×Blk)},∀ p∈ZJ N post h,p.2 = .gone/\(∃ b,(p.1,b)∈h/\b.own=true)/\∀ q∈post,q.1<N->q.1≠p.1
 | [],p,hp=>by cases hp
 | (i,b)::l,p,hp=>by
  simp only[ZJ]at hp;split at hp
  .rename_i hc;simp only[qbA]at hc;rcases List.mem_cons.1 hp with rfl|hp
   .refine⟨rfl,⟨b,by simp,hc.1⟩,λq hq hN he=>?_⟩
    have h2:(post.any λp=>Nat.blt p.1 N&&Nat.beq p.1 i)=true:=by
     refine List.any_eq_true.2 ⟨q,hq,?_⟩;rw[qbA];exact⟨Nat.ble_eq_true_of_le hN,by rw[he];exact Nat.beq_refl _⟩
    rw[h2]at hc;simp at hc
   .obtain⟨h1,⟨b',h2,h3⟩,h4⟩:=WD p hp;exact⟨h1,⟨b',List.mem_cons_of_mem _ h2,h3⟩,h4⟩
  .obtain⟨h1,⟨b',h2,h3⟩,h4⟩:=WD p hp;exact⟨h1,⟨b',List.mem_cons_of_mem _ h2,h3⟩,h4⟩
theorem QTz{N:Nat}{post:List (Nat×Blk)}:∀{h:List (Nat×Blk)} {i:Nat} {b:Blk},(i,b)∈h->b.own=true->(i,.gone)∈ZJ N post h∨∃ q∈post,q.1<N/\q.1=i
 | [],i,b,hm,_=>by cases hm
 | (j,c)::l,i,b,hm,ho=>by
  rcases List.mem_cons.1 hm with e|hm
  .simp only[qpI]at e;obtain⟨rfl,rfl⟩:=e
   by_cases hc:(post.any λp=>Nat.blt p.1 N&&Nat.beq p.1 i)=true
   .obtain⟨q,hq,hqq⟩:=List.any_eq_true.1 hc;simp only[qbA]at hqq;exact .inr ⟨q,hq,Nat.le_of_ble_eq_true hqq.1,qnb hqq.2⟩
   .refine .inl ?_;simp only[ZJ,ho,Bool.true_and];have:(post.any λp=>Nat.blt p.1 N&&Nat.beq p.1 i)=false:=(Bool.not_eq_true _).mp hc;rw[this];simp
  .rcases QTz hm ho with h|h
   .refine .inl ?_;simp only[ZJ];split
    .exact List.mem_cons_of_mem _ h
    .exact h
   .exact .inr h
theorem QYC{l:List AV}:(List.range l.length).map (QJ l)=l:=by
 apply List.ext_getElem?;intro i;rw[List.getElem?_map];rcases Nat.lt_or_ge i l.length with h|h
 .rw[List.getElem?_range h,Option.map_some,List.getElem?_eq_getElem h];unfold QJ;rw[List.getElem?_eq_getElem h];rfl
 .rw[List.getElem?_eq_none (by simpa using h),List.getElem?_eq_none h];rfl
theorem QPy(l:List AV)(t:Nat):(AV.denL r l).toArray.getD t undef=(QJ l t).den r:=by
 rw[Array.getD_eq_getD_getElem?,List.getElem?_toArray,Qy,List.getElem?_map];unfold QJ;cases l[t]? <;> rfl
theorem QRA{p:Nat->Bool}:∀{l:List AV},(∀ v∈l,v.all p=true)->AV.allL p l=true
 | [],_=>rfl
 | v::l,h=>by
  simp only[AV.allL,qbA];exact⟨h v (by simp),QRA λu hu=>h u (by simp[hu])⟩
theorem QLm{r r':Nat->Loc}:∀{L l:List AV},L.length=l.length->(∀ t v,L[t]? = some v->(QJ l t).den r=v.den r')->AV.denL r' L=AV.denL r l
 | [],[],_,_=>rfl
 | [],_::_,h,_=>by simp at h
 | _::_,[],h,_=>by simp at h
 | v::L,x::l,h,hg=>by
  have h0:=hg 0 v rfl;have h0:x.den r=v.den r':=h0;simp only[AV.denL];rw[<-h0,QLm (by simpa using h) (λt u hu=>hg (t+1) u (by simpa using hu))]
theorem K0{E:Env}(hE:E.Sound){f:FuncId}{fn:Func}{c:Code}(hf:E.P.funcs[f]? = some fn)(hb:fn.body=some c)(hgo:J8 E.P f=true){U:UC}(hU:U.Ok){H:Hnd}(hl:∀ G:Ctx,G.rd=none->G.n=U.pre.nid->Q0 E G H c)(hF:QkL E H fn U):QS E.P f (uFC U):=by
 refine⟨hgo,λargs nid all r w lk blks eff hH _ hv he hp=>?_⟩;simp only[uFC,KT,QAq,QCK,WO (qG 6)]at hv he
 have hz:∀ p∈J4 id all blks,lk p.1=some p.2:=by
  intro p hp;obtain⟨b,h1,h2⟩:=vk hv p hp;rw[h1,h2];rfl
 have hmem:=λx (hx:x∈Y4 (Wx U.N args (U.pre.live.map (·.2)) (J4 id all blks) U.pre.hp) (J4 id all blks) U.pre.hp)=>QA5 x hx;generalize Y4 (Wx U.N args (U.pre.live.map (·.2)) (J4 id all blks) U.pre.hp) (J4 id all blks) U.pre.hp=h at he hmem
 have hm:∀ x∈h,∃ b,lk x.1=some b/\(x.2=b∨x.2=b.ro):=by
  intro x hx;obtain⟨b,h1,h2⟩:=hmem x hx;exact⟨b,hz _ (KK h1),h2⟩
 have hmr:∀ x∈h,QN r x.1 w x.2:=by
  intro x hx;obtain⟨b,h1,h2|h2⟩:=hm x hx
  .rw[h2];exact hH.rep _ _ h1
  .rw[h2];exact(hH.rep _ _ h1).ro
 have hmf:∀ x∈h,∃ b,lk x.1=some b/\(x.2.own=true->b.own=true)/\∀ k,Qo r x.1 x.2 k↔Qo r x.1 b k:=by
  intro x hx;obtain⟨b,h1,h2|h2⟩:=hm x hx
  .exact⟨b,h1,by rw[h2];exact λh=>h,by rw[h2];exact λ_=>Iff.rfl⟩
  .exact⟨b,h1,by rw[h2];intro ho;rw[Blk.own_ro b ho]at ho;exact ho,by rw[h2];exact λ_=>QWR⟩
 unfold jz at he;split at he<;>(try (cases he;done))
 rename_i ps hsub hck;simp only[qbA]at hck;obtain⟨hlen,hNn,hlow⟩:=hck;have hlen:args.length=U.pre.len:=qnb hlen;have hNn:U.N<=nid:=Nat.le_of_ble_eq_true hNn;simp only[qsI]at he;subst he;rw[hU.valS nid hNn,hU.postS nid hNn];have hp:Ka ps:=KG.1 hp;simp only;let ch:Nat->Prop:=λk=>∃ i b,look h i=some b/\b.own=true/\Qo r i b k;let a0:Act:={ tmps:=(AV.denL r args).toArray,defers:=[] }
 have hInv:Inv ⟨w,ch,U.N,r,none⟩ args.length r (QJ args) (look h) a0 w:=by
  refine⟨by simp[a0,Kf],Dfr.none rfl,λt=>QPy args t,λid b hb=>hmr _ (KK hb),λid b hb=>XQ hb,λid id' b b' hb hb' hne ho k hk hk'=>?_,λ_ _=>rfl,Fr.refl _ _,λid b hb ho k hk=>.inl ⟨_,_,hb,ho,hk⟩⟩
  obtain⟨c1,g1,g2,g3⟩:=hmf _ (KK hb);obtain⟨c2,l1,_,l3⟩:=hmf _ (KK hb');refine hH.sep _ _ _ _ g1 l1 hne (g2 ho) ?_ k ((g3 k).1 hk) ((l3 k).1 hk');obtain⟨c3,m1,m2⟩:=hm _ (KK hb');rw[l1]at m1;simp only[qsI]at m1;subst m1;have:=XQ hb';rcases m2 with m2|m2
  .simp only at m2;rw[<-m2];exact this
  .simp only at m2;rw[m2]at this;revert this;cases c2<;>exact λh=>h
 have hso:Jg U.N (List.range U.pre.len) (⟨args,h,nid⟩:St).tm.length ((List.range U.pre.len).map (QJ (⟨args,h,nid⟩:St).tm)) (⟨args,h,nid⟩:St).hp U.pre:=by
  refine⟨hU.slots,hlen,ps,?_,hp⟩;rw[<-hlen];show QF U.N ((List.range args.length).map (QJ args)) h U.pre=some ps;rw[QYC];exact hsub
 obtain⟨g,⟨r2,hI2⟩,hS2⟩:=Inv.subW (st:=⟨args,h,nid⟩) hInv hso (qlr _);have hH2:KM ⟨w,ch,U.N,r,none⟩ U.pre.nid r2 U.pre.hp w:=Rep.hinv hI2 hS2;have hr2:∀ i,i<U.N->r2 i=r i:=hH2.ext;have hI:KM ⟨w,ch,U.pre.nid,r2,none⟩ U.pre.nid r2 U.pre.hp w:=⟨hH2.rep,hH2.sep,λ_ _=>rfl,hH2.fr,hH2.own,hH2.out,hH2.blk⟩
 have hlk0:∀ t,lkS U.pre.live t=(U.pre.live.map (·.2))[t]? := by
  intro t;have:=QhX (s:=0) (by rw[hU.slots,List.range_eq_range']) t
  rwa [Nat.zero_add]at this
 have hll:(U.pre.live.map (·.2)).length=U.pre.len:=by
  have:=congrArg List.length hU.slots;simpa using this
 have hget:∀ t v,(U.pre.live.map (·.2))[t]? = some v->QJ (U.pre.inst g).tm t=v:=by
  intro t v hv;have hlt:t<U.pre.len:=by rw[<-hll];exact(List.getElem?_eq_some_iff.1 hv).1
  have:=QCR g U.pre.live U.pre.len 0 t;rw[Nat.zero_add,if_pos hlt,hlk0 t,hv]at this;exact this
 have hden:AV.denL r2 (U.pre.live.map (·.2))=AV.denL r args:=by
  refine QLm (by rw[hll,hlen]) λt v hv=>?_
  have h1:=hI2.tm t;rw[hget t v hv]at h1;rw[<-h1];exact(QPy args t).symm
 have hargs:AV.allL (·<U.pre.nid) (U.pre.live.map (·.2))=true:=by
  refine QRA ?_;intro v hv;obtain⟨t,ht⟩:=List.getElem?_of_mem hv;have:=hS2.tm t
  rwa [hget t v ht]at this
 have hd0:=hF.run.den;unfold VK at hd0;have:=HL hE hf hb (hl ⟨w,ch,U.pre.nid,r2,none⟩ rfl rfl) rfl hI hargs hd0;rw[hden]at this;refine this.mono ?_;rintro e w' ⟨v,h',nid',r1,hT,rfl,hle,hI',hvn⟩;unfold Z4 at hT;split at hT
 rotate_left
 .exact hT.elim
 rename_i hnd;have hT:Jg U.pre.nid [0] 1 [v] (K1 (Gq U.N U.po) [v] h') (KX U):=hT;have hlkn:∀ id b,look (K1 (Gq U.N U.po) [v] h') id=some b->look h' id=some b:=λid b hb=>WV hb
 have hrep:Rep ⟨w,ch,U.pre.nid,r2,none⟩ nid' ⟨[v],h',nid'⟩ { tmps := #[v.den r1],defers:=[] } w':=by
  refine hI'.toRep (tm:=[v]) (a:={ tmps := #[v.den r1],defers:=[] }) rfl (λt=>?_) (λt=>?_) (Dfr.none rfl)
  .cases t with
   | zero=>rfl
   | succ t=>rfl
  .cases t with
   | zero=>exact hvn
   | succ t=>rfl
 generalize hJ:KX U=J at hT;generalize K1 (Gq U.N U.po) [v] h'=hn at hT hlkn;have hnear:Rep ⟨w,ch,U.pre.nid,r2,none⟩ nid' ⟨[v],hn,nid'⟩ { tmps := #[v.den r1],defers:=[] } w':=Rep.near (h':=hn) hlkn hnd hrep;have hso2:Jg U.pre.nid [0] (⟨[v],hn,nid'⟩:St).tm.length ([0].map (QJ (⟨[v],hn,nid'⟩:St).tm)) (⟨[v],hn,nid'⟩:St).hp J:=hT;obtain⟨g3,⟨r3,hI3⟩,hS3⟩:=Rep.subW hnear hso2 (qlr _);subst hJ;have hval:v.den r1=U.va.den r3:=hI3.tm 0;have hr3:∀ i,i<U.N->r3 i=r i:=λi hi=>(hI3.ext i (Nat.lt_of_lt_of_le hi hU.le)).trans (hr2 i hi)
 let rr:Nat->Loc:=λj=>if inR nid j=true then r3 (j-nid+U.pre.nid)else r j
 have lowN:∀ i,i<U.N->Jt U.N U.pre.nid nid i=i/\inR nid i=false:=by
  intro i hi;refine⟨?_,by simp[inR];omega⟩
  unfold Jt;have:Nat.blt i U.N=true:=Nat.ble_eq_true_of_le hi;rw[this]
 have newN:∀ i,¬ i<U.N->Jt U.N U.pre.nid nid i=i-U.pre.nid+nid:=by
  intro i hi;unfold Jt;have:Nat.blt i U.N=false:=(Bool.not_eq_true _).mp λh=>hi (Nat.le_of_ble_eq_true h);rw[this]
 have okN:∀ i,okU U.N U.pre.nid i=true->i<U.N∨(¬ i<U.N/\U.pre.nid<=i/\i<U.pre.nid+8):=by
  intro i hi;unfold okU at hi;rw[qbO,qbA]at hi;rcases hi with hi|⟨h1,h2⟩
  .exact .inl (Nat.le_of_ble_eq_true hi)
  .have h1:=Nat.le_of_ble_eq_true h1;have h2:i<U.pre.nid+8:=Nat.le_of_ble_eq_true h2;have:=hU.le;exact .inr ⟨by omega,h1,h2⟩
 have inN:∀ i,¬ i<U.N->U.pre.nid<=i->i<U.pre.nid+8->inR nid (Jt U.N U.pre.nid nid i)=true:=by
  intro i h1 h2 h3;rw[newN i h1];simp[inR];omega
 have key:∀ i,okU U.N U.pre.nid i=true->rr (Jt U.N U.pre.nid nid i)=r3 i:=by
  intro i hi;rcases okN i hi with h1|⟨h1,h2,h3⟩
  .obtain⟨e1,e2⟩:=lowN i h1;show(if _ then _ else _)=_
   rw[e1,if_neg (by rw[e2];simp),hr3 i h1]
  .show(if _ then _ else _)=_
   rw[if_pos (inN i h1 h2 h3),newN i h1];congr 1;omega
 have hlook:∀ q∈U.po,look ((KX U).inst g3).hp q.1=some q.2:=λq hq=>QKt hU.dist q hq;have hft:∀ q∈U.po,∀ k,Qo rr (Jt U.N U.pre.nid nid q.1) (q.2.mapId (Jt U.N U.pre.nid nid)) k↔Qo r3 q.1 q.2 k:=λq hq k=>QJp (key q.1 (hU.post q hq).1)
 have hlowB:∀ q∈U.po,q.1<U.N->∃ b,look h q.1=some b/\QEP b=true/\b.own=true:=by
  intro q hq hN;have:=List.all_eq_true.1 hlow q hq;have hb:Nat.blt q.1 U.N=true:=Nat.ble_eq_true_of_le hN;rw[hb]at this;simp only at this;split at this
  .rename_i b hb;rw[qbA]at this;exact⟨b,hb,this.1,this.2⟩
  .cases this
 have memU:∀ p∈ZJ U.N U.po h++U.po.map (λq=>(Jt U.N U.pre.nid nid q.1,q.2.mapId (Jt U.N U.pre.nid nid))),p∈ZJ U.N U.po h∨∃ q∈U.po,p=(Jt U.N U.pre.nid nid q.1,q.2.mapId (Jt U.N U.pre.nid nid)):=by
  intro p hp;rcases List.mem_append.1 hp with hp|hp
  .exact .inl hp
  .obtain⟨q,hq,rfl⟩:=List.mem_map.1 hp;exact .inr ⟨q,hq,rfl⟩
 have inlk:∀ i b,look h i=some b->inR nid i=false:=by
  intro i b hb;obtain⟨b0,h1,_⟩:=hm _ (KK hb);exact hH.out _ _ h1
 have chU:∀ k,ch k->∃ i b,look h i=some b/\Qo r i b k/\((i,Blk.gone)∈ZJ U.N U.po h∨∃ q∈U.po,q.1<U.N/\q.1=i):=by
  rintro k ⟨i,b,hb,ho,hk⟩;exact⟨i,b,hb,hk,QTz (KK hb) ho⟩
 refine⟨rr,?_,?_⟩
 .rw[hval,W3 key _ hU.val]
 .refine⟨λid hid=>?_,λp hp=>?_,⟨hI'.fr.os,hI'.fr.tape,hI'.fr.output,hI'.fr.size,hI'.fr.drawn,λk hk hn=>hI'.fr.block k hk λhch=>hn ?_⟩,λp hp hin hlv k hk=>?_,λp hp hin hlv k hk=>?_,λp hp q hq hin hin' hne ho hlv k hk hk'=>?_⟩
  .show(if _ then _ else _)=_
   rw[if_neg (by rw[hid];simp)]
  .rcases memU p hp with hg|⟨q,hq,rfl⟩
   .rw[(WD p hg).1];trivial
   .obtain⟨h1,_,h3,_⟩:=hU.post q hq;exact Blk.mapId_rep key (key q.1 h1) h3 (hI3.rep _ _ (hlook q hq))
  .obtain⟨i,b,hb,hk,hg|⟨q,hq,hqN,rfl⟩⟩:=chU k hch
   .obtain⟨b0,l1,_,l3⟩:=hmf _ (KK hb);exact⟨_,List.mem_append_left _ hg,inlk i b hb,b0,l1,(l3 k).1 hk⟩
   .obtain⟨b0,l1,_,l3⟩:=hmf _ (KK hb);refine⟨_,List.mem_append_right _ (List.mem_map_of_mem hq),?_,b0,?_,?_⟩
    .simp only;rw[(lowN q.1 hqN).1];exact inlk _ b hb
    .simp only;rw[(lowN q.1 hqN).1];exact l1
    .simp only;rw[(lowN q.1 hqN).1];exact(l3 k).1 hk
  .
   rcases memU p hp with hg|⟨q,hq,rfl⟩
   .rw[(WD p hg).1]at hlv;cases hlv
   .obtain⟨h1,h2,_,h4⟩:=hU.post q hq
    have hqn:¬ q.1<U.N:=λhc=>by
     obtain⟨e1,e2⟩:=lowN q.1 hc;simp only at hin;rw[e1,e2]at hin;cases hin
    have hk3:=(hft q hq k).1 hk;rcases hI3.own _ _ (hlook q hq) h2 k hk3 with hch|hnew
    .obtain⟨i,b,hb,hkb,hg|⟨q0,hq0,hqN,rfl⟩⟩:=chU k hch
     .obtain⟨b0,l1,_,l3⟩:=hmf _ (KK hb);refine .inr (.inl ⟨_,List.mem_append_left _ hg,inlk i b hb,λz hz hzi=>?_,b0,l1,(l3 k).1 hkb⟩);rcases memU z hz with hzg|⟨q1,hq1,rfl⟩
      .rw[(WD z hzg).1];rfl
      .exfalso;simp only at hzi;rcases okN q1.1 (hU.post q1 hq1).1 with c1|⟨c1,c2,c3⟩
       .rw[(lowN q1.1 c1).1]at hzi;exact(WD _ hg).2.2 q1 hq1 c1 hzi
       .have:=inN q1.1 c1 c2 c3;rw[hzi,inlk i b hb]at this;cases this
     .exfalso;obtain⟨b',g1,g2,g3⟩:=hlowB q0 hq0 hqN;rw[hb]at g1;simp only[qsI]at g1;subst g1;have hkk:=(QE6 g2).1 hkb;have hq0f:Qo r3 q0.1 q0.2 k:=(QE6 ((hU.post q0 hq0).2.2.2 hqN)).2 (by rw[hr3 q0.1 hqN];exact hkk)
      exact hI3.sep _ _ _ _ (hlook q hq) (hlook q0 hq0) (by omega) h2 k hk3 hq0f
    .exact .inl hnew
  .
   rcases memU p hp with hg|⟨q,hq,rfl⟩
   .rw[(WD p hg).1]at hlv;cases hlv
   .have hqN:q.1<U.N:=by
     rcases okN q.1 (hU.post q hq).1 with c1|⟨c1,c2,c3⟩
     .exact c1
     .have:=inN q.1 c1 c2 c3;simp only at hin;rw[hin]at this;cases this
    obtain⟨b,g1,g2,g3⟩:=hlowB q hq hqN;obtain⟨b0,l1,_,l3⟩:=hmf _ (KK g1);have hk3:=(hft q hq k).1 hk;have hk4:=(QE6 ((hU.post q hq).2.2.2 hqN)).1 hk3;rw[hr3 q.1 hqN]at hk4;refine⟨b0,?_,?_⟩
    .simp only;rw[(lowN q.1 hqN).1];exact l1
    .simp only;rw[(lowN q.1 hqN).1];exact(l3 k).1 ((QE6 g2).2 hk4)
  .rcases memU p hp with hg|⟨q1,hq1,rfl⟩
   .rw[(WD p hg).1]at ho;cases ho
   .rcases memU q hq with hg|⟨q2,hq2,rfl⟩
    .rw[(WD q hg).1]at hlv;cases hlv
    .refine hI3.sep _ _ _ _ (hlook q1 hq1) (hlook q2 hq2) (λe=>?_) (hU.post q1 hq1).2.1 k ((hft q1 hq1 k).1 hk) ((hft q2 hq2 k).1 hk');simp only[e]at hne;exact hne rfl
section
variable {σ:Type} (I:σ->JSt) (pre:σ->Prop) (μ:σ->Nat) (R:σ->Ex->JSt->Prop) (n0:Nat) (ls:Ex->List Nat) (ids:List Nat)
structure K6 (E:σ->Env) (H:σ->Hnd) (body:Code):Prop where
 round:∀ s g,pre s->Zn (q9 (QHB I pre μ R n0 ls s) (QHj R n0 ls s)) (exec (E s) (H s) body ((I s).inst g) (Q5 ids ls))
variable {I pre μ R n0 ls ids}
theorem QPw{E:σ->Env}{P:Program}(hP:∀ s,(E s).P=P)(hE:∀ s,(E s).Sound){H:σ->Hnd}{G:Ctx}(hG:G.n<=n0){body:Code}(hH:∀ s,pre s->Q0 (E s) G (H s) body)(hn:∀ s,pre s->n0<=(I s).nid)(hR:∀ s e J,R s e J->n0<=J.nid)(hr:K6 I pre μ R n0 ls ids E H body){Q:Exit->Act->World->Prop}:∀(n:Nat) (s:σ) (g:Nat->Value) (a:Act) (w:World),μ s<n->pre s->Rep G (I s).nid ((I s).inst g) a w ->
  (∀ e J g a' w',R s e J->n0<=J.nid->Rep G J.nid (J.inst g) a' w'->Q e.to a' w')->Code.roundsIn (FW G.rd) 0 P body Q n a w
 | 0,s,g,a,w,hm,_,_,_=>by omega
 | n+1,s,g,a,w,hm,hp,hrep,hQ=>by
  rw[roundsIn_succ];have hh:=hH s hp;have h0:=(hr.round s g hp).den;generalize H s=Hs at hh h0;have hEs:=hE s;have hPs:=hP s;generalize E s=Es at hh h0 hEs hPs;subst hPs;have key:J5 Es G body (exec Es Hs body):=jE hEs hh.call hh.yield body hh.loop;refine key ((I s).inst g) (Q5 ids ls) _ _ a w (Nat.le_trans hG (hn s hp)) h0 hrep ?_;intro e st' a' w' hn' hden hrep';obtain⟨hd,hden⟩:=QOl hden;have hnear:=Rep.near (h':=K1 ids ((ls e).map (QJ st'.tm)) st'.hp) (λid b hb=>WV hb) hd hrep';rcases hden with ⟨rfl,s',h1,h2,h3,h4⟩|⟨hne,J,h1,h2⟩
  .obtain⟨g',hr'⟩:=Rep.subW hnear h4 hG;exact QPw hP hE hG hH hn hR hr n s' g' a' w' (by omega) h1 hr' (λe J g a' w' hR=>hQ e J g a' w' (h3 e J hR))
  .obtain⟨g',hr'⟩:=Rep.subW hnear h2 hG;have:=hQ e J g' a' w' h1 (hR _ _ _ h1) hr';cases e with
   | normal=>exact absurd rfl hne
   | exit id=>exact this
   | ret=>exact this
end
theorem JG{σ:Type}{I:σ->JSt}{pre:σ->Prop}{μ:σ->Nat}{R:σ->Ex->JSt->Prop}{n0:Nat}{ls:Ex->List Nat}{ids ids':List Nat}{E0:Env}{E:σ->Env}(hP:∀ s,(E s).P=E0.P)(hE:∀ s,(E s).Sound){H:σ->Hnd}{G:Ctx}(hG:G.n<=n0){body:Code}(hH:∀ s,pre s->Q0 (E s) G (H s) body)(hn:∀ s,pre s->n0<=(I s).nid)(hR:∀ s e J,R s e J->n0<=J.nid)(hr:K6 I pre μ R n0 ls ids E H body){s0:σ}(hp:pre s0){X:List (Prop×Ex×JSt)}(hX:∀ e J,R s0 e J->∃ x∈X,x.1/\x.2.1=e/\x.2.2=J):
  J5 E0 G (.loop body) (KF n0 ids' (I s0) X):=by
 intro st K T Q a w hn' h hrep hQ;unfold KF at h;split at h
 rotate_left
 .exact h.elim
 rename_i hl;split at h
 rotate_left
 .exact h.elim
 rename_i ps hps;simp only[qbA]at hl;have hlen:=qnb hl.1;obtain⟨ha,hx⟩:=QBQ h;have hnear:=Rep.near (h':=K1 ids' (((I s0).live.map (·.1)).map (QJ st.tm)) st.hp) (λid b hb=>WV hb) hl.2 hrep;have hso:Jg n0 ((I s0).live.map (·.1)) st.tm.length (((I s0).live.map (·.1)).map (QJ st.tm)) (K1 ids' (((I s0).live.map (·.1)).map (QJ st.tm)) st.hp) (I s0):={ slots:=rfl,len:=hlen,eqs:=⟨ps,hps,ha⟩ };obtain⟨g,hr'⟩:=Rep.subW hnear hso hG;refine wpIn_loop_rounds (μ s0+1) (QPw hP hE hG hH hn hR hr _ s0 g a w (Nat.lt_succ_self _) hp hr' ?_);intro e J g' a' w' hRe hnJ hrJ
 obtain⟨x,h1,h2,h3,h4⟩:=hX e J hRe;have:=QBJ hx x h1 h2 g';rw[h3,h4]at this;exact hQ e (J.inst g') a' w' (Nat.le_trans hG hnJ) this hrJ
