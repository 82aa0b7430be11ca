/- - -/
import Derived.Test.YtekbmehgcofnkaaGreatVq
import Derived.OpenShut
import Derived.Deep.Slices
namespace Go.Proofs.YtekbmehgcofnkaaGreat
open Go Go.SX Go.RowKit Go.ChangeShapes Go.WideShapes
variable {w:World}{P:Program}{t:TypeId}{v:Value}
theorem Qc9{w':World}(h:Fr w w' (λ_=>False)){p:MemPlace}(hp:p.block<w.heap.size):w.sameAt w' p:=by
 cases p with
 | cell b off=>exact QJT (h.block b hp (λh=>h))
 | map b=>exact h.block b hp (λh=>h)
theorem QD9{H:Type}{enc:TypeId×Value->H}{P:Program}{W W':World}{sp:Nat->Bool}(hl:laidOutB P=true)(hg:Fr W W' (λ_=>False)):∀(ts:List TypeId) (vs:List Value) (ds:List (DataW H)) (ps:List MemPlace),
  (ts.all λt=>P.readableRec t&&decide (t<P.types.size))=true->DataW.TrodAll enc P W 0 (λ_=>true) true ts vs ds ps->(∀ p∈ps,sp p.block=true)->DataW.TrodAll enc P W' 0 sp true ts vs ds ps
 | [],[],[],_,_,h,_=>h
 | t::ts,v::vs,d::ds,ps,hr,h,hs=>by
  simp only[List.all_cons,qbA,qdE]at hr;obtain⟨p,q,⟨fuel,h1⟩,h2,h3⟩:=h;subst h3;refine⟨p,q,⟨fuel,DataW.trod_stays (kids_book hl hr.1.1) (book_sized hr.1.1) (λh=>by cases h) ⟨hr.1.2,book_self t⟩ h1 (λx hx=>Qc9 hg (DataW.trod_lt _ _ _ _ h1 x hx)) (λx hx=>hs x (by simp[hx]))⟩,?_,rfl⟩
  exact QD9 hl hg ts vs ds q hr.2 h2 (λx hx=>hs x (by simp[hx]))
 | [],[],_::_,_,_,h,_=>h.elim
 | [],_::_,_,_,_,h,_=>h.elim
 | _::_,[],_,_,_,h,_=>h.elim
 | _::_,_::_,[],_,_,h,_=>h.elim
theorem QCs{H:Type}{enc:TypeId×Value->H}{b:Nat}{sp:Nat->Bool}{hd:Bool}{ts:List TypeId}{vs:List Value}{d:DataW H}{ds:List (DataW H)}{ps:List MemPlace}(h:DataW.TrodAll enc P w b sp hd (t::ts) (v::vs) (d::ds) ps):
  ∃ p,DataW.Trod enc P w b sp hd t v d p:=by
 obtain⟨p,q,h1,_,_⟩:=h;exact⟨p,h1⟩
theorem QYB{r:Reach}{base:Nat}{k:IntKind}(ht:P.underlying t=some (.int k))(h:Value.okWide P w r base t v):∃ n,v = .int k n/\k.min<=n/\n<=k.max:=by
 simp only[Value.okWide,ht,Cell.okWide]at h;cases v<;>simp_all [Cell.ok,IntKind.has]
def QC1(P:Program)(K:TypeId->Option (List CK)):List Field->Nat->Option (List CK)
 | [],_=>some []
 | f::fs,o=>match K f.type,QC1 P K fs (o+P.cellsOf f.type)with
  | some a,some b=>(match decide (f.offset=o)&&decide (P.cellsOf f.type=a.length)with
   | true=>some (a++b)
   | false=>none)
  | _,_=>none
def QGD(ks:List CK):Nat->List CK
 | 0=>[]
 | m+1=>ks++QGD ks m
def QAA(P:Program):Nat->TypeId->Option (List CK)
 | 0,_=>none
 | n+1,t=>match P.underlying t with
  | some (.int k)=>some [.int k]
  | some .bool=>some [.bool]
  | some (.struct fs)=>(match QC1 P (QAA P n) fs.toList 0 with
   | some ks=>(match decide (P.cellsOf t=ks.length)with
    | true=>some ks
    | false=>none)
   | none=>none)
  | some (.array m e)=>(match QAA P n e with
   | some ks=>(match decide (P.cellsOf e=ks.length)&&decide (P.cellsOf t=m*ks.length)with
    | true=>some (QGD ks m)
    | false=>none)
   | none=>none)
  | _=>none
def Wg(ks:List CK)(cs:List Value):Prop:=cs.length=ks.length/\∀(j:Nat) (k:CK),ks[j]? = some k->∃ z,∀ r,cs[j]? = some ((mkC k z).den r)
theorem QRQ{k:CK}(h:∃ z,∀ r,v=(mkC k z).den r):Wg [k] [v]:=by
 refine⟨rfl,λj k' hj=>?_⟩;cases j with
 | zero=>
  simp only[List.getElem?_cons_zero,qsI]at hj;subst hj;obtain⟨z,hz⟩:=h;exact⟨z,λr=>by rw[List.getElem?_cons_zero,hz r]⟩
 | succ j=>simp at hj
theorem QMk{a b:List CK}{cs:List Value}(h1:Wg a (cs.take a.length))(h2:Wg b (cs.drop a.length)):Wg (a++b) cs:=by
 have l1:=h1.1;have l2:=h2.1;rw[List.length_take]at l1;rw[List.length_drop]at l2;refine⟨?_,λj k hj=>?_⟩
 .rw[List.length_append];rcases Nat.lt_or_ge cs.length a.length with h|h<;>omega
 .by_cases hja:j<a.length
  .rw[List.getElem?_append_left hja]at hj;obtain⟨z,hz⟩:=h1.2 j k hj;refine⟨z,λr=>?_⟩;rw[<-hz r,List.getElem?_take,if_pos hja]
  .rw[List.getElem?_append_right (by omega)]at hj
   obtain⟨z,hz⟩:=h2.2 _ k hj;refine⟨z,λr=>?_⟩;rw[<-hz r,List.getElem?_drop];congr 1;omega
theorem QVj{ks:List CK}:∀(m:Nat) (cs:List Value),cs.length=m*ks.length->(∀ i,i<m->Wg ks ((cs.drop (i*ks.length)).take ks.length))->Wg (QGD ks m) cs
 | 0,cs,hl,_=>by
  have:cs=[]:=List.length_eq_zero_iff.1 (by rw[hl,Nat.zero_mul])
  subst this;exact⟨rfl,λj k hj=>by simp[QGD]at hj⟩
 | m+1,cs,hl,h=>by
  have h0:=h 0 (Nat.succ_pos m);rw[Nat.zero_mul,List.drop_zero]at h0;refine QMk h0 (QVj m (cs.drop ks.length) ?_ λi hi=>?_)
  .rw[List.length_drop,hl,Nat.succ_mul];omega
  .have:=h (i+1) (by omega)
   rw[List.drop_drop,show ks.length+i*ks.length=(i+1)*ks.length by rw[Nat.succ_mul];omega]
   exact this
section
variable {H:Type} {enc:TypeId×Value->H} {P:Program} {w:World} {base:Nat} {sp:Nat->Bool} {hd:Bool}
theorem QRt{K:TypeId->Option (List CK)}{fuel:Nat}(hK:∀ t ks cs x,K t=some ks->DataW.trod enc P w base sp hd fuel t cs=some x->Wg ks cs){cs:List Value}:∀(fs:List Field) (o:Nat) (ks:List CK),QC1 P K fs o=some ks->cs.length=o+ks.length ->
  (∀ f∈fs,∃ x,DataW.trod enc P w base sp hd fuel f.type ((cs.drop f.offset).take (P.cellsOf f.type))=some x)->Wg ks (cs.drop o)
 | [],o,ks,h,hl,_=>by
  simp only[QC1,qsI]at h;subst h;refine⟨by rw[List.length_drop,hl];simp,λj k hj=>by simp at hj⟩
 | f::fs,o,ks,h,hl,hx=>by
  simp only[QC1]at h;split at h<;>(try (cases h;done))
  rename_i a b ha hb;split at h<;>(try (cases h;done))
  rename_i hc;simp only[qbA,qdE]at hc;obtain⟨h1,h2⟩:=hc;simp only[qsI]at h;subst h;rw[List.length_append]at hl;obtain⟨x,hx1⟩:=hx f (by simp)
  have k1:=hK _ _ _ _ ha hx1;have k2:=QRt hK fs _ b hb (by omega) (λg hg=>hx g (by simp[hg]))
  rw[h1,h2]at k1;refine QMk k1 ?_;rw[List.drop_drop,<-h2];exact k2
theorem QHv:∀(n:Nat) (t:TypeId) (ks:List CK) (fuel:Nat) (cs:List Value) (x:DataW H×List MemPlace),QAA P n t=some ks->DataW.trod enc P w base sp hd fuel t cs=some x->Wg ks cs
 | 0,_,_,_,_,_,h,_=>by cases h
 | n+1,t,ks,fuel,cs,x,h,ht=>by
  simp only[QAA]at h;split at h<;>(try (cases h;done))
  .rename_i k hu;simp only[qsI]at h;subst h;obtain⟨z,rfl,_,_⟩:=DataW.trod_int hu ht;exact QRQ ⟨z,λr=>rfl⟩
  .rename_i hu;simp only[qsI]at h;subst h;obtain⟨b,rfl,_⟩:=DataW.trod_bool hu ht;exact QRQ ⟨cond b 1 0,λr=>by cases b<;>rfl⟩
  .rename_i fs hu;split at h<;>(try (cases h;done))
   rename_i ks' hk;split at h<;>(try (cases h;done))
   rename_i hz;simp only[qsI]at h;subst h;obtain⟨xs,m,rfl,_,hlen,hxl,hf⟩:=DataW.trod_struct hu ht
   have:=QRt (K:=QAA P n) (fuel:=m) (λt ks cs x h1 h2=>QHv n t ks m cs x h1 h2) (cs:=cs) fs.toList 0 ks' hk (by have:=qdt hz;omega) λf hm=>by
    obtain⟨i,hi⟩:=List.getElem?_of_mem hm;rw[Array.getElem?_toList]at hi
    have hlt:i<xs.length:=by
     have:=(Array.getElem?_eq_some_iff.1 hi).1;omega
    exact⟨xs[i],by rw[hf i f hi,List.getElem?_eq_getElem hlt]⟩
   simpa using this
  .rename_i m e hu;split at h<;>(try (cases h;done))
   rename_i ks' hk;split at h<;>(try (cases h;done))
   rename_i hz;simp only[qbA,qdE]at hz;simp only[qsI]at h;subst h;obtain⟨xs,f,rfl,_,hlen,hxl,hf⟩:=DataW.trod_array hu ht;refine QVj m cs (by rw[hlen,hz.2]) λi hi=>?_
   have:=hf i hi;rw[hz.1,List.getElem?_eq_getElem (by omega)]at this
   exact QHv n e ks' f _ _ hk this
end
theorem Qdj{ks:List CK}{f:Nat->Int}:∀(j i:Nat) {k:CK},ks[j]? = some k->(cellsOf ks i f)[j]? = some (mkC k (f (i+j))):=by
 induction ks with
 | nil=>intro j i k h;simp at h
 | cons a ks ih=>
  intro j i k h;cases j with
  | zero=>
   simp only[List.getElem?_cons_zero,qsI]at h;subst h;simp only[cellsOf,List.getElem?_cons_zero,Nat.add_zero]
  | succ j=>
   simp only[cellsOf,List.getElem?_cons_succ]at h ⊢;rw[ih j (i+1) h];congr 3;omega
theorem QI7{H:Type}{enc:TypeId×Value->H}{base:Nat}{e:TypeId}{d:DataW H}{ps:List MemPlace}{α:Type}[QA α](ht:P.underlying t=some (.slice e)){m:Nat}(hk:QAA P m e=some (QA.ks α))(hc:P.cellsOf e=(QA.ks α).length)(h:Value.okWide P w .any base t v)(hd:DataW.Trod enc P w 0 (λ_=>true) true t v d ps):
  ∃ (x:Rw α) (l:Go.SX.Loc),∀(k:Nat) (r:Nat->Go.SX.Loc),r k=l->(Qg.val k x).den r=v/\∀ q∈Qg.blk k x,QN r q.1 w q.2:=by
 obtain⟨oa,len,cap,rfl⟩:=okWide_slice ht h;obtain⟨fuel,hd⟩:=hd;have hcs:(Value.slice oa len cap).cells.toList=[Value.slice oa len cap]:=rfl;rw[hcs]at hd;rcases Go.Deep.open_slice ht hd with ⟨e1,_⟩|⟨a,len',cap',mm,n,D,Pl,e1,_,hlc,_,hm,_,hx⟩
 .simp only[List.cons.injEq,Value.slice.injEq,and_true]at e1;obtain⟨rfl,rfl,rfl⟩:=e1;refine⟨⟨0,λ_=>QA.dec λ_=>0⟩,Loc.none (QA.ks α).length,λk r hr=>⟨?_,λq hq=>?_⟩⟩
  .simp only[Qg.val,AV.den,hr,Loc.base,Loc.room,Cap.den,Loc.none]
  .simp only[Qg.blk,List.mem_singleton]at hq;subst hq;simp only[QN];rw[hr];exact⟨rfl,λk hk=>by simp[Loc.none]at hk,λ_=>rfl,λi hi=>absurd hi (Nat.not_lt_zero i)⟩
 .simp only[List.cons.injEq,Value.slice.injEq,and_true]at e1;obtain⟨rfl,rfl,rfl⟩:=e1
  have hok:w.has P .any base a e cap:=by
   simp only[Value.okWide,ht,Cell.okWide,Cell.ok]at h;exact h.2.2
  obtain⟨_,hspot,row,cells,hsh,_⟩:=hok
  have hlt:a.block<w.heap.size:=by
   rcases Nat.lt_or_ge a.block w.heap.size with g|g
   .exact g
   .exfalso;simp[World.shape?,Array.getElem?_eq_none g]at hsh
  have hV:∀ i,i<len->∃ f:Nat->Int,∀ j k,(QA.ks α)[j]? = some k->∀ r,w.cell? ⟨a.block,a.off+i*(QA.ks α).length+j,none⟩=some ((mkC k (f j)).den r):=by
   intro i hi;obtain⟨cs,h1,h2⟩:=hx i (by rw[hm];simp;omega)
   have h3:=QHv m e _ _ _ _ hk h2;obtain⟨_,hl,hcell⟩:=World.cells?_some h1
   have key:∀ j:Nat,∃ z:Int,∀ k,(QA.ks α)[j]? = some k->∀ r:Nat->Go.SX.Loc,cs[j]? = some ((mkC k z).den r):=by
    intro j;cases hj:(QA.ks α)[j]? with
    | none=>exact⟨0,λk hk=>by simp at hk⟩
    | some k=>
     obtain⟨z,hz⟩:=h3.2 j k hj;exact⟨z,λk' hk' r=>by simp only[qsI]at hk';subst hk';exact hz r⟩
   refine⟨λj=>Classical.choose (key j),λj k hj r=>?_⟩;have hjl:j<P.cellsOf e:=by rw[hc];exact(List.getElem?_eq_some_iff.1 hj).1
   have:=hcell j hjl;rw[Classical.choose_spec (key j) k hj r]at this;have ea:a=⟨a.block,a.off,none⟩:=by cases a;simp only at hspot;subst hspot;rfl
   rw[ea,Ve,Ve,hc]at this;exact this
  let f:Nat->Nat->Int:=λi=>if hi:i<len then Classical.choose (hV i hi)else λ_=>0
  have hf:∀ i,i<len->∀ j k,(QA.ks α)[j]? = some k->∀ r,w.cell? ⟨a.block,a.off+i*(QA.ks α).length+j,none⟩=some ((mkC k (f i j)).den r):=by
   intro i hi;have:f i=Classical.choose (hV i hi):=by simp only[f,hi,dif_pos]
   rw[this];exact Classical.choose_spec (hV i hi)
  refine⟨⟨len,λi=>QA.dec (f i)⟩,⟨a.block,a.off,(QA.ks α).length,cap,false,none,λk=>k=a.block⟩,λk r hr=>⟨?_,λq hq=>?_⟩⟩
  .simp only[Qg.val,AV.den,hr,Loc.base,Loc.room,Cap.den];have ea:a=⟨a.block,a.off,none⟩:=by cases a;simp only at hspot;subst hspot;rfl
   simp;exact ea.symm
  .simp only[Qg.blk,List.mem_singleton]at hq;subst hq;simp only[QN];rw[hr];refine⟨rfl,λk hk=>by rw[hk];exact hlt,?_⟩
   refine QB6 (r:=r) (λhn=>by cases hn) (λi hi=>rfl) λi hi j v hv=>?_
   have hv:(QY (QA.ks α) (λi=>QA.enc (QA.dec (f i))) i)[j]? = some v:=hv;simp only[QY,QA.ok]at hv
   have hjl:j<(QA.ks α).length:=by
    have:=(List.getElem?_eq_some_iff.1 hv).1
    rwa [XZ]at this
   have hk:=List.getElem?_eq_getElem hjl;rw[Qdj j 0 hk,Nat.zero_add]at hv;simp only[qsI]at hv;subst hv;exact hf i hi j _ hk r
theorem QHy{E:Env}(hE:E.Sound){f:FuncId}{fn:Func}{c:Code}(hf:E.P.funcs[f]? = some fn)(hb:fn.body=some c){α:Type}[QZ α]{N:Nat}{H:α->Hnd}{F:WF α}(hl:JL E c N F H)(hF:JH E fn N F H)(x:α)(hx:(F x).1=true){r:Nat->Go.SX.Loc}{u:Value}(hv:QGv N (QZ.vals 0 x) (QZ.blks 0 x)=true)(hr:∀ q∈QZ.blks 0 x,QN r q.1 w q.2)(hu:∀ r',((F x).2.1.mapId (·+N)).den r'=u):
  Calls E.P f (AV.denL r (QZ.vals 0 x)).toArray w λe w'=>e = .returned u/\Fr w w' (λ_=>False):=by
 obtain⟨hI,ha⟩:=Qc8 (q:=λi=>i) hv hr;obtain⟨hW,hden⟩:=hF.run x hx;have hd0:=hden.den;unfold Kg at hd0;refine(HL hE hf hb (G:=⟨w,λ_=>False,N,r,none⟩) (hl.ok x hx _ rfl rfl) (args:=QZ.vals 0 x) (hp:=QZ.blks 0 x) (nid:=N) (r:=r) (w:=w) rfl hI ha hd0).mono ?_;rintro e w' ⟨v,h',nid',r1,hT,rfl,hle,hI',hvn⟩;unfold QHT at hT;split at hT
 rotate_left
 .exact hT.elim
 rename_i hnd;have hT:Jg N [0] 1 [v] (K1 [] [v] h') (Kk N (F x).2.1 (F x).2.2):=hT;have hlkn:∀ id b,Go.SX.look (K1 [] [v] h') id=some b->Go.SX.look h' id=some b:=λid b hb=>WV hb
 have hrep:Rep ⟨w,λ_=>False,N,r,none⟩ nid' ⟨[v],h',nid'⟩ { tmps := #[v.den r1],defers:=[] } w':=by
  refine hI'.toRep (tm:=[v]) (a:={ tmps := #[v.den r1],defers:=[] }) rfl (λt=>?_) (λt=>?_) (Dfr.none rfl)
  .cases t with
   | zero=>rfl
   | succ t=>rfl
  .cases t with
   | zero=>exact hvn
   | succ t=>rfl
 generalize hJ:Kk N (F x).2.1 (F x).2.2=J at hT;generalize K1 [] [v] h'=hn at hT hlkn;have hnear:Rep ⟨w,λ_=>False,N,r,none⟩ nid' ⟨[v],hn,nid'⟩ { tmps := #[v.den r1],defers:=[] } w':=Rep.near (h':=hn) hlkn hnd hrep;have hso:Jg N [0] (⟨[v],hn,nid'⟩:St).tm.length ([0].map (QJ (⟨[v],hn,nid'⟩:St).tm)) (⟨[v],hn,nid'⟩:St).hp J:=hT;obtain⟨g,⟨r2,hI2⟩,hS2⟩:=Rep.subW hnear hso (qlr N);subst hJ;have hval:v.den r1=((F x).2.1.mapId (·+N)).den r2:=hI2.tm 0;exact⟨by rw[hval,hu],hI'.fr⟩
