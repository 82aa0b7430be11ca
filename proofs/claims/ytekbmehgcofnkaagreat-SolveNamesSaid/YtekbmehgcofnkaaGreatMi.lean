/- - -/
import Derived.Test.YtekbmehgcofnkaaGreatMh
namespace Go.SX
open Go Go.RowKit Go.Proofs.YtekbmehgcofnkaaGreat
def qC:AV->List Blk->Option Blk×List Blk
 | .slice ..,b::l=>(some b,l)
 | .slz ..,b::l=>(some b,l)
 | _,l=>(none,l)
def QCM(P:Program)(ts:List TypeId)(s x:AV)(nid:Nat)(blks:List Blk):Option Eff:=
 match qC s blks with
 | (sb,rest)=>match qC x rest with
  | (xb,[])=>match QJV P ts s x sb xb nid with
   | some e=>some e
   | none=>QHi P ts s x sb xb nid
  | _=>none
variable {look:Nat->Option Blk}{blks:List Blk}{P:Program}{nid:Nat}{eff:Eff}{r:Nat->Loc}{w:World}{ids:List Nat}{b:Blk}
theorem QKe{v:AV}{more:List Nat}(h:(idS v++more).map look=blks.map some):more.map look=(qC v blks).2.map some /\
  ∀ b,(qC v blks).1=some b->∃ id,idS v=[id]/\look id=some b:=by
 cases v<;>first
  | (exact⟨by simpa[idS,qC]using h,λb hb=>by simp[qC]at hb⟩)
  | skip
 .rename_i c id e n cp;cases blks with
  | nil=>simp[idS]at h
  | cons b l=>
   simp only[idS,List.cons_append,List.nil_append,List.map_cons,List.cons.injEq]at h;exact⟨h.2,λb' hb=>by simp only[qC,qsI]at hb;subst hb;exact⟨id,rfl,h.1⟩⟩
 .rename_i id e n cp;cases blks with
  | nil=>simp[idS]at h
  | cons b l=>
   simp only[idS,List.cons_append,List.nil_append,List.map_cons,List.cons.injEq]at h;exact⟨h.2,λb' hb=>by simp only[qC,qsI]at hb;subst hb;exact⟨id,rfl,h.1⟩⟩
def Qcs(P:Program)(ts:List TypeId):Bool:=match ts with
 | t::_=>(match P.underlying t with
  | some (.slice e)=>(match P.underlying e with
   | some (.slice _)=>true
   | _=>false)
  | _=>false)
 | []=>false
def H2(ids:List Nat)(blks:List Blk):List Nat->Option (List Blk)
 | []=>some []
 | i::l=>match QBE ids blks i,H2 ids blks l with
  | some b,some bs=>some (b::bs)
  | _,_=>none
theorem QLc{lk:Nat->Option Blk}{ids:List Nat}{blks:List Blk}(h:ids.map lk=blks.map some):∀{l:List Nat} {bs:List Blk},H2 ids blks l=some bs->l.map lk=bs.map some
 | [],bs,e=>by simp only[H2,qsI]at e;subst e;rfl
 | i::l,bs,e=>by
  simp only[H2]at e;split at e<;>(try (cases e;done))
  rename_i b bs' h1 h2;simp only[qsI]at e;subst e;simp only[List.map_cons,QG5 h h1,QLc h h2]
def QIE(P:Program)(ts:List TypeId)(s x:AV)(nid:Nat)(ids:List Nat)(blks:List Blk):Option Eff:=match (match H2 ids blks (idS s++idS x)with
  | some bl=>QCM P ts s x nid bl
  | none=>none)with
 | some e=>some e
 | none=>QGN P ts s x nid (ids,blks)
theorem QOy{ts:List TypeId}{s x:AV}(he:QCM P ts s x nid blks=some eff)(hp:eff.pre=true)(hH:HOk r w nid look)(hv:(idS s++idS x).map look=blks.map some)(ty:TypeId):
  ∃ w' r',(Builtin.append_ ts.toArray ty #[s.den r,x.den r]).run P w = .ok (eff.val.den r') w'/\Qi look r nid eff.upd w r' w':=by
 unfold QCM at he;split at he;rename_i sb rest hts;split at he<;>(try (cases he;done))
 rename_i xb htx;obtain⟨g1,g2⟩:=QKe hv;rw[hts]at g1 g2;obtain⟨g3,g4⟩:=QKe (more:=[]) (by simpa using g1)
 rw[htx]at g4;split at he
 .rename_i e0 he0;simp only[qsI]at he;subst he
  exact QUk he0 hp (r:=r) (w:=w)
   (λc id e n cp b hsx hb=>by
    obtain⟨id',hsx',hl⟩:=g2 b hb;rw[hsx]at hsx';cases hsx';exact⟨hH.rep _ _ hl,hH.out _ _ hl,hl⟩)
   (λc id e n cp b hsx hb=>by
    obtain⟨id',hsx',hl⟩:=g4 b hb;rw[hsx]at hsx';cases hsx';exact hH.rep _ _ hl)
   (λb hb=>by obtain⟨_,_,hl⟩:=g2 b hb;exact hH.scope _ _ hl)
   (λb hb=>by obtain⟨_,_,hl⟩:=g4 b hb;exact hH.scope _ _ hl) ty
 .exact QhG he hp (r:=r) (w:=w)
   (λid b hsx hb=>by
    obtain⟨id',hsx',hl⟩:=g2 b hb;rw[hsx]at hsx';cases hsx';exact⟨hH.rep _ _ hl,hH.out _ _ hl,hl⟩)
   (λid b hsx hb=>by
    obtain⟨id',hsx',hl⟩:=g4 b hb;rw[hsx]at hsx';cases hsx';exact hH.rep _ _ hl) ty
theorem QXu{ts:List TypeId}{s x:AV}(he:QIE P ts s x nid ids blks=some eff)(hp:eff.pre=true)(hH:HOk r w nid look)(hv:ids.map look=blks.map some)(ty:TypeId):
  ∃ w' r',(Builtin.append_ ts.toArray ty #[s.den r,x.den r]).run P w = .ok (eff.val.den r') w'/\Qi look r nid eff.upd w r' w':=by
 unfold QIE at he;split at he
 .rename_i e h0;simp only[qsI]at he;subst he;split at h0<;>(try (cases h0;done))
  rename_i bl hbl;exact QOy h0 hp hH (QLc hv hbl) ty
 .exact Qe6 he hp hH (λi b h=>QG5 hv h) ty
def QHb(P:Program)(t:TypeId)(e j:Nat)(nid:Nat):Blk->Option Eff
 | .frz2 false _ ks n len get=>match szT P t,Jh P t,j with
  | some 1,some false,0=>some ⟨false,decide (e<n),.slz nid 0 (len e) (.of 0),[(nid,.frz ks (len e) (get e))]⟩
  | _,_,_=>none
 | _=>none
def jO(b:Bool)(x y:W4):W4:=(x.1++y.1,λblks=>match x.2 (blks.take x.1.length),y.2 (blks.drop x.1.length)with
 | some ⟨_,p,.bool _ m,[]⟩,some ⟨_,q,.bool _ n,[]⟩=>some ⟨false,cond b p q,.bool false (cond b m n),[]⟩
 | _,_=>none)
theorem Qbg{b:Bool}{x y:W4}(hv:(jO b x y).1.map look=blks.map some)(he:(jO b x y).2 blks=some eff):
  ∃ bl e,(match b with|true=>x|false=>y).1.map look=bl.map some/\(match b with|true=>x|false=>y).2 bl=some e/\e.pre=eff.pre/\e.upd=eff.upd/\∀ r,e.val.den r=eff.val.den r:=by
 simp only[jO,List.map_append]at hv
 have h1:x.1.map look=(blks.take x.1.length).map some:=by
  have:=congrArg (List.take x.1.length) hv;simpa[List.take_append,List.map_take]using this
 have h2:y.1.map look=(blks.drop x.1.length).map some:=by
  have:=congrArg (List.drop x.1.length) hv;simpa[List.drop_append,List.map_drop]using this
 simp only[jO]at he;split at he<;>(try (cases he;done))
 rename_i e1 e2;simp only[qsI]at he;subst he;cases b with
 | true=>exact⟨_,_,h1,e1,rfl,rfl,λr=>rfl⟩
 | false=>exact⟨_,_,h2,e2,rfl,rfl,λr=>rfl⟩
def QCi:Blk->Nat
 | .rowz _ _ _ n _=>n
 | .frz _ n _=>n
 | .frz2 _ _ _ n _ _=>n
 | _=>0
theorem QdA{id:Nat}(hb:QL r id w b){k:Nat}(hk:k<QCi b):(r id).nil=false:=by
 cases hn:(r id).nil with
 | false=>rfl
 | true=>
  cases b<;>simp only[QCi]at hk<;>(try omega)
  .have:=hb.2.2.2.1 hn;omega
  .have:=hb.2.2.1 hn;omega
  .have:=hb.2.2.1 hn;omega
def j8(P:Program)(C:FuncId->Option FC)(M:TypeId->String->Option FuncId)(op:Op)(ev:Operand->AV)(nid:Nat)(all:List Nat):W4:=
 match op with
 | .load t x=>match ev x with
  | .ptr id e j=>([id],λ|[b]=>(match VU P t e j b.peel with|some e=>some e|none=>QHb P t e j nid b)|_=>none)
  | _=>noV
 | .store t x y=>match ev x with
  | .ptr id e j=>([id],λ|[b]=>(match Jx P t e j (ev y) b with|some b'=>some ⟨true,true,.tup [],[(id,b')]⟩|none=>(QHy P t e j (ev y) b).map λq=>⟨false,q.1,.tup [],[(id,q.2)]⟩)|_=>none)
  | _=>noV
 | .alloc t=>([],λ_=>match (P.info? t).bind (·.zero)with
  | some z=>some ⟨true,true,.ptr nid 0 0,[(nid,.cells (vU P t) t (ofValue z).cells)]⟩
  | none=>none)
 | .box t x=>([],λ_=>if (ev x).storable then some ⟨true,true,.ptr nid 0 0,[(nid,.cells (vU P t) t (ev x).cells)]⟩else none)
 | .indexAddr t x ix=>match P.underlying t,ev x,ev ix with
  | some (.slice elem),.slice c' id e len _,.int c _ i=>([id],fun
   | [b]=>match QBx b.peel with
    | some esz=>if szT P elem==some esz then some ⟨c&&c',decide (0<=i/\i<len),.ptr id (i.toNat+e) 0,[]⟩else none
    | none=>none
   | _=>none)
  | some (.slice elem),.slz id e len _,.int _ _ i=>([id],fun
   | [b]=>match QBx b.peel with
    | some esz=>if szT P elem==some esz then some ⟨false,decide (0<=i/\i<len)&&decide (len+e<=QCi b),.ptr id (i.toNat+e) 0,[]⟩else none
    | none=>none
   | _=>none)
  | some (.array len elem),.ptr id e j,.int c _ i=>match szT P elem with
   | some n=>([],λ_=>some ⟨c,decide (0<=i/\i<len),.ptr id e (j+i.toNat*n),[]⟩)
   | none=>noV
  | _,_,_=>noV
 | .slice t x lo hi mx=>match ev x with
  | .ptr id e j=>([id],λ|[b]=>zw P t (.ptr id e j) (lo.map ev) (hi.map ev) (mx.map ev) (some b.peel)|_=>none)
  | .slice c id e n cp=>([id],λ|[b]=>zw P t (.slice c id e n cp) (lo.map ev) (hi.map ev) (mx.map ev) (some b.peel)|_=>none)
  | .nils=>([],λ_=>zw P t .nils (lo.map ev) (hi.map ev) (mx.map ev) none)
  | .slz id e len cp=>([id],λ|[b]=>QE6 P t id e len cp (lo.map ev) (hi.map ev) (mx.map ev) b.peel|_=>none)
  | _=>noV
 | .buildSlice t len parts=>([],λ_=>QGK P t len (parts.toList.map λp=>(p.1,ev p.2)) nid)
 | .call ⟨.builtin .append,args,ts⟩=>match args.toList with
  | [s,x]=>(match Qcs P ts.toList with
   | true=>(all,QIE P ts.toList (ev s) (ev x) nid all)
   | false=>(idS (ev s)++idS (ev x),QCM P ts.toList (ev s) (ev x) nid))
  | _=>noV
 | .call ⟨.value f,args,_⟩=>match ev f with
  | .fn (.func g) cap=>match C g with
   | some fc=>fc (args.toList.map ev++cap) nid all
   | none=>noV
  | .mth (.func g) l=>match C g with
   | some fc=>fc (l++args.toList.map ev) nid all
   | none=>noV
  | _=>noV
 | .call ⟨.invoke x name,args,_⟩=>match ev x with
  | .ifc t v=>match M t name with
   | some g=>match C g with
    | some fc=>fc (v::args.toList.map ev) nid all
    | none=>noV
   | none=>noV
  | .alt b (.ifc t v) (.ifc t' v')=>match M t name,M t' name with
   | some g,some g'=>match C g,C g' with
    | some fc,some fc'=>jO b (fc (v::args.toList.map ev) nid all) (fc' (v'::args.toList.map ev) nid all)
    | _,_=>noV
   | _,_=>noV
  | _=>noV
 | op=>match QBt P op ev nid with
  | some v=>v
  | none=>match GG P op ev with
   | some e=>([],λ_=>some ⟨e.known,e.pre,e.val,[]⟩)
   | none=>noV
theorem QZq{t:TypeId}{e j:Nat}{v:AV}{b':Blk}(h:Jx P t e j v b=some b'):b.plain=true/\b'.plain=true:=by
 unfold Jx at h;split at h
 .split at h<;>(try (cases h;done))
  simp only[qsI]at h;subst h;exact⟨rfl,rfl⟩
 .split at h<;>(try (cases h;done))
  split at h<;>(try (cases h;done))
  simp only[qsI]at h;subst h;exact⟨rfl,rfl⟩
 .cases h
theorem QWG(hH:HOk r w nid look){t:TypeId}{id e j:Nat}(hv:look id=some b)(h:QHb P t e j nid b=some eff)(hp:eff.pre=true):
  ∃ r',(Instr.loadAt t (AV.den r (.ptr id e j))).run P w = .ok (eff.val.den r') w/\Qi look r nid eff.upd w r' w:=by
 unfold QHb at h;split at h<;>(try (cases h;done))
 rename_i ty esz n len get;split at h<;>(try (cases h;done))
 rename_i hs hrw;simp only[qsI]at h;subst h;simp only[qdE]at hp;obtain⟨h1,h2,h3,inner,h4,h5,h6,h7⟩:=hH.rep id _ hv
 have hnil:(r id).nil=false:=by
  cases hh:(r id).nil with
  | false=>rfl
  | true=>have:=h3 hh;omega
 obtain⟨g1,rest,g2,g3⟩:=h7 hnil;obtain⟨i1,i2,i3⟩:=h6 e hp;refine⟨Qk r nid (inner e),?_,⟨λid h=>by unfold Qk;rw[if_neg (ZP h)],λp hp=>?_,Fr.refl w _,λp hp' hin hlv k hk=>?_,λp hp hin=>?_,λp hp q hq _ _ hne=>?_⟩⟩
 .simp only[AV.den,Instr.loadAt,Instr.sureAddr,Sem.run_bind,Sem.run_pure,Result.andThen_ok];rw[h1,h2,Nat.zero_add,Nat.mul_one];refine zn (r:=Qk r nid (inner e)) hrw hs (l:=[AV.slz nid 0 (len e) (.of 0)]) (j:=0) (o:=e) (λi v hiv=>?_) rfl;cases i with
  | succ i=>simp at hiv
  | zero=>
   simp only[List.getElem?_cons_zero,qsI]at hiv;subst hiv;rw[XB g3,Nat.add_zero,List.getElem?_append_left (by simp;exact hp),List.getElem?_map,List.getElem?_range hp]
   simp[AV.den,Qk,Cap.den]
 .simp only[List.mem_singleton]at hp;subst hp;simp only[QL,Qk,if_true];exact⟨i2,λk hk=>h5 k ((h4 k).2 (.inr ⟨e,by assumption,hk⟩)),i3.keep λ_ _=>rfl⟩
 .simp only[List.mem_singleton]at hp';subst hp';refine .inr (.inr ⟨rfl,id,_,hv,rfl,(h4 k).2 (.inr ⟨e,hp,?_⟩)⟩);simpa[Qc,Qk]using hk
 .simp only[List.mem_singleton]at hp;subst hp;rw[XA]at hin;cases hin
 .simp only[List.mem_singleton]at hp hq;subst hp;subst hq;exact absurd rfl hne
theorem QMs{C:FuncId->Option FC}{M:TypeId->String->Option FuncId}(hC:∀ f fc,C f=some fc->QS P f fc)(hM:Hr P M){o:Oper}{ev:Operand->AV}{a:Act}(hH:HOk r w nid look){g:List Blk->Option Eff}{all:List Nat}(hV:j8 P C M o.op ev nid all=(ids,g))(hv:ids.map look=blks.map some)(he:g blks=some eff)(hp:eff.pre=true)(hρ:∀ x∈o.op.operands,a.eval x=(ev x).den r)(hsc:∀ x∈o.op.operands,(ev x).all (λi=>!inR nid i)=true){K:Act->World->Prop}{Q:Exit->Act->World->Prop}(k:∀ r' w',Qi look r nid eff.upd w r' w'->K (a.put o.dst (eff.val.den r')) w'):o.wp P a w K Q:=by
 have KV:∀{s:Sem Value} {v:Value} {w':World},s.run P w = .ok v w'->(do pure (.value (<-s)):Sem Next).run P w = .ok (.value v) w':=by
  intro s v w' hs;rw[Sem.run_bind,hs];rfl
 have KU:∀{s:Sem Unit} {w':World},s.run P w = .ok () w'->(do s;pure .skip:Sem Next).run P w = .ok .skip w':=by
  intro s w' hs;rw[Sem.run_bind,hs];rfl
 unfold j8 at hV;split at hV<;>rename_i ho
 .
  rename_i t x;have hx:=hρ x (by rw[ho];simp[Op.operands])
  split at hV<;>(try (simp only[noV,qpI]at hV;obtain⟨rfl,rfl⟩:=hV;cases he;done))
  rename_i id e j hex;simp only[qpI]at hV;obtain⟨rfl,rfl⟩:=hV
  match blks,hv,he with
  | [b],hv,he=>
   simp only[List.map_cons,List.map_nil,List.cons.injEq,and_true]at hv;simp only at he;split at he
   .rename_i e0 he0;simp only[qsI]at he;subst he;obtain⟨h1,h2⟩:=QKm (r:=r) (id:=id) (e:=e) (j:=j) (hH.rep id b hv).peel he0 hp;refine JC (w':=w) (v:=e0.val.den r) ?_ (k r w (by rw[h2];exact Qi.id look r nid w))
    unfold execOp;simp only[ho];rw[hx,hex];exact KV h1
   .obtain⟨r',h1,h2⟩:=QWG hH hv he hp;refine JC (w':=w) (v:=eff.val.den r') ?_ (k r' w h2);unfold execOp;simp only[ho];rw[hx,hex];exact KV h1
 .
  rename_i t x y;have hx:=hρ x (by rw[ho];simp[Op.operands])
  have hy:=hρ y (by rw[ho];simp[Op.operands])
  split at hV<;>(try (simp only[noV,qpI]at hV;obtain⟨rfl,rfl⟩:=hV;cases he;done))
  rename_i id e j hex;simp only[qpI]at hV;obtain⟨rfl,rfl⟩:=hV
  match blks,hv,he with
  | [b],hv,he=>
   simp only[List.map_cons,List.map_nil,List.cons.injEq,and_true]at hv;have hid:=hH.out id b hv;simp only at he;split at he
   .rename_i b' hb';simp only[qsI]at he;subst he;obtain⟨w',h1,h2,h3,h4⟩:=QLr (r:=r) (id:=id) (e:=e) (j:=j) (hH.rep id b hv) hb';obtain⟨p1,p2⟩:=QZq hb';refine zk (w':=w') ?_ (k r w' (Qi.same1 hid hv ((J9 p1).2 rfl) (λk hk=>(J9 p1).2 ((J9 p2).1 hk)) h2 h4));unfold execOp;simp only[ho];rw[hx,hex,hy];exact KU h1
   .rw[Option.map_eq_some_iff]at he;obtain⟨⟨q,b'⟩,hb',rfl⟩:=he;obtain⟨w',h1,h2,h3,h4,h5,h6⟩:=Qhw (r:=r) (id:=id) (e:=e) (j:=j) (hH.rep id b hv) hb' hp;refine zk (w':=w') ?_ (k r w' (Qi.same1 hid hv h5 h6 h2 h4));unfold execOp;simp only[ho];rw[hx,hex,hy];exact KU h1
 .
  rename_i t;simp only[qpI]at hV;obtain⟨rfl,rfl⟩:=hV;split at he<;>(try (cases he;done))
  rename_i z hz;simp only[qsI]at he;subst he
  have hb:QL (Qk r nid ⟨w.heap.size,0,vU P t,0,false,none,λk=>k=w.heap.size⟩) nid (w.alloc (.cells z.cells t)) (.cells (vU P t) t (ofValue z).cells):=by
   simp only[QL,Qk,if_true];refine⟨trivial,trivial,?_⟩;rw[Wl,if_pos rfl,<-QPz]
  refine JC (w':=w.alloc (.cells z.cells t)) (v := .pointer (some ⟨w.heap.size,0,none⟩)) ?_ ?_
  .unfold execOp;simp only[ho];exact KV (Qfm hz w)
  .have:=k _ _ (Qi.new1 (r:=r) rfl (λ_ h=>h) hb);simpa[AV.den,Qk]using this
 .
  rename_i t x;have hx:=hρ x (by rw[ho];simp[Op.operands])
  simp only[qpI]at hV;obtain⟨rfl,rfl⟩:=hV;split at he<;>(try (cases he;done))
  rename_i hs;simp only[qsI]at he;subst he
  have hb:QL (Qk r nid ⟨w.heap.size,0,vU P t,0,false,none,λk=>k=w.heap.size⟩) nid (w.alloc (.cells ((ev x).den r).cells t)) (.cells (vU P t) t (ev x).cells):=by
   simp only[QL,Qk,if_true];refine⟨trivial,trivial,?_⟩;rw[Wl,if_pos rfl,QCv r hs,denL_congr (QC1 (l:=⟨w.heap.size,0,vU P t,0,false,none,λk=>k=w.heap.size⟩)) _ (QJc (hsc x (by rw[ho];simp[Op.operands])))]
  refine JC (w':=w.alloc (.cells ((ev x).den r).cells t)) (v := .pointer (some ⟨w.heap.size,0,none⟩)) ?_ ?_
  .unfold execOp;simp only[ho];rw[hx];exact KV (QXn _ w)
  .have:=k _ _ (Qi.new1 (r:=r) rfl (λ_ h=>h) hb);simpa[AV.den,Qk]using this
 .
  rename_i t x ix;have hx:=hρ x (by rw[ho];simp[Op.operands])
  have hix:=hρ ix (by rw[ho];simp[Op.operands])
  split at hV<;>(try (simp only[noV,qpI]at hV;obtain⟨rfl,rfl⟩:=hV;cases he;done))
  .rename_i elem c' id e len cap c kk i hu hex hei;simp only[qpI]at hV;obtain⟨rfl,rfl⟩:=hV;obtain⟨b,rfl⟩:=zj hv;simp only[List.map_cons,List.map_nil,List.cons.injEq,and_true]at hv;have hb:=hH.rep id b hv
   have:∃ esz,(r id).esz=esz/\szT P elem=some esz/\eff=⟨c&&c',decide (0<=i/\i<len),.ptr id (i.toNat+e) 0,[]⟩:=by
    simp only at he;split at he<;>(try (cases he;done))
    rename_i esz hz;split at he<;>(try (cases he;done))
    rename_i hs;simp only[qsI]at he;exact⟨esz,QHC hb.peel hz,by simpa using hs,he.symm⟩
   obtain⟨esz,h1,h2,rfl⟩:=this;simp only[qdE]at hp;refine JC (w':=w) (v:=AV.den r (.ptr id (i.toNat+e) 0)) ?_ (k r w (Qi.id look r nid w));unfold execOp;simp only[ho];rw[hx,hix,hex,hei];simp only[AV.den];refine KV ?_;rw[QNa hu h2 _ _ _ _ _ _ hp];rw[h1,Nat.add_comm i.toNat e,Nat.add_mul,Nat.add_zero,Nat.add_assoc]
  .rename_i elem id e len cap c kk i hu hex hei;simp only[qpI]at hV;obtain⟨rfl,rfl⟩:=hV;obtain⟨b,rfl⟩:=zj hv;simp only[List.map_cons,List.map_nil,List.cons.injEq,and_true]at hv;have hb:=hH.rep id b hv
   have:∃ esz,(r id).esz=esz/\szT P elem=some esz/\eff=⟨false,decide (0<=i/\i<len)&&decide (len+e<=QCi b),.ptr id (i.toNat+e) 0,[]⟩:=by
    simp only at he;split at he<;>(try (cases he;done))
    rename_i esz hz;split at he<;>(try (cases he;done))
    rename_i hs;simp only[qsI]at he;exact⟨esz,QHC hb.peel hz,by simpa using hs,he.symm⟩
   obtain⟨esz,h1,h2,rfl⟩:=this;simp only[qbA,qdE]at hp;have hnil:=QdA hb (k:=e) (by omega)
   refine JC (w':=w) (v:=AV.den r (.ptr id (i.toNat+e) 0)) ?_ (k r w (Qi.id look r nid w));unfold execOp;simp only[ho];rw[hx,hix,hex,hei];simp only[AV.den,Loc.base,hnil];refine KV ?_;rw[QNa hu h2 _ _ _ _ _ _ hp.1];rw[h1,Nat.add_comm i.toNat e,Nat.add_mul,Nat.add_zero,Nat.add_assoc]
  .rename_i len elem id e j c kk i hu hex hei;split at hV<;>(try (simp only[noV,qpI]at hV;obtain⟨rfl,rfl⟩:=hV;cases he;done))
   rename_i n hn;simp only[qpI]at hV;obtain⟨rfl,rfl⟩:=hV;simp only[qsI]at he;subst he;simp only[qdE]at hp;refine JC (w':=w) (v:=AV.den r (.ptr id e (j+i.toNat*n))) ?_ (k r w (Qi.id look r nid w));unfold execOp;simp only[ho];rw[hx,hix,hex,hei];refine KV ?_;simp[AV.den,Instr.indexAt,asIntOf,run_underlying hu,Instr.sureAddr,Vl hn,Vc,Nat.add_assoc,hp.1,hp.2]
 .
  rename_i t x lo hi mx;have hx:=hρ x (by rw[ho];simp[Op.operands])
  have hopt:∀ y:Option Operand,(∀ z∈y,a.eval z=(ev z).den r)->y.map a.eval=(y.map ev).map (AV.den r):=by
   intro y hy;cases y with
   | none=>rfl
   | some z=>simp only[Option.map_some];rw[hy z rfl]
  have h1:=hopt lo (λz hz=>hρ z (by rw[ho];cases hz;simp[Op.operands]))
  have h2:=hopt hi (λz hz=>hρ z (by rw[ho];cases hz;simp[Op.operands]))
  have h3:=hopt mx (λz hz=>hρ z (by rw[ho];cases hz;simp[Op.operands]))
  have fin:∀ b,zw P t (ev x) (lo.map ev) (hi.map ev) (mx.map ev) b=some eff->(∀ id e j b',ev x = .ptr id e j->b=some b'->QL r id w b')->(∀ c id e n cp b',ev x = .slice c id e n cp->b=some b'->QL r id w b')->o.wp P a w K Q:=by
   intro b hsl hb1 hb2;obtain⟨h4,h5⟩:=QdO (r:=r) (w:=w) hsl hp hb1 hb2;refine JC (w':=w) (v:=eff.val.den r) ?_ (k r w (by rw[h5];exact Qi.id look r nid w))
   unfold execOp;simp only[ho];rw[hx,h1,h2,h3];exact KV h4
  split at hV<;>(try (simp only[noV,qpI]at hV;obtain⟨rfl,rfl⟩:=hV;cases he;done))
  .rename_i id e j hex;simp only[qpI]at hV;obtain⟨rfl,rfl⟩:=hV;obtain⟨b,rfl⟩:=zj hv;simp only[List.map_cons,List.map_nil,List.cons.injEq,and_true]at hv;refine fin (some b.peel) (by rw[hex];exact he) ?_ ?_
   .intro id' e' j' b' hx' hb';rw[hex]at hx';cases hx';cases hb';exact(hH.rep id b hv).peel
   .intro c' id' e' n' cp' b' hx' hb';rw[hex]at hx';cases hx'
  .rename_i c id e n cp hex;simp only[qpI]at hV;obtain⟨rfl,rfl⟩:=hV;obtain⟨b,rfl⟩:=zj hv;simp only[List.map_cons,List.map_nil,List.cons.injEq,and_true]at hv;refine fin (some b.peel) (by rw[hex];exact he) ?_ ?_
   .intro id' e' j' b' hx' hb';rw[hex]at hx';cases hx'
   .intro c' id' e' n' cp' b' hx' hb';rw[hex]at hx';cases hx';cases hb';exact(hH.rep id b hv).peel
  .rename_i hex;simp only[qpI]at hV;obtain⟨rfl,rfl⟩:=hV;exact fin none (by rw[hex];exact he) (λ_ _ _ _ _ h=>by cases h) (λ_ _ _ _ _ _ _ h=>by cases h)
  .rename_i id e len cp hex;simp only[qpI]at hV;obtain⟨rfl,rfl⟩:=hV;obtain⟨b,rfl⟩:=zj hv;simp only[List.map_cons,List.map_nil,List.cons.injEq,and_true]at hv;have he:QE6 P t id e len cp (lo.map ev) (hi.map ev) (mx.map ev) b.peel=some eff:=he;obtain⟨h4,h5⟩:=QVs (len:=len) he hp (r:=r) (w:=w) (hH.rep id b hv).peel;refine JC (w':=w) (v:=eff.val.den r) ?_ (k r w (by rw[h5];exact Qi.id look r nid w))
   unfold execOp;simp only[ho];rw[hx,h1,h2,h3,hex];exact KV h4
 .
  rename_i t len parts;simp only[qpI]at hV;obtain⟨rfl,rfl⟩:=hV;have hmem:∀ p∈parts.toList,p.2∈o.op.operands:=λp hpm=>by rw[ho];simp[Op.operands];exact⟨p.1,by simpa using hpm⟩
  obtain⟨w',r',h1,h2⟩:=QU5 he (r:=r) (λq hq=>by
   obtain⟨p,hpm,rfl⟩:=List.mem_map.1 hq;exact hsc p.2 (hmem p hpm)) w
  refine JC (w':=w') (v:=eff.val.den r') ?_ (k r' w' h2);unfold execOp;simp only[ho]
  have:(parts.map λ(i,x)=>(i,a.eval x))=((parts.toList.map λp=>(p.1,ev p.2)).map λx=>(x.1,x.2.den r)).toArray:=by
   apply Array.ext';rw[Array.toList_map,List.map_map];simp only[List.map_inj_left];intro p hpm;show(p.1,a.eval p.2)=_;rw[hρ p.2 (hmem p hpm)];rfl
  rw[this];exact KV h1
 .
  rename_i args ts;split at hV<;>(try (simp only[noV,qpI]at hV;obtain⟨rfl,rfl⟩:=hV;cases he;done))
  rename_i s x hargs;have hargs':args = #[s,x]:=by apply Array.ext';simpa using hargs
  subst hargs';have hs:=hρ s (by rw[ho];simp[Op.operands,Call.operands])
  have hx:=hρ x (by rw[ho];simp[Op.operands,Call.operands])
  have happ:∃ w' r',(Builtin.append_ ts.toList.toArray o.type #[(ev s).den r,(ev x).den r]).run P w = .ok (eff.val.den r') w'/\Qi look r nid eff.upd w r' w':=by
   split at hV
   .simp only[qpI]at hV;obtain⟨rfl,rfl⟩:=hV;exact QXu he hp hH hv o.type
   .simp only[qpI]at hV;obtain⟨rfl,rfl⟩:=hV;exact QOy he hp hH hv o.type
  obtain⟨w',r',h1,h2⟩:=happ;refine JC (w':=w') (v:=eff.val.den r') ?_ (k r' w' h2);unfold execOp;simp only[ho];simp only[resolve,invoke,builtin,Sem.run_bind,Sem.run_pure,Result.andThen_ok,List.map_toArray,List.map_cons,List.map_nil,hs,hx];have h1':(Builtin.append_ ts o.type #[(ev s).den r,(ev x).den r]).run P w = .ok (eff.val.den r') w':=by simpa using h1
  rw[h1'];rfl
 .
  rename_i f args ts;have hf:=hρ f (by rw[ho];simp[Op.operands,Call.operands])
  have hfs:=hsc f (by rw[ho];simp[Op.operands,Call.operands])
  split at hV<;>(try (simp only[noV,qpI]at hV;obtain⟨rfl,rfl⟩:=hV;cases he;done))
  .rename_i g cap hef;split at hV<;>(try (simp only[noV,qpI]at hV;obtain⟨rfl,rfl⟩:=hV;cases he;done))
   rename_i fc hc;obtain⟨hg,hs⟩:=hC g fc hc;rw[hef]at hfs
   have hall:AV.allL (λi=>!inR nid i) (args.toList.map ev++cap)=true:=by
    rw[jG,ZX (λx hx=>hsc x (by rw[ho];simp[Op.operands,Call.operands];exact .inr (by simpa using hx)))]
    exact hfs
   refine QBQ (f:=g) (args:=(AV.denL r (args.toList.map ev++cap)).toArray) ?_ ((hs _ nid all r w look blks eff hH hall (by rw[hV];exact hv) (by rw[hV];exact he) hp).mono λe w' ⟨r',h1,h2⟩=>⟨_,h1,k r' w' h2⟩)
   unfold execOp;simp only[ho];have ha:=YX (r:=r) (ρ:=a.eval) (ev:=ev) (xs:=args) (λx hx=>hρ x (by rw[ho];simp[Op.operands,Call.operands];exact .inr (by simpa using hx)))
   simp only[resolve,hf,hef,AV.den,Deferred.ofValue,Sem.run_bind,Sem.run_pure,Result.andThen_ok,invoke,ha];rw[Zx];simpa using WS hg _ w
  .rename_i g l hef;split at hV<;>(try (simp only[noV,qpI]at hV;obtain⟨rfl,rfl⟩:=hV;cases he;done))
   rename_i fc hc;obtain⟨hg,hs⟩:=hC g fc hc;rw[hef]at hfs
   have hall:AV.allL (λi=>!inR nid i) (l++args.toList.map ev)=true:=by
    rw[jG,ZX (λx hx=>hsc x (by rw[ho];simp[Op.operands,Call.operands];exact .inr (by simpa using hx))),Bool.and_true]
    exact hfs
   refine QBQ (f:=g) (args:=(AV.denL r (l++args.toList.map ev)).toArray) ?_ ((hs _ nid all r w look blks eff hH hall (by rw[hV];exact hv) (by rw[hV];exact he) hp).mono λe w' ⟨r',h1,h2⟩=>⟨_,h1,k r' w' h2⟩)
   unfold execOp;simp only[ho];have ha:=YX (r:=r) (ρ:=a.eval) (ev:=ev) (xs:=args) (λx hx=>hρ x (by rw[ho];simp[Op.operands,Call.operands];exact .inr (by simpa using hx)))
   simp only[resolve,hf,hef,AV.den,Deferred.ofValue,Sem.run_bind,Sem.run_pure,Result.andThen_ok,invoke,ha];rw[Zx];simpa using WS hg _ w
 .
  rename_i x name args ts;have hx:=hρ x (by rw[ho];simp[Op.operands,Call.operands])
  have hxs:=hsc x (by rw[ho];simp[Op.operands,Call.operands])
  split at hV<;>(try (simp only[noV,qpI]at hV;obtain⟨rfl,rfl⟩:=hV;cases he;done))
  .rename_i t v hex;split at hV<;>(try (simp only[noV,qpI]at hV;obtain⟨rfl,rfl⟩:=hV;cases he;done))
   rename_i g hm;split at hV<;>(try (simp only[noV,qpI]at hV;obtain⟨rfl,rfl⟩:=hV;cases he;done))
   rename_i fc hc;obtain⟨hg,hs⟩:=hC g fc hc;rw[hex]at hxs
   have hall:AV.allL (λi=>!inR nid i) (v::args.toList.map ev)=true:=by
    simp only[AV.allL,qbA];exact⟨hxs,ZX (λx hx=>hsc x (by rw[ho];simp[Op.operands,Call.operands];exact .inr (by simpa using hx)))⟩
   refine QBQ (f:=g) (args:=(AV.denL r (v::args.toList.map ev)).toArray) ?_ ((hs _ nid all r w look blks eff hH hall (by rw[hV];exact hv) (by rw[hV];exact he) hp).mono λe w' ⟨r',h1,h2⟩=>⟨_,h1,k r' w' h2⟩)
   unfold execOp;simp only[ho];have ha:=YX (r:=r) (ρ:=a.eval) (ev:=ev) (xs:=args) (λx hx=>hρ x (by rw[ho];simp[Op.operands,Call.operands];exact .inr (by simpa using hx)))
   have hmm:=hM t name g hm (v.den r) w;simp[resolve,invoke,callMethod,ha,hx,hex,AV.den,hmm,AV.denL];simpa using WS hg _ w
  .rename_i b t v t' v' hex;split at hV<;>(try (simp only[noV,qpI]at hV;obtain⟨rfl,rfl⟩:=hV;cases he;done))
   rename_i g1 g2 hm hm';split at hV<;>(try (simp only[noV,qpI]at hV;obtain⟨rfl,rfl⟩:=hV;cases he;done))
   rename_i fc fc' hc hc';have hv1:(jO b (fc (v::args.toList.map ev) nid all) (fc' (v'::args.toList.map ev) nid all)).1.map look=blks.map some:=by rw[hV];exact hv
   have he1:(jO b (fc (v::args.toList.map ev) nid all) (fc' (v'::args.toList.map ev) nid all)).2 blks=some eff:=by rw[hV];exact he
   obtain⟨bl,e1,k1,k2,k3,k4,k5⟩:=Qbg hv1 he1;rw[hex]at hxs hx;simp only[AV.all,qbA]at hxs;have ha:=YX (r:=r) (ρ:=a.eval) (ev:=ev) (xs:=args) (λx hx=>hρ x (by rw[ho];simp[Op.operands,Call.operands];exact .inr (by simpa using hx)))
   have fin:∀(t:TypeId) (v:AV) (g:FuncId) (fc:FC),M t name=some g->C g=some fc->v.all (λi=>!inR nid i)=true->a.eval x=(AV.ifc t v).den r->(fc (v::args.toList.map ev) nid all).1.map look=bl.map some->(fc (v::args.toList.map ev) nid all).2 bl=some e1->o.wp P a w K Q:=by
    intro t v g fc hm hc hxs hx k1 k2;obtain⟨hg,hs⟩:=hC g fc hc
    have hall:AV.allL (λi=>!inR nid i) (v::args.toList.map ev)=true:=by
     simp only[AV.allL,qbA];exact⟨hxs,ZX (λx hx=>hsc x (by rw[ho];simp[Op.operands,Call.operands];exact .inr (by simpa using hx)))⟩
    refine QBQ (f:=g) (args:=(AV.denL r (v::args.toList.map ev)).toArray) ?_ ((hs _ nid all r w look bl e1 hH hall k1 k2 (k3.trans hp)).mono λe w' ⟨r',h1,h2⟩=>⟨_,h1,by rw[k5 r'];exact k r' w' (k4 ▸ h2)⟩)
    unfold execOp;simp only[ho];have hmm:=hM t name g hm (v.den r) w;simp[resolve,invoke,callMethod,ha,hx,AV.den,hmm,AV.denL];simpa using WS hg _ w
   cases b with
   | true=>exact fin t v g1 fc hm hc hxs.1 hx k1 k2
   | false=>exact fin t' v' g2 fc' hm' hc' hxs.2 hx k1 k2
 .
  split at hV
  .rename_i v hm;exact QUh hH (by rw[hm,hV]) hv he hp hρ k
  split at hV<;>(try (simp only[noV,qpI]at hV;obtain⟨rfl,rfl⟩:=hV;cases he;done))
  rename_i e hvo;simp only[qpI]at hV;obtain⟨rfl,rfl⟩:=hV;simp only[qsI]at he;subst he;exact JC (w':=w) (QWt hvo hp hρ w) (k r w (Qi.id look r nid w))
mutual
def AV.setK(c:Bool):AV->AV
 | .int _ k n => .int c k n
 | .bool _ b => .bool c b
 | .slice _ id e n cap => .slice c id e n cap
 | .ifc t v => .ifc t (v.setK c)
 | .alt b v w=>match c with
  | true=>(match b with|true=>v.setK true|false=>w.setK true)
  | false => .alt b v w
 | .agg l => .agg (AV.setKL c l)
 | .tup l => .tup (AV.setKL c l)
 | v=>v
def AV.setKL(c:Bool):List AV->List AV
 | []=>[]
 | v::l=>v.setK c::AV.setKL c l
end
mutual
theorem Wf(r:Nat->Loc)(c:Bool):∀ v:AV,(v.setK c).den r=v.den r
 | .int .. | .bool .. | .slice .. | .slz .. | .ptr .. | .addr .. | .nilp | .nils | .map .. | .yld .. | .nilm | .fn .. | .mth .. | .nilf | .nili | .str .. | .raw .. | .opt .. => rfl
 | .ifc t v=>by simp only[AV.setK,AV.den];rw[Wf r c v]
 | .alt b v w=>by
  have h1:=Wf r true v;have h2:=Wf r true w;cases c with
  | false=>rfl
  | true=>cases b with
   | true=>exact h1
   | false=>exact h2
 | .agg l=>by simp only[AV.setK,AV.den];rw[den_setKL r c l]
 | .tup l=>by simp only[AV.setK,AV.den];rw[den_setKL r c l]
theorem den_setKL(r:Nat->Loc)(c:Bool):∀ l:List AV,AV.denL r (AV.setKL c l)=AV.denL r l
 | []=>rfl
 | v::l=>by simp only[AV.setKL,AV.denL];rw[Wf r c v,den_setKL r c l]
end
def qV(gc:Bool)(P:Program)(C:FuncId->Option FC)(M:TypeId->String->Option FuncId)(op:Op)(ev:Operand->AV)(nid:Nat)(all:List Nat):W4:=match gc with
 | false=>j8 P C M op ev nid all
 | true=>((j8 P C M op ev nid all).1,λblks=>match (j8 P C M op ev nid all).2 blks with
  | some e=>some ⟨true,e.pre,e.val.setK true,e.upd⟩
  | none=>none)
theorem QD7{gc:Bool}{C:FuncId->Option FC}{M:TypeId->String->Option FuncId}(hC:∀ f fc,C f=some fc->QS P f fc)(hM:Hr P M){o:Oper}{ev:Operand->AV}{a:Act}(hH:HOk r w nid look){g:List Blk->Option Eff}{all:List Nat}(hV:qV gc P C M o.op ev nid all=(ids,g))(hv:ids.map look=blks.map some)(he:g blks=some eff)(hp:eff.pre=true)(hρ:∀ x∈o.op.operands,a.eval x=(ev x).den r)(hsc:∀ x∈o.op.operands,(ev x).all (λi=>!inR nid i)=true){K:Act->World->Prop}{Q:Exit->Act->World->Prop}(k:∀ r' w',Qi look r nid eff.upd w r' w'->K (a.put o.dst (eff.val.den r')) w'):o.wp P a w K Q:=by
 cases gc with
 | false=>exact QMs hC hM hH hV hv he hp hρ hsc k
 | true=>
  simp only[qV,qpI]at hV;obtain⟨rfl,rfl⟩:=hV;simp only at he;split at he<;>(try (cases he;done))
  rename_i e h0;simp only[qsI]at he;subst he;refine QMs hC hM hH rfl hv h0 hp hρ hsc λr' w' hpost=>?_;have:=k r' w' hpost;simp only[Wf]at this;exact this
