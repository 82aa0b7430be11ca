/- - -/
import Derived.Test.YtekbmehgcofnkaaGreatVzk
noncomputable section
open Go.Proofs.Tryz
open Go.IntKind (i64)
set_option maxRecDepth 100000
namespace Go.Proofs.YtekbmehgcofnkaaGreat
open Go Go.RowKit Go.Lib Go.Shelf Go.Sort Go.SX Go.SX.Told
instance : Inhabited Tw := ⟨⟨0,0⟩⟩
def JR(x:Tw):List Value:=[.int .i64 x.a,.int .i64 x.b]
def Y6(g:Nat->Nat->Int)(i:Nat):Tw:=⟨g i 0,g i 1⟩
def Jy(l:List Tw):List Tw:=l.mergeSort λx y=>!(ltOf J3) y x
def Yz(n:Nat)(g:Nat->Nat->Int)(i:Nat):Nat->Int:=QA.enc ((Jy ((List.range n).map (Y6 g))).getD i ⟨0,0⟩)
def ksT:List CK:=[.int .i64,.int .i64]
theorem Ym(x y:Tw):J3 x y<0↔x.a<y.a∨(x.a=y.a/\x.b<y.b):=by
 unfold J3;simp only[QPc,QT8,QMK]
theorem QPp:SWO (ltOf J3) where
 irrefl x:=by simp only[ltOf,decide_eq_false_iff_not,Ym];omega
 trans x y z h1 h2:=by simp only[ltOf,qdE,Ym]at *;omega
 ntrans x y z h1 h2:=by simp only[ltOf,decide_eq_false_iff_not,Ym]at *;omega
theorem QO2(x y:Tw)(h1:(ltOf J3) x y=false)(h2:(ltOf J3) y x=false):x=y:=by
 simp only[ltOf,decide_eq_false_iff_not,Ym]at h1 h2;obtain⟨a,b⟩:=x;obtain⟨a',b'⟩:=y;simp only[Tw.mk.injEq]at *;omega
theorem QkR(blk off size:Nat)(w:World):CmpLays prog 65 #[] JR 2 J3 blk off size w:=by
 intro m os dk _ x y;generalize sortWorldK JR 2 w blk off m dk os=W;have h:=QWb.2 [Enc.enc x,Enc.enc y] 0 [] (λ_=>SX.Loc.none 0) W (λ_=>none) [] ⟨false,true,.int false .i64 (J3 x y),[]⟩ ⟨λ_ _ h=>(by cases h),λ_ _ h=>(by cases h),λ_ _ h=>(by cases h),λ_ _ _ _ h=>(by cases h)⟩ rfl rfl rfl rfl
 refine h.mono ?_;rintro e w' ⟨r',rfl,hp⟩;refine⟨rfl,QPb ?_⟩;have hf:=hp.fr;refine⟨hf.os,hf.tape,hf.output,hf.size,hf.drawn,λk hk _=>hf.block k hk ?_⟩;rintro⟨p,hp,_⟩;cases hp
theorem QUj(r:Nat->SX.Loc)(n:Nat)(g:Nat->Nat->Int):AV.denL r (Q9 n (QY ksT g)).flatten=((List.range n).map (Y6 g)).flatMap JR:=by
 rw[Qy,Q9,<-List.flatMap_def,List.map_flatMap,List.flatMap_map];rfl
theorem Qhf(r:Nat->SX.Loc)(n:Nat)(g:Nat->Nat->Int):AV.denL r (Q9 n (QY ksT (Yz n g))).flatten=(Jy ((List.range n).map (Y6 g))).flatMap JR:=by
 rw[QUj];congr 1;have hl:(Jy ((List.range n).map (Y6 g))).length=n:=by unfold Jy;rw[List.length_mergeSort];simp
 apply List.ext_getElem
 .rw[hl];simp
 .intro i h1 h2;rw[List.getElem_map,List.getElem_range];exact(show Y6 (Yz n g) i=(Jy ((List.range n).map (Y6 g))).getD i ⟨0,0⟩from rfl).trans (Jb h2)
variable {w:World}
theorem Qde{b m:Nat}{os:Array Obj}{l l':List Tw}{rest:List Value}{ty:TypeId}(h:bk w b=some (.cells (l.flatMap JR++rest).toArray ty (0,0)))(hl:l.length=l'.length):
  bk (sortWorldK JR 2 w b 0 m l'.toArray os) b=some (.cells (l'.flatMap JR++rest).toArray ty (0,0))/\(∀ k,k<w.heap.size->k≠b->bk (sortWorldK JR 2 w b 0 m l'.toArray os) k=bk w k)/\w.heap.size<=(sortWorldK JR 2 w b 0 m l'.toArray os).heap.size:=by
 have hk:∀ x,(JR x).length=2:=λ_=>rfl
 have hf:flatK JR 2 l'.toArray=(l'.flatMap JR).toArray:=by
  apply Array.ext';rw[QSE JR 2 hk]
 have hlen:(l.flatMap JR).length=(l'.flatMap JR).length:=by rw[jU JR 2 hk,jU JR 2 hk,hl]
 have hb:b<w.heap.size:=by
  unfold bk at h;exact(Array.getElem?_eq_some_iff.1 h).1
 unfold bk at h ⊢;unfold sortWorldK grow putRowK putRow mapBlock Sort.ahead;simp only[hf];refine⟨?_,λk hk1 hk2=>?_,by simp⟩
 .rw[Array.getElem?_append_left (by simpa using hb),Array.getElem?_modify,if_pos rfl,h]
  simp only[Option.map_some,onCells];rw[QUD _ _ _ hlen]
 .rw[Array.getElem?_append_left (by simpa using hk1),Array.getElem?_modify,if_neg (λe=>hk2 e.symm)]
theorem QY1{b:Nat}{l:List Tw}{rest:List Value}{ty:TypeId}(h:bk w b=some (.cells (l.flatMap JR++rest).toArray ty (0,0))):HoldsK JR 2 w b 0 l.toArray:=by
 have hk:∀ x,(JR x).length=2:=λ_=>rfl;intro j hj;rw[size_flatK]at hj;have hj:j<l.length*2:=by simpa using hj
 have e:((flatK JR 2 l.toArray)[j]!)=(JR l[j / 2]!)[j % 2]! := by
  rw[get_flatK JR 2 _ j (by simpa using hj)];simp
 refine⟨?_,?_⟩
 .rw[Yg h,Nat.zero_add,List.getElem?_append_left (by rw[jU JR 2 hk];exact hj),QEi JR 2 hk l j hj,e]
  rfl
 .unfold World.frozen?;unfold bk at h;rw[h];simp
def QKP:FC:=λargs _ _=>match args with
 | [.slz id 0 n _,.fn (.func f) []]=>([id],λbs=>match Nat.beq f 65,bs with
  | true,[.rowz true ty [.int .i64,.int .i64] n' g]=>some ⟨false,decide (n=n')&&decide (n<4611686018427387904),.tup [],[(id,.rowz true ty [.int .i64,.int .i64] n (Yz n g))]⟩
  | _,_=>none)
 | [.nils,.fn (.func f) []]=>([],λbs=>match Nat.beq f 65,bs with
  | true,[]=>some ⟨false,true,.tup [],[]⟩
  | _,_=>none)
 | _=>([],λ_=>none)
theorem QJS(l:List Tw):(Jy l).length=l.length:=by unfold Jy;rw[List.length_mergeSort]
theorem QeS:∀ w,(isAgg 89).run prog w = .ok true w:=Tryz.isAgg89
theorem Qgj:∀ w,(Go.sizeOf 89).run prog w = .ok 2 w:=Tryz.sizeOf89
theorem QZx:QS prog 107 QKP:=by
 have hnone:∀(p:Option Addr) (cap:Nat) (fv:Value) (w:World),Calls prog 107 #[.slice p 0 cap,fv] w λe w'=>e = .returned (.tuple #[])/\w'=w:=AnyF.slices_SortFunc_none Tryz.sortTw;refine⟨by kernel_rfl,λargs nid all r w lk blks eff hH _ hv he hp=>?_⟩
 unfold QKP at hv he;split at he<;>(try (cases he;done))
 rotate_left
 .rename_i f hx;simp only at he;split at he<;>(try (cases he;done))
  rename_i hf;have hf:f=65:=qnb hf;subst hf;simp only[qsI]at he;subst he;refine(hnone none 0 (.func (.func 65) #[] #[]) w).mono ?_;rintro e w' ⟨rfl,rfl⟩;exact⟨r,rfl,λ_ _=>rfl,λp hp=>(by cases hp),⟨rfl,rfl,rfl,qlr _,qlr _,λ_ _ _=>rfl⟩,λp hp=>(by cases hp),λp hp=>(by cases hp),λp hp=>(by cases hp)⟩
 rename_i id n c f hx;simp only at he;split at he<;>(try (cases he;done))
 rename_i ty n' g hf;have hf:f=65:=qnb hf;subst hf;simp only[qsI]at he;subst he;simp only[qbA,qdE]at hp;obtain⟨hn,hlt⟩:=hp;subst hn;have hlk:lk id=some (.rowz true ty [.int .i64,.int .i64] n g):=by simpa using hv
 have hlk:lk id=some (.rowz true ty ksT n g):=hlk;obtain⟨h0,h4,hfoot,hnil,hrow,hcells⟩:=(show Kl r id w ty ksT.length n (QY ksT g)from hH.rep _ _ hlk);have hout:=hH.out _ _ hlk;have hrow':∀ i,i<n->(QY ksT (Yz n g) i).length=ksT.length/\Jr (QY ksT (Yz n g) i)=true:=λi _=>⟨XZ _ _ _,VD _ _ _⟩;cases hN:(r id).nil with
 | true=>
  have hz:=hnil hN;subst hz;refine(hnone ((r id).base 0) ((r id).room (c.den (r id).cap)) (.func (.func 65) #[] #[]) w).mono ?_;rintro e w' ⟨rfl,rfl⟩;refine⟨r,rfl,λ_ _=>rfl,?_,⟨rfl,rfl,rfl,qlr _,qlr _,λ_ _ _=>rfl⟩,?_,?_,?_⟩
  .intro p hp;rw[List.mem_singleton.1 hp];exact⟨h0,h4,hfoot,hnil,λi hi=>absurd hi (Nat.not_lt_zero _),λq=>by rw[hN]at q;cases q⟩
  .intro p hp hin;rw[List.mem_singleton.1 hp]at hin;rw[hout]at hin;cases hin
  .intro p hp _ _ k hk;rw[List.mem_singleton.1 hp]at hk;rw[List.mem_singleton.1 hp];exact⟨_,hlk,hk⟩
  .intro p hp q _ hin;rw[List.mem_singleton.1 hp]at hin;rw[hout]at hin;cases hin
 | false=>
  obtain⟨hcap,rest,hrest,hbk⟩:=hcells hN;rw[QUj]at hbk
  have hb:(r id).blk<w.heap.size:=by
   unfold bk at hbk;exact(Array.getElem?_eq_some_iff.1 hbk).1
  have eg:∀ args w,(callFunc 65 args).run prog w = .ok (.enter 65 args) w:=enters_of func65 (by kernel_rfl) rfl
  have hd:((List.range n).map (Y6 g)).toArray.size=n:=by simp
  have hcon:=AnyQ.slices_SortFunc Tryz.sortTw 2 QeS Qgj JR (λ_=>rfl) (λx v hv=>by simp[JR]at hv;rcases hv with rfl|rfl<;>rfl) J3 QPp 65 #[] (r id).blk 0 ((r id).room (c.den (r id).cap)) ((List.range n).map (Y6 g)).toArray w eg (QkR _ _ _ _) (QY1 hbk) hb (by rw[hd];exact hlt)
  rw[hd]at hcon
  have ha:AV.denL r [.slz id 0 n c,.fn (.func 65) []]=[.slice (some ⟨(r id).blk,0,none⟩) n ((r id).room (c.den (r id).cap)),.func (.func 65) #[] #[]]:=by
   simp only[AV.denL,AV.den,Loc.base,hN,h0,Nat.zero_mul,Nat.add_zero]
  rw[ha];refine hcon.mono ?_;rintro e w' ⟨rfl,d',m,os,hperm,hsort,rfl⟩;have hu:=sorted_unique_holds QPp QO2 ((List.range n).map (Y6 g)).toArray d' (by rw[hd];exact hperm) (by rw[hd];exact hsort)
  have hd':d'=(Jy ((List.range n).map (Y6 g))).toArray:=Array.ext' (by rw[hu];rfl)
  subst hd';obtain⟨w1,w2,w3⟩:=Qde (m:=m) (os:=os) hbk (QJS _).symm;refine⟨r,rfl,λ_ _=>rfl,?_,⟨rfl,rfl,rfl,w3,Nat.le_add_right _ _,λk hk hc=>w2 k hk λe=>hc ⟨_,List.mem_singleton.2 rfl,hout,_,hlk,(hfoot k).2 ⟨hN,e⟩⟩⟩,?_,?_,?_⟩
  .intro p hp;rw[List.mem_singleton.1 hp];refine⟨h0,h4,hfoot,hnil,hrow',λ_=>⟨hcap,rest,hrest,?_⟩⟩;show bk _ _=some (.cells (AV.denL r (Q9 n (QY ksT (Yz n g))).flatten++rest).toArray ty (0,0));rw[Qhf];exact w1
  .intro p hp hin;rw[List.mem_singleton.1 hp]at hin;rw[hout]at hin;cases hin
  .intro p hp _ _ k hk;rw[List.mem_singleton.1 hp]at hk;rw[List.mem_singleton.1 hp];exact⟨_,hlk,hk⟩
  .intro p hp q _ hin;rw[List.mem_singleton.1 hp]at hin;rw[hout]at hin;cases hin
def QRV:Tab:=Qc QV 107 QKP
theorem QkU:Qf QRV:=Qm.add QZx
end Go.Proofs.YtekbmehgcofnkaaGreat
namespace Go.SX
open Go Go.RowKit Go.Proofs.YtekbmehgcofnkaaGreat
def JSt.dfrs(J:JSt)(D:Nat):JSt:=⟨J.len,J.live,(D,.dfr)::J.hp,J.nid⟩
def js(D:Nat)(J:JSt):Bool:=J.live.all (λp=>p.2.all (λi=>i != D))&&(J.hp.all (λq=>q.1 != D&&q.2.all (λi=>i != D))&&decide (D<J.nid))
variable {w:World}
theorem Inv.subD{G:Ctx}{n0 D:Nat}{ls:List Nat}{st:St}{J:JSt}{a:Act}{r:Nat->Loc}{h':List (Nat×Blk)}(hI:Inv G st.tm.length r (QJ st.tm) (look st.hp) a w)(hh:∀ id b,look h' id=some b->look st.hp id=some b)(hs:Jg n0 ls st.tm.length (ls.map (QJ st.tm)) h' J)(hG:G.n<=n0)(hD:G.n<=D)(hf:js D J=true):∃ g,Rep G J.nid ((J.dfrs D).inst g) a w:=by
 obtain⟨ps0,hsub,hall⟩:=hs.eqs;unfold QF at hsub;simp only at hsub;generalize Wx n0 _ _ _ _=Q at hsub;split at hsub<;>(try (cases hsub;done))
 rename_i ps qs e1 e2 hck;simp only[qsI]at hsub;subst hsub;obtain⟨ha1,ha2⟩:=jS.1 hall;simp only[qbA]at hck;obtain⟨hsc,hinj,hlow,hnd,_⟩:=hck;unfold qw at hsc;simp only[List.all_eq_true,qbA,qdE]at hsc;unfold js at hf;simp only[List.all_eq_true,qbA,qdE,bne_iff_ne,ne_eq]at hf;obtain⟨hf1,hf2,hf3⟩:=hf;have hz:ls.map (QJ st.tm)=J.live.map (λp=>QJ st.tm p.1):=by rw[<-hs.slots,List.map_map];rfl
 have hden:=eqL_den (hJ:=J.hp) r _ _ _ e1 ha1;rw[hz]at hden;have hsame:=QHw hden
 have hget:∀ t,QJ ((J.dfrs D).inst λt=>a.tmps.getD t undef).tm t=if t<J.len then (match lkS J.live t with|some v=>v|none => .raw (a.tmps.getD t undef))else .tup []:=by
  intro t;have:=QCR (λt=>a.tmps.getD t undef) J.live J.len 0 t;rw[Nat.zero_add]at this;exact this
 have hblk:∀ id b,look J.hp id=some b->(QN (Q8 Q J.hp r) id w b/\∀ k,¬ Qo (Q8 Q J.hp r) id b k) ∨
   ∃ x b',JI Q id=some x/\x.c ≠ .ghost/\look st.hp x.s=some b'/\QN (Q8 Q J.hp r) id w b/\(∀ k,Qo (Q8 Q J.hp r) id b k->Qo r x.s b' k)/\(b.own=true->b'.own=true):=by
  intro id b hb;rcases QFZ e2 ha2 _ (KK hb)with ⟨x,h1,h2,q1,h3,h4⟩|⟨x,b',h1,h2,h3,q1,h4,h5⟩
  .refine .inl (QUG h3 h4 ?_);unfold Q8;rw[h1];obtain⟨_,s,c⟩:=x;simp only at h2;subst h2;simp only;rw[hb]
  .have:=QRv (hJ:=J.hp) (r:=r) (w:=w) (x:=x) h1 h4 h5 (hI.rep _ _ (hh _ _ h3));exact .inr ⟨x,b',h1,h2,hh _ _ h3,this.1,this.2.1,this.2.2⟩
 obtain⟨mf,hmf⟩:∃ m:Nat->Prop,∀ k,m k↔∃ id,G.n<=id/\look st.hp id=some .dfr/\(r id).foot k:=⟨_,λ_=>Iff.rfl⟩;let r2:Nat->Loc:=λi=>if i=D then ⟨0,0,0,0,false,.none,mf⟩else Q8 Q J.hp r i
 have hr2:∀ i,i≠D->r2 i=Q8 Q J.hp r i:=λi hi=>if_neg hi;have hrD:(r2 D).foot=mf:=by show(if D=D then _ else _:Loc).foot=mf;rw[if_pos rfl]
 have hcong:∀ i,(i != D)=true->Q8 Q J.hp r i=r2 i:=λi hi=>(hr2 i (by simpa using hi)).symm
 have hlk:∀ id b,look (J.dfrs D).hp id=some b->(id=D/\b = .dfr)∨(id≠D/\look J.hp id=some b/\b.all (λi=>i != D)=true):=by
  intro id b hb;simp only[JSt.dfrs,Kw]at hb;split at hb
  .rename_i he;simp only[Blk.live,if_true,qsI]at hb
   exact .inl ⟨by have : D = id := by simpa using he
                  exact this.symm,hb.symm⟩
  .rename_i he;exact .inr ⟨λe=>he (by simp[e]),hb,(hf2 _ (KK hb)).2⟩
 have hfoot:∀ id b k,id≠D->(Qo r2 id b k↔Qo (Q8 Q J.hp r) id b k):=λid b k hid=>by unfold Qo;rw[hr2 id hid]
 have hmk:∀ id b k,look J.hp id=some b->b.own=true->Qo (Q8 Q J.hp r) id b k->¬ mf k:=by
  intro id b k hb ho hk hm;obtain⟨id',_,h2,h3⟩:=(hmf k).1 hm;rcases hblk id b hb with h1|⟨x,c,_,_,g3,_,g4,g5⟩
  .exact h1.2 k hk
  .refine hI.sep _ _ c _ g3 h2 (λe=>?_) (g5 ho) k (g4 k hk) h3;rw[e,h2]at g3;simp only[qsI]at g3;have:=g5 ho;rw[<-g3]at this;cases this
 have hrep:∀ id b,look (J.dfrs D).hp id=some b->QN r2 id w b:=by
  intro id b hb;rcases hlk id b hb with ⟨rfl,rfl⟩|⟨h1,h2,h3⟩
  .intro k hk;rw[hrD]at hk;obtain⟨id',_,q2,q3⟩:=(hmf k).1 hk;exact hI.rep id' _ q2 k q3
  .have hb0:QN (Q8 Q J.hp r) id w b:=by
    rcases hblk id b h2 with q|⟨_,_,_,_,_,q,_⟩
    .exact q.1
    .exact q
   exact hb0.keep hcong (hr2 id h1).symm (qlr _) h3 λ_ _ _=>rfl
 refine⟨λt=>a.tmps.getD t undef,⟨r2,?_⟩,?_⟩
 .refine⟨?_,?_,λt=>?_,hrep,λid b hb=>XQ hb,λid id' b b' hb hb' hne ho k hk hk'=>?_,λid hid=>?_,hI.fr,λid b hb ho k hk=>?_⟩
  .rw[hI.size,hs.len];exact(QFv _ _ _ _).symm
  .obtain⟨bs,d1,d2,d3⟩:=hI.defers;refine⟨bs,d1,d2,λb hb=>?_⟩;obtain⟨q0,id,q1,q2,q3⟩:=d3 b hb;refine⟨q0,D,hD,by simp[JSt.inst,JSt.dfrs,Kw,Blk.live],?_⟩
   rw[hrD];exact(hmf b).2 ⟨id,q1,q2,q3⟩
  .rw[hget];split
   .split
    .rename_i v hv;rw[hI.tm t];refine(hsame _ (zE hv)).trans (XT hcong _ ?_);exact hf1 _ (zE hv)
    .rfl
   .rename_i hlt;rw[hI.tm t];have:QJ st.tm t = .tup []:=by unfold QJ;rw[List.getElem?_eq_none (by rw[hs.len];omega)];rfl
    rw[this];rfl
  .rcases hlk id b hb with ⟨rfl,rfl⟩|⟨h1,h2,h3⟩
   .cases ho
   .have hj:=(hfoot _ _ _ h1).1 hk;rcases hlk id' b' hb' with ⟨rfl,rfl⟩|⟨h1',h2',h3'⟩
    .have hj':(r2 id').foot k:=hk';rw[hrD]at hj';exact hmk id b k h2 ho hj hj'
    .have hj':=(hfoot _ _ _ h1').1 hk';rcases hblk id b h2 with q|⟨x,c,q1,q2,q3,_,q4,q5⟩
     .exact q.2 k hj
     .rcases hblk id' b' h2' with g1|⟨x',c',g1,g2,g3,_,g4,_⟩
      .exact g1.2 k hj'
      .exact hI.sep _ _ c c' q3 g3 (QHi hinj _ (KK h2) _ (KK h2') hne x x' q1 g1 q2 g2) (q5 ho) k (q4 k hj) (g4 k hj')
  .rw[hr2 id (by omega),<-hI.ext id hid]
   unfold Q8;cases hf:JI Q id with
   | none=>rfl
   | some x=>
    have hp:=QJg hf;obtain⟨l1,l2⟩:=QG0 hlow x (QH0 hf) (by rw[hp];omega)
    obtain⟨p,s,c⟩:=x;simp only at hp l1 l2;subst l1;subst l2;subst hp;rfl
  .rcases hlk id b hb with ⟨rfl,rfl⟩|⟨h1,h2,h3⟩
   .cases ho
   .have hk:=(hfoot _ _ _ h1).1 hk;rcases hblk id b h2 with q|⟨x,c,q1,q2,q3,_,q4,q5⟩
    .exact absurd hk (q.2 k)
    .exact hI.own _ c q3 (q5 ho) k (q4 k hk)
 .refine⟨λt=>?_,λid b hb=>?_,λid b hb=>?_⟩
  .rw[hget];split
   .split
    .rename_i v hv;exact hsc.1 _ (zE hv)
    .rfl
   .rfl
  .rcases hlk id b hb with ⟨rfl,rfl⟩|⟨h1,h2,h3⟩
   .exact hf3
   .exact(hsc.2 _ (KK h2)).1
  .rcases hlk id b hb with ⟨rfl,rfl⟩|⟨h1,h2,h3⟩
   .rfl
   .exact(hsc.2 _ (KK h2)).2
theorem Rep.subD{G:Ctx}{n n0 D:Nat}{ls:List Nat}{st:St}{J:JSt}{a:Act}{w:World}{ids:List Nat}{vals:List AV}(h:Rep G n st a w)(hs:Jg n0 ls st.tm.length (ls.map (QJ st.tm)) (K1 ids vals st.hp) J)(hG:G.n<=n0)(hD:G.n<=D)(hf:js D J=true):∃ g,Rep G J.nid ((J.dfrs D).inst g) a w:=by
 obtain⟨⟨r,hI⟩,_⟩:=h;exact hI.subD (λid b hb=>WV hb) hs hG hD hf
def HG(ids:List Nat)(ls:Ex->List Nat)(e:Ex)(st:St):QC := .leaf (.tup (QPq e :: .ptr st.tm.length 0 0::(ls e).map (QJ st.tm))) (K1 ids ((ls e).map (QJ st.tm)) st.hp)
theorem QiL{ids:List Nat}{ls:Ex->List Nat}{Cont:Nat->List AV->List (Nat×Blk)->Prop}{Out:Ex->Nat->List AV->List (Nat×Blk)->Prop}{e:Ex}{st:St}(h:(HG ids ls e st).den (q9 Cont Out)):
  (e = .normal/\Cont st.tm.length ((ls e).map (QJ st.tm)) (K1 ids ((ls e).map (QJ st.tm)) st.hp))∨(e ≠ .normal/\Out e st.tm.length ((ls e).map (QJ st.tm)) (K1 ids ((ls e).map (QJ st.tm)) st.hp)):=by
 cases e with
 | normal=>exact .inl ⟨rfl,h⟩
 | exit id=>exact .inr ⟨by simp,h⟩
 | ret=>exact .inr ⟨by simp,h⟩
section
variable {σ:Type} (I:σ->JSt) (pre:σ->Prop) (μ:σ->Nat) (R:σ->Ex->JSt->Prop) (n0 D:Nat) (ls:Ex->List Nat) (ids:List Nat)
structure QEn (E:σ->(Nat->Value)->Env) (H:σ->(Nat->Value)->Hnd) (body:Code):Prop where
 round:∀ s g,pre s->Zn (q9 (QHB I pre μ R n0 ls s) (QHj R n0 ls s)) (exec (E s g) (H s g) body (((I s).dfrs D).inst g) (HG ids ls))
variable {I pre μ R n0 D ls ids}
theorem QME{E:σ->(Nat->Value)->Env}{P:Program}(hP:∀ s g,(E s g).P=P)(hE:∀ s g,pre s->(E s g).Sound){H:σ->(Nat->Value)->Hnd}{G:Ctx}(hG:G.n<=n0)(hD:G.n<=D){body:Code}(hH:∀ s g,pre s->Q0 (E s g) G (H s g) body)(hn:∀ s,pre s->n0<=(I s).nid/\js D (I s)=true)(hR:∀ s e J,R s e J->n0<=J.nid/\js D J=true)(hr:QEn I pre μ R n0 D ls ids E H body){Q:Exit->Act->World->Prop}:∀(n:Nat) (s:σ) (g:Nat->Value) (a:Act) (w:World),μ s<n->pre s->Rep G (I s).nid (((I s).dfrs D).inst g) a w ->
  (∀ e J g a' w',R s e J->n0<=J.nid->Rep G J.nid ((J.dfrs D).inst g) a' w'->Q e.to a' w')->Code.roundsIn (FW G.rd) 0 P body Q n a w
 | 0,s,g,a,w,hm,_,_,_=>by omega
 | n+1,s,g,a,w,hm,hp,hrep,hQ=>by
  rw[roundsIn_succ];have hh:=hH s g hp;have h0:=(hr.round s g hp).den;generalize H s g=Hs at hh h0;have hEs:=hE s g hp;have hPs:=hP s g;generalize E s g=Es at hh h0 hEs hPs;subst hPs;have key:J5 Es G body (exec Es Hs body):=jE hEs hh.call hh.yield body hh.loop;refine key (((I s).dfrs D).inst g) (HG ids ls) _ _ a w (Nat.le_trans hG (hn s hp).1) h0 hrep ?_;intro e st' a' w' hn' hden hrep';rcases QiL hden with ⟨rfl,s',h1,h2,h3,h4⟩|⟨hne,J,h1,h2⟩
  .obtain⟨g',hr'⟩:=hrep'.subD h4 hG hD (hn s' h1).2;exact QME hP hE hG hD hH hn hR hr n s' g' a' w' (by omega) h1 hr' (λe J g a' w' hR=>hQ e J g a' w' (h3 e J hR))
  .obtain⟨g',hr'⟩:=hrep'.subD h2 hG hD (hR _ _ _ h1).2;have:=hQ e J g' a' w' h1 (hR _ _ _ h1).1 hr';cases e with
   | normal=>exact absurd rfl hne
   | exit id=>exact this
   | ret=>exact this
end
def QGk(n0:Nat)(ids:List Nat)(J0:JSt)(X:List (Prop×Ex×JSt))(st:St)(K:Ex->St->QC):QC:=
 match Nat.beq st.tm.length J0.len with
 | true=>(match QF n0 ((J0.live.map (·.1)).map (QJ st.tm)) (K1 ids ((J0.live.map (·.1)).map (QJ st.tm)) st.hp) J0 with
  | some ps=>QB9 ps (QCF K X)
  | none => .fail "a loop's beginning")
 | false => .fail "a loop's slots"
theorem QMr{σ:Type}{I:σ->JSt}{pre:σ->Prop}{μ:σ->Nat}{R:σ->Ex->JSt->Prop}{n0 D:Nat}{ls:Ex->List Nat}{ids ids':List Nat}{E0:Env}{E:σ->(Nat->Value)->Env}(hP:∀ s g,(E s g).P=E0.P)(hE:∀ s g,pre s->(E s g).Sound){H:σ->(Nat->Value)->Hnd}{G:Ctx}(hG:G.n<=n0)(hD:G.n<=D){body:Code}(hH:∀ s g,pre s->Q0 (E s g) G (H s g) body)(hn:∀ s,pre s->n0<=(I s).nid/\js D (I s)=true)(hR:∀ s e J,R s e J->n0<=J.nid/\js D J=true)(hr:QEn I pre μ R n0 D ls ids E H body){s0:σ}(hp:pre s0){X:List (Prop×Ex×JSt)}(hX:∀ e J,R s0 e J->∃ x∈X,x.1/\x.2.1=e/\x.2.2=J.dfrs D):
  J5 E0 G (.loop body) (QGk n0 ids' (I s0) X):=by
 intro st K T Q a w hn' h hrep hQ;unfold QGk at h;split at h
 rotate_left
 .exact h.elim
 rename_i hl;split at h
 rotate_left
 .exact h.elim
 rename_i ps hps;have hlen:=qnb hl;obtain⟨ha,hx⟩:=QBQ h;have hso:Jg n0 ((I s0).live.map (·.1)) st.tm.length (((I s0).live.map (·.1)).map (QJ st.tm)) (K1 ids' (((I s0).live.map (·.1)).map (QJ st.tm)) st.hp) (I s0):={ slots:=rfl,len:=hlen,eqs:=⟨ps,hps,ha⟩ };obtain⟨g,hr'⟩:=hrep.subD hso hG hD (hn s0 hp).2;refine wpIn_loop_rounds (μ s0+1) (QME hP hE hG hD hH hn hR hr _ s0 g a w (Nat.lt_succ_self _) hp hr' ?_);intro e J g' a' w' hRe hnJ hrJ;obtain⟨x,h1,h2,h3,h4⟩:=hX e J hRe;have:=QBJ hx x h1 h2 g';rw[h3,h4]at this
 exact hQ e ((J.dfrs D).inst g') a' w' (Nat.le_trans hG hnJ) this hrJ
end Go.SX
namespace Go.Proofs.YtekbmehgcofnkaaGreat
open Go.SX Go.SX.Told
def KE(c:Code):Code×Code:=match JA c with
 | .rangeFunc _ _ ac body::_=>(ac,body)
 | _=>(.skip,.skip)
abbrev TJ:={f:Nat // True}
structure TwP where
 o:List Tw
 o2:List Tw
 p:Nat
 q:Nat
 g:Nat->Value
def rwT(id:Nat)(o:List Tw):Nat×Blk:=(id,.rowz true 89 kB o.length λi=>QA.enc (o.getD i ⟨0,0⟩))
variable (d:Puz)(E:ECt)(ac body:Code)(l2 l:List Lay)(p:Nat)(u2:Nat->Nat->Int)(f t f':Nat)
def twT(w0:TwP):List AV:=[.raw (w0.g 0),.ptr 112 0 0,.ptr 120 0 0,.raw (w0.g 3),.ptr 200 0 0,.ptr 296 0 0,.ptr 400 0 0,.ptr 432 0 0,.raw (w0.g 8),.raw (w0.g 9),.raw (w0.g 10),.raw (w0.g 11),.raw (w0.g 12),.raw (w0.g 13),.raw (w0.g 14),.raw (w0.g 15),.raw (w0.g 16),.raw (w0.g 17),.raw (w0.g 18),.raw (w0.g 19),.raw (w0.g 20),.int false .i64 d.ps.n,.int false .i64 w0.p,.raw (w0.g 23),.raw (w0.g 24),.int false .i64 w0.p,.int false .i64 w0.q,.bool true true,.int false .i64 w0.q,.ptr 200 0 0,.fn (.func 102) [.ptr 456 0 0,.ptr 464 0 0],.raw (w0.g 31),.raw (w0.g 32),.raw (w0.g 33),.raw (w0.g 34),.raw (w0.g 35),.raw (w0.g 36),.raw (w0.g 37),.raw (w0.g 38),.raw (w0.g 39),.raw (w0.g 40),.raw (w0.g 41),.raw (w0.g 42),.raw (w0.g 43),.raw (w0.g 44),.raw (w0.g 45),.raw (w0.g 46),.raw (w0.g 47)]
def QJ2:List AV:=[.ptr 456 0 0,.ptr 504 0 0,.ptr 568 0 0,.ptr 464 0 0,.ptr 584 0 0]
def twR(w0:TwP):List (Nat×Blk):=
 [(584,.cellsR 0 31 [.fn (.func 103) QJ2]),(504,.cellsR 0 105 [.yld 497]),(464,.cellsR 0 96 [.nils]),(456,.cellsR 0 90 [.ptr 200 0 0]),(432,.cellsR 0 3 [vi w0.q]),(400,.cellsR 0 3 [vi w0.p]),(296,.cellsR 0 90 [.ptr 288 0 0])]++Qg.blk 0 d.ps
def twW(ls:LoopState)(pe:Option Code)(oo:List Tw)(d:Puz)(E:ECt)(w0:TwP)(ac body:Code)(u:Nat->Nat->Int)(l:List Lay)(a w c b:Nat)(f:Nat):List (Nat×Blk):=
 [(200,.cells 0 152 (KZ d++[.map 201,.slz a 0 l.length (.of 0)])),(201,.mp E.1 E.2),rwY a l,(568,.cells 0 114 [.slz w 0 d.ps.n (.of 0)]),rwU w d u,(497,.lp ls pe (twT d w0) #[31] ac body),(120,.cells 0 36 [.slz c 0 oo.length (.of 0)]),rwT c oo,bdZ d b f,(289,.mp E.1 E.2)]
def twS:List (Nat×AV):=[(0,.ptr 456 0 0),(1,.ptr 504 0 0),(2,.ptr 568 0 0),(3,.ptr 464 0 0),(4,.ptr 584 0 0)]
def H9(w0:TwP)(ac body:Code)(u:Nat->Nat->Int)(l:List Lay)(f:Nat):JSt:=⟨5,twS,twW .ready none w0.o d E w0 ac body u l 600 608 616 624 f++twR d w0,632⟩
def twU(w0:TwP)(ac body:Code)(u:Nat->Nat->Int)(l:List Lay)(f:Nat)(f':Nat):UC:=
 ⟨592,H9 d E w0 ac body u l f,λ_=>.bool false true,λm=>twW .ready none w0.o d E w0 ac body u l m (m+1) (m+2) (m+3) f'⟩
def twV(w0:TwP)(ac body:Code)(u:Nat->Nat->Int)(l:List Lay)(f:Nat)(f':Nat):UC:=
 ⟨592,H9 d E w0 ac body u l f,λ_=>.bool false false,λm=>twW .done (some (.exit 4)) w0.o2 d E w0 ac body u l m (m+1) (m+2) (m+3) f'⟩
def WC:List Nat:=[200,201,568,497,120,288,289]
def QJr(n:Nat)(p:Nat):List (Nat×AV):=twS++[(33,.int false .i64 n),(34,.int false .i64 p)]
def Qgw(n:Nat)(p:Nat)(tn:Int)(t:Nat):List (Nat×AV):=QJr n p++[(6,.int false .i64 p),(43,.int false .i64 tn),(44,.int false .i64 t)]
def GS(w0:TwP)(ac body:Code)(u:Nat->Nat->Int)(l:List Lay)(f:Nat)(p:Nat):JSt:=⟨101,QJr d.ps.n p,twW .ready none w0.o d E w0 ac body u l 640 648 656 664 f++twR d w0,672⟩
def Ho(w0:TwP)(ac body:Code)(u:Nat->Nat->Int)(l:List Lay)(f:Nat)(p:Nat)(tn:Int)(t:Nat):JSt:=⟨101,Qgw d.ps.n p tn t,twW .ready none w0.o d E w0 ac body u l 640 648 656 664 f++twR d w0,672⟩
def Gj(w0:TwP)(ac body:Code)(u:Nat->Nat->Int)(l:List Lay)(f:Nat):JSt:=⟨101,[],twW .ready none w0.o d E w0 ac body u l 640 648 656 664 f,672⟩
def QCX(w0:TwP)(ac body:Code)(u:Nat->Nat->Int)(l:List Lay)(f:Nat)(p:Nat):JSt:=⟨101,QJr d.ps.n p,twW .ready none w0.o d E w0 ac body u l 640 648 656 664 f++twR d w0,672⟩
def twF(w0:TwP)(ac body:Code)(u:Nat->Nat->Int)(l:List Lay)(f:Nat):JSt:=⟨101,[(5,.bool false false)],twW .done (some (.exit 4)) w0.o2 d E w0 ac body u l 640 648 656 664 f,672⟩
def QNr:Ex->List Nat
 | .normal=>[0,1,2,3,4,33,34]
 | .exit _=>[]
 | .ret=>[5]
def QHN:Ex->List Nat
 | .normal=>[0,1,2,3,4,33,34,6,43,44]
 | .exit _=>[0,1,2,3,4,33,34]
 | .ret=>[5]
def QAo(pb1 pb2:List Prop->Bool)(d:Puz)(E:ECt)(w0:TwP)(l:List Lay)(x:Lay)(v:Bool)(U:UC):Tab:=Qc (Qc QV 105 (KT pb1 (myU d E l x v))) 103 (KT pb2 U)
abbrev waN:List AV:=[.ptr 456 0 0,.ptr 504 0 0,.ptr 568 0 0,.ptr 464 0 0,.ptr 584 0 0]
abbrev HS(tn:Int):List AV:=(.nilp::.ptr 101 0 0::List.append (waN) ((vi (d.ps.n:Int)::wbJ p t tn)))
abbrev zC:Nat×Blk:=(456,.cellsR 0 90 [.ptr 200 0 0])
abbrev QGS:Nat×Blk:=(584,.cellsR 0 31 [.fn (Fn.func 103) (waN)])
abbrev vw:Nat×Blk:=(0,.frz (wae) d.ps.n λi=>QA.enc (d.ps.get i))
abbrev vz:Nat×Blk:=(296,.cellsR 0 90 [.ptr 288 0 0])
abbrev zS(w0:TwP):Nat×Blk:=(400,.cellsR 0 3 [vi (w0.p:Int)])
abbrev zR(w0:TwP):Nat×Blk:=(432,.cellsR 0 3 [vi (w0.q:Int)])
abbrev waX:List (Nat×Blk):=[(504,.cellsR 0 105 [.yld 497]),(464,.cellsR 0 96 [.nils])]
abbrev qu(d:Puz)(f:Nat)(l:List Lay)(u:Nat->Nat->Int)(w0:TwP):List (Nat×Blk):=((200,.cells 0 152 (List.append (waf d) ([.map 201,.slz 640 0 l.length cO])))::(201,.mp E.1 E.2)::(568,.cells 0 114 [.slz 648 0 d.ps.n cO])::(497,.lp LoopState.ready none (twT d w0) (Array.mk [31]) ac body)::(120,.cells 0 36 [.slz 656 0 w0.o.length cO])::(288,.cells 0 152 (.int false .i64 d.pK.length::vi d.pK.aK::vi d.pK.oK::vi d.pK.dK.lo::vi d.pK.dK.hi::vi d.wide::.int false .i64 d.high::List.append (wbS d) ([.slz 664 0 f cO])))::(289,.mp E.1 E.2)::zC::List.append (waX) ([QGS,(vw d),(640,.rowz true 49 kB l.length λi=>QA.enc (l.getD i (Lay.mk (0:Int) (0:Int)))),(648,.rowz true 4 [CK.bool] d.ps.n u),vz,(zS w0),(zR w0),(656,.rowz true 89 kB w0.o.length λi=>QA.enc (w0.o.getD i (Tw.mk (0:Int) (0:Int))))]))
abbrev QQq(d:Puz)(l:List Lay)(p:Nat)(t:Nat):List Prop:=([0=0,0=0,(p:Int)=(p:Int),(t:Int)=(t:Int)]++waa d++(((wcd l)++wag l++[E.1=E.1,E.2=E.2])++wad d))
abbrev was(w0:TwP):List Prop:=[w0.o.length<=w0.o.length,QB 2 w0.o.length (λi=>QA.enc (w0.o.getD i (Tw.mk (0:Int) (0:Int)))) λi=>QA.enc (w0.o.getD i (Tw.mk (0:Int) (0:Int)))]
abbrev wbM(w0:TwP):List Prop:=[(w0.q:Int)=(w0.q:Int),(w0.p:Int)=(w0.p:Int)]
abbrev QPt(d:Puz)(f:Nat)(l:List Lay)(l2:List Lay)(p:Nat)(t:Nat)(u:Nat->Nat->Int)(u2:Nat->Nat->Int)(w0:TwP):List Prop:=((wbN)++waa d++(([cO=cO,0=0,l.length+1=l2.length,cO=cO,E.1=E.1,E.2=E.2]++waY l l2 p t++(wbo d++[QB 1 d.ps.n (λi=>bif decide (i=p)then Ki [.bool true true] 0 (u ((p:Int).toNat+0))else u i) u2]))++wai++((([Array.mk [31]=Array.mk [31],ac=ac,body=body,w0.5 0=w0.5 0,0=0,0=0,0=0,0=0,w0.5 3=w0.5 3]++wcm++[w0.5 8=w0.5 8,w0.5 9=w0.5 9,w0.5 10=w0.5 10,w0.5 11=w0.5 11,w0.5 12=w0.5 12,w0.5 13=w0.5 13,w0.5 14=w0.5 14,w0.5 15=w0.5 15,w0.5 16=w0.5 16,w0.5 17=w0.5 17,w0.5 18=w0.5 18,w0.5 19=w0.5 19,w0.5 20=w0.5 20,(d.ps.n:Int)=(d.ps.n:Int),(w0.p:Int)=(w0.p:Int),w0.5 23=w0.5 23,w0.5 24=w0.5 24,(w0.p:Int)=(w0.p:Int),(w0.q:Int)=(w0.q:Int),true=true,(w0.q:Int)=(w0.q:Int),0=0,0=0])++wcg++[w0.5 31=w0.5 31,w0.5 32=w0.5 32,w0.5 33=w0.5 33,w0.5 34=w0.5 34,w0.5 35=w0.5 35,w0.5 36=w0.5 36,w0.5 37=w0.5 37,w0.5 38=w0.5 38,w0.5 39=w0.5 39,w0.5 40=w0.5 40,w0.5 41=w0.5 41,w0.5 42=w0.5 42,w0.5 43=w0.5 43,w0.5 44=w0.5 44,w0.5 45=w0.5 45,w0.5 46=w0.5 46,w0.5 47=w0.5 47,0=0,w0.o.length=w0.o.length,cO=cO])++was w0))++waa d++((([cO=cO,0=0,f=f,cO=cO,E.1=E.1,E.2=E.2,Fn.func 103=Fn.func 103]++wbN++[0=0,0=0])++wbM w0++[0=0,0=0])++wad d))
abbrev HR:Nat×Blk:=(200,.cells 0 152 (List.append (waf d) ([.map 201,.slz 984 0 (i64.wrap ((l2.length:Int)-1)).toNat cO])))
abbrev GQ:Nat×Blk:=(568,.cells 0 114 [.slz 985 0 d.ps.n cO])
abbrev QJ9(w0:TwP):Nat×Blk:=(120,.cells 0 36 [.slz 986 0 w0.o.length cO])
abbrev HQ:Nat×Blk:=(288,.cells 0 152 (List.append (waf d) ([.map 289,.slz 987 0 f' cO])))
abbrev H1:Nat×Blk:=(984,.rowz true 49 kB l2.length λi=>QA.enc (l2.getD i (Lay.mk (0:Int) (0:Int))))
abbrev GU:Nat×Blk:=(985,.rowz true 4 [CK.bool] d.ps.n λi=>bif decide (i=p)then Ki [.bool true false] 0 (u2 ((p:Int).toNat+0))else u2 i)
abbrev QHI(w0:TwP):Nat×Blk:=(986,.rowz true 89 kB w0.o.length λi=>QA.enc (w0.o.getD i (Tw.mk (0:Int) (0:Int))))
abbrev QP7:List AV:=(.ptr 2 0 0::.ptr 101 0 0::List.append (waN) ([vi (d.ps.n:Int),vi (p:Int)]))
theorem Qkt(pb1 pb2:List Prop->Bool)(d:Puz)(E:ECt)(w0:TwP)(ac body:Code)(u u2:Nat->Nat->Int)(l l2:List Lay)(v:Bool)(f:Nat)(p:Nat)(tn:Int)(t:Nat)(f':Nat)(g0:Nat->Value):exec (mkE prog (QAo pb1 pb2 d E w0 l ⟨p,t⟩ v (twU d E w0 ac body u2 l2 f f'))) (hnd (mkE prog (QAo pb1 pb2 d E w0 l ⟨p,t⟩ v (twU d E w0 ac body u2 l2 f f'))) 0) (QW (QI f103 0)) (JSt.inst (Ho d E w0 ac body u l f p tn t) g0) (Q5 WC QHN) = .br (decide ((t:Int)<tn)) (.need (true) (.br (!Qj (Rw.mk 0 λi=>Pt.mk (0:Int) (Lay.mk (0:Int) (0:Int))) (l.length:Int) (Lay.mk (p:Int) (t:Int))) (.leaf (.tup (HS d p t tn)) ((qu E ac body d f l u w0))) (.need (pb1 ((QQq E d l p t))) (.br (!v) (.leaf (.tup (HS d p t tn)) ((qu E ac body d f l u w0))) (.need (decide ((0:Int)<=(p:Int)/\(p:Int)<(d.ps.n:Int))&&decide (d.ps.n<=d.ps.n)) (.need (decide (p<d.ps.n)) (.need (decide (l.length<=l.length)&&(true&&decide ((l.length+1+(l.length+1) / 4+192)*16<=281474976710656/\l.length+1<=9223372036854775807))) (.need (pb2 ((QPt E ac body d f l l2 p t u u2 w0))) (.need (decide ((0:Int)<=i64.wrap ((l2.length:Int)-1)/\(i64.wrap ((l2.length:Int)-1)).toNat<=l2.length-0)) (.need (decide ((0:Int)<=(p:Int)/\(p:Int)<(d.ps.n:Int))&&decide (d.ps.n<=d.ps.n)) (.need (decide (p<d.ps.n)) (.br (false) (.leaf (.tup (wbR)) ([(HR d l2),(201,.mp E.1 E.2),(GQ d),(497,.lp LoopState.ready none (twT d w0) (Array.mk [31]) ac body),(QJ9 w0),(HQ d f'),(289,.mp E.1 E.2),(vw d),(H1 l2),(GU d p u2),vz,(zS w0),(zR w0),zC,(464,.cellsR 0 96 [.nils]),(QHI w0)])) (.leaf (.tup (HS d p t tn)) (((HR d l2)::(201,.mp E.1 E.2)::(GQ d)::(497,.lp LoopState.ready none (twT d w0) (Array.mk [31]) ac body)::(QJ9 w0)::(HQ d f')::(289,.mp E.1 E.2)::zC::List.append (waX) ([QGS,(vw d),(H1 l2),(GU d p u2),vz,(zS w0),(zR w0),(QHI w0)])))))))))))))))) (.leaf (.tup (QP7 d p)) ((qu E ac body d f l u w0))):=by kernel_rfl
abbrev QML(tn:Int):List AV:=(List.append (waN) ((vi (d.ps.n:Int)::wbT p t tn)))
abbrev wan(d:Puz)(w0:TwP):List Prop:=[w0.g 11=w0.g 11,w0.g 12=w0.g 12,w0.g 13=w0.g 13,w0.g 14=w0.g 14,w0.g 15=w0.g 15,w0.g 16=w0.g 16,w0.g 17=w0.g 17,w0.g 18=w0.g 18,w0.g 19=w0.g 19,w0.g 20=w0.g 20,(d.ps.n:Int)=(d.ps.n:Int),(w0.p:Int)=(w0.p:Int),w0.g 23=w0.g 23,w0.g 24=w0.g 24,(w0.p:Int)=(w0.p:Int),(w0.q:Int)=(w0.q:Int)]
abbrev wbf(w0:TwP):List Prop:=[w0.g 45=w0.g 45,w0.g 46=w0.g 46,w0.g 47=w0.g 47]
abbrev wbr(w0:TwP):List Prop:=[w0.g 31=w0.g 31,w0.g 32=w0.g 32,w0.g 33=w0.g 33,w0.g 34=w0.g 34,w0.g 35=w0.g 35,w0.g 36=w0.g 36,w0.g 37=w0.g 37,w0.g 38=w0.g 38,w0.g 39=w0.g 39,w0.g 40=w0.g 40,w0.g 41=w0.g 41,w0.g 42=w0.g 42,w0.g 43=w0.g 43,w0.g 44=w0.g 44]
abbrev QbT(d:Puz)(f:Nat)(l:List Lay)(p:Nat)(t:Nat)(t':Nat)(tn:Int)(u:Nat->Nat->Int)(w0:TwP):List Prop:=(((wbN)++waH d p++[tn=tn,i64.wrap ((t:Int)+1)=(t':Int)])++waa d++(([cO=cO,0=0]++wb4 E l)++wag l++((wbo d++[QB 1 d.ps.n u u])++wai++(([Array.mk [31]=Array.mk [(31:Tmp)],ac=ac,body=body,w0.g 0=w0.g 0,0=0,0=0,0=0,0=0,w0.g 3=w0.g 3]++wcm++[w0.g 8=w0.g 8,w0.g 9=w0.g 9,w0.g 10=w0.g 10])++wan d w0++((([true=true,(w0.q:Int)=(w0.q:Int)]++wb3++[0=0])++wbr w0)++wbf w0++[0=0,w0.o.length=w0.o.length,cO=cO,w0.o.length<=w0.o.length,QB 2 w0.o.length (λi=> QA.enc (w0.o.getD i (Tw.mk (0:Int) (0:Int)))) λi=>QA.enc (w0.o.getD i (Tw.mk (0:Int) (0:Int)))]))))++waa d++(([cO=cO,0=0,f=f,cO=cO,E.1=E.1,E.2=E.2,Fn.func 103=Fn.func (103:FuncId)]++wbN++[0=0,0=0,(w0.q:Int)=(w0.q:Int),(w0.p:Int)=(w0.p:Int),0=0,0=0])++wad d))
theorem QMn(w0:TwP)(ac body:Code)(u:Nat->Nat->Int)(l:List Lay)(f:Nat)(p:Nat)(tn:Int)(t t':Nat):QF 632 (QML d p t tn) ((qu E ac body d f l u w0)) (Ho d E w0 ac body u l f p tn t')=(some (QbT E ac body d f l p t t' tn u w0)):=by kernel_rfl
abbrev Wr:List Prop:=[0=0,0=0,0=0,0=0,0=0,0=0]
abbrev QCP:List Prop:=[0=0,0=0,0=0,0=0]
abbrev HB:List Prop:=(waa d++[cO=cO,0=0])
abbrev QQ9(d:Puz)(l:List Lay)(l2:List Lay)(p:Nat)(u2:Nat->Nat->Int)(u3:Nat->Nat->Int):List Prop:=([cO=cO]++waP E l l2++(wbo d++[QB 1 d.ps.n (λi=>bif decide (i=p)then Ki [.bool true false] 0 (u2 ((p:Int).toNat+0))else u2 i) u3]))
abbrev QLD(w0:TwP):List Prop:=[0=0,0=0,w0.g 8=w0.g 8,w0.g 9=w0.g 9]
abbrev wbg(w0:TwP):List Prop:=(wbr w0)
abbrev wap(w0:TwP):List Prop:=(wbg w0)
abbrev QJf(w0:TwP):List Prop:=([w0.g 10=w0.g 10]++wan d w0++(([true=true,(w0.q:Int)=(w0.q:Int)]++wb3++[0=0])++wap w0))
abbrev QUz(w0:TwP):List Prop:=((wbf w0++[0=0,w0.o.length=w0.o.length,cO=cO])++was w0)
abbrev QQP(w0:TwP):List Prop:=((wbM w0++[0=0,0=0])++wad d)
abbrev wbD(E:ECt):List Prop:=[E.1=E.1,E.2=E.2,Fn.func 103=Fn.func (103:FuncId)]
theorem QWc(w0:TwP)(ac body:Code)(u u2 u3:Nat->Nat->Int)(l l2:List Lay)(p:Nat)(tn:Int)(t t':Nat)(f':Nat):QF 632 (QML d p t tn) (((HR d l2)::(201,.mp E.1 E.2)::(GQ d)::(497,.lp LoopState.ready none (twT d w0) (Array.mk [31]) ac body)::(QJ9 w0)::(HQ d f')::(289,.mp E.1 E.2)::zC::List.append (waX) ([QGS,(vw d),(H1 l2),(GU d p u2),vz,(zS w0),(zR w0),(QHI w0)]))) (Ho d E w0 ac body u3 l f' p tn t')=(some (Wr++QCP++(waH d p++[tn=tn,i64.wrap ((t:Int)+1)=(t':Int)])++(HB d)++[(i64.wrap ((l2.length:Int)-1)).toNat=l.length]++(QQ9 E d l l2 p u2 u3)++(wai++[Array.mk [31]=Array.mk [(31:Tmp)],ac=ac,body=body,w0.g 0=w0.g 0])++QCP++[w0.g 3=w0.g 3]++Wr++(QLD w0)++(QJf d w0)++(QUz w0)++(HB d)++([f'=f',cO=cO]++wbD E)++Wr++Wr++(QQP d w0))):=by kernel_rfl
theorem QP0(w0:TwP)(ac body:Code)(u:Nat->Nat->Int)(l:List Lay)(f:Nat)(p:Nat):QF 632 (List.append (waN) ([vi (d.ps.n:Int),vi (p:Int)])) ((qu E ac body d f l u w0)) (QCX d E w0 ac body u l f p)=(some (Wr++QCP++[(d.ps.n:Int)=(d.ps.n:Int),(p:Int)=(p:Int)]++(HB d)++((wb4 E l)++wag l++((wbo d++[QB 1 d.ps.n u u])++wai++[Array.mk [31]=Array.mk [(31:Tmp)],ac=ac,body=body,w0.g 0=w0.g 0]))++QCP++[w0.g 3=w0.g 3]++Wr++(QLD w0)++(QJf d w0)++(QUz w0)++(HB d)++([f=f,cO=cO]++wbD E)++Wr++Wr++(QQP d w0))):=by kernel_rfl
abbrev QIb(w0:TwP):Nat×Blk:=(120,.cells 0 36 [.slz 986 0 w0.o2.length cO])
abbrev QKY(w0:TwP):Nat×Blk:=(986,.rowz true 89 kB w0.o2.length λi=>QA.enc (w0.o2.getD i (Tw.mk (0:Int) (0:Int))))
theorem Qac(pb1 pb2:List Prop->Bool)(d:Puz)(E:ECt)(w0:TwP)(ac body:Code)(u u2:Nat->Nat->Int)(l l2:List Lay)(v:Bool)(f:Nat)(p:Nat)(tn:Int)(t:Nat)(f':Nat)(g0:Nat->Value):exec (mkE prog (QAo pb1 pb2 d E w0 l ⟨p,t⟩ v (twV d E w0 ac body u2 l2 f f'))) (hnd (mkE prog (QAo pb1 pb2 d E w0 l ⟨p,t⟩ v (twV d E w0 ac body u2 l2 f f'))) 0) (QW (QI f103 0)) (JSt.inst (Ho d E w0 ac body u l f p tn t) g0) (Q5 WC QHN) = .br (decide ((t:Int)<tn)) (.need (true) (.br (!Qj (Rw.mk 0 λi=>Pt.mk (0:Int) (Lay.mk (0:Int) (0:Int))) (l.length:Int) (Lay.mk (p:Int) (t:Int))) (.leaf (.tup (HS d p t tn)) ((qu E ac body d f l u w0))) (.need (pb1 ((QQq E d l p t))) (.br (!v) (.leaf (.tup (HS d p t tn)) ((qu E ac body d f l u w0))) (.need (decide ((0:Int)<=(p:Int)/\(p:Int)<(d.ps.n:Int))&&decide (d.ps.n<=d.ps.n)) (.need (decide (p<d.ps.n)) (.need (decide (l.length<=l.length)&&(true&&decide ((l.length+1+(l.length+1) / 4+192)*16<=281474976710656/\l.length+1<=9223372036854775807))) (.need (pb2 ((QPt E ac body d f l l2 p t u u2 w0))) (.need (decide ((0:Int)<=i64.wrap ((l2.length:Int)-1)/\(i64.wrap ((l2.length:Int)-1)).toNat<=l2.length-0)) (.need (decide ((0:Int)<=(p:Int)/\(p:Int)<(d.ps.n:Int))&&decide (d.ps.n<=d.ps.n)) (.need (decide (p<d.ps.n)) (.br (true) (.leaf (.tup (wbR)) ([(HR d l2),(201,.mp E.1 E.2),(GQ d),(497,.lp LoopState.done (some (Code.exit 4)) (twT d w0) (Array.mk [31]) ac body), (QIb w0),(HQ d f'),(289,.mp E.1 E.2),(vw d),(H1 l2),(GU d p u2),vz,(zS w0),(zR w0),zC,(464,.cellsR 0 96 [.nils]),(QKY w0)])) (.leaf (.tup (HS d p t tn)) (((HR d l2)::(201,.mp E.1 E.2)::(GQ d)::(497,.lp LoopState.done (some (Code.exit 4)) (twT d w0) (Array.mk [31]) ac body)::(QIb w0)::(HQ d f')::(289,.mp E.1 E.2)::zC::List.append (waX) ([QGS,(vw d),(H1 l2),(GU d p u2),vz,(zS w0),(zR w0),(QKY w0)])))))))))))))))) (.leaf (.tup (QP7 d p)) ((qu E ac body d f l u w0))):=by kernel_rfl
abbrev wbl:List Prop:=[LoopState.done=LoopState.done,some (Code.exit 4)=some (Code.exit 4),Array.mk [31]=Array.mk [(31:Tmp)]]
abbrev wbE(w0:TwP):List Prop:=[w0.o2.length<=w0.o2.length,QB 2 w0.o2.length (λi=>QA.enc (w0.o2.getD i (Tw.mk (0:Int) (0:Int)))) λi=>QA.enc (w0.o2.getD i (Tw.mk (0:Int) (0:Int)))]
theorem QbA(w0:TwP)(ac body:Code)(u2 u3:Nat->Nat->Int)(l l2:List Lay)(p:Nat)(f':Nat):QF 632 [.bool true false] ([(HR d l2),(201,.mp E.1 E.2),(GQ d),(497,.lp LoopState.done (some (Code.exit 4)) (twT d w0) (Array.mk [31]) ac body),(QIb w0),(HQ d f'), (289,.mp E.1 E.2),(vw d),(H1 l2),(GU d p u2),vz,(zS w0),(zR w0),zC,(464,.cellsR 0 96 [.nils]),(QKY w0)]) (twF d E w0 ac body u3 l f')=(some ([false=false]++(HB d)++[(i64.wrap ((l2.length:Int)-1)).toNat=l.length]++(QQ9 E d l l2 p u2 u3)++(wbl++[ac=ac,body=body,w0.g 0=w0.g 0])++QCP++[w0.g 3=w0.g 3]++Wr++(QLD w0)++(QJf d w0)++(wbf w0++([0=0,w0.o2.length=w0.o2.length,cO=cO]++wbE w0))++(HB d)++[f'=f',cO=cO,E.1=E.1,E.2=E.2])):=by kernel_rfl
def jT(pb:List Prop->Bool)(d:Puz)(n:Nat)(a:Int):Tab:=Qc QV 52 (KT pb (tnU d n a))
abbrev QEv(P:Program)(pb:List Prop->Bool)(d:Puz)(E:ECt)(w0:TwP)(ac body:Code)(u:Nat->Nat->Int)(l:List Lay)(f:Nat)(p:Nat)(X:List (Prop×Ex×JSt)):Hnd:={ hnd (mkE P (jT pb d l.length p)) 0 with loop:=λ_=>Ks (p<d.ps.n/\u p 0=0) (KF 632 WC (Ho d E w0 ac body u l f p (tnV d p) (0:Nat)) X) }
abbrev QN7:List AV:=(.nilp::.ptr 101 0 0::List.append (waN) ([vi (d.ps.n:Int),vi (i64.wrap ((p:Int)+1))]))
abbrev YQ:Nat×Blk:=(200,.cells 0 152 (List.append (waf d) ([.map 201,.slz 640 0 l.length cO])))
abbrev Yl:Nat×Blk:=(568,.cells 0 114 [.slz 648 0 d.ps.n cO])
abbrev QAP(d:Puz)(w0:TwP):Nat×Blk:=(497,.lp LoopState.ready none (twT d w0) (Array.mk [31]) ac body)
abbrev qZ(w0:TwP):Nat×Blk:=(120,.cells 0 36 [.slz 656 0 w0.o.length cO])
abbrev QEq:Nat×Blk:=(288,.cells 0 152 (List.append (waf d) ([.map 289,.slz 664 0 f cO])))
abbrev zz:Nat×Blk:=(456,.cellsR 0 90 [.ptr 200 0 0])
abbrev QEO:Nat×Blk:=(584,.cellsR 0 31 [.fn (Fn.func 103) (waN)])
abbrev Gm:Nat×Blk:=(0,.frz (wae) d.ps.n λi=>QA.enc (d.ps.get i))
abbrev YT:Nat×Blk:=(640,.rowz true 49 kB l.length λi=>QA.enc (l.getD i (Lay.mk (0:Int) (0:Int))))
abbrev HN:Nat×Blk:=(296,.cellsR 0 90 [.ptr 288 0 0])
abbrev zy(w0:TwP):Nat×Blk:=(400,.cellsR 0 3 [vi (w0.p:Int)])
abbrev GZ(w0:TwP):Nat×Blk:=(432,.cellsR 0 3 [vi (w0.q:Int)])
abbrev jH(w0:TwP):Nat×Blk:=(656,.rowz true 89 kB w0.o.length λi=>QA.enc (w0.o.getD i (Tw.mk (0:Int) (0:Int))))
abbrev jO:Nat×Blk:=(288,.cells 0 152 (List.append (waf d) ([.map 289,.slz 664 0 f' cO])))
abbrev QEk(w0:TwP):Nat×Blk:=(120,.cells 0 36 [.slz 656 0 w0.o2.length cO])
abbrev QC8(w0:TwP):Nat×Blk:=(656,.rowz true 89 kB w0.o2.length λi=>QA.enc (w0.o2.getD i (Tw.mk (0:Int) (0:Int))))
theorem QVC(pb:List Prop->Bool)(d:Puz)(E:ECt)(w0:TwP)(ac body:Code)(u u':Nat->Nat->Int)(l:List Lay)(f:Nat)(p:Nat)(A B:Prop)(f':Nat)(g0:Nat->Value):exec (mkE prog (jT pb d l.length p)) (QEv prog pb d E w0 ac body u l f p [(A,.exit 2,QCX d E w0 ac body u' l f' p),(B,.ret,twF d E w0 ac body u' l f')]) (QI f103 0) (JSt.inst (GS d E w0 ac body u l f p) g0) (Q5 WC QNr) = .br (decide ((p:Int)<(d.ps.n:Int))) (.need (decide ((0:Int)<=(p:Int)/\(p:Int)<(d.ps.n:Int))&&decide (d.ps.n<=d.ps.n)) (.need (decide (p<d.ps.n)) (.br (decide (u ((p:Int).toNat+0) 0=1)) (.leaf (.tup (QN7 d p)) (((YQ d l)::(201,.mp E.1 E.2)::(Yl d)::(QAP ac body d w0)::(qZ w0)::(QEq d f)::(289,.mp E.1 E.2)::zz::List.append (waX) ([QEO,(Gm d),(YT l),(648,.rowz true 4 [CK.bool] d.ps.n u),HN,(zy w0),(GZ w0),(jH w0)])))) (.need (pb (([0=0,0=0,(p:Int)=(p:Int)]++waa d++((wcd l)++wad d)))) (.ak [p<d.ps.n/\u p 0=0] (.ak (rz 10) (.ak ((waH d p++[tnV d (p:Int)=tnV d (p:Int),(0:Int)=0])++waa d++(([cO=cO,0=0]++wb4 E l)++wag l++((wbo d++[QB 1 d.ps.n u u])++wai++[Array.mk [(31:Tmp)]=Array.mk [(31:Tmp)],ac=ac,body=body,w0.g 0=w0.g 0,0=0,0=0,0=0,0=0,w0.g 3=w0.g 3]))) (.ak (rz 8) (.ak (([w0.g 8=w0.g 8,w0.g 9=w0.g 9,w0.g 10=w0.g 10]++wan d w0++(([true=true,(w0.q:Int)=(w0.q:Int)]++wb3++[0=0])++wap w0++((wbf w0++[0=0,w0.o.length=w0.o.length,cO=cO])++was w0)))++waa d++[cO=cO,0=0,f=f,cO=cO,E.1=E.1,E.2=E.2,Fn.func (103:FuncId)=Fn.func (103:FuncId)]) (.ak (rz 12) (.ak ((wbM w0++[0=0,0=0])++wad d) (.both (.asm (A) (.all (λ(g0:Nat -> Value)=>.leaf (.tup (QN7 d p)) (((YQ d l)::(201,.mp E.1 E.2)::(Yl d)::(QAP ac body d w0)::(qZ w0)::(jO d f')::(289,.mp E.1 E.2)::zz::List.append (waX) ([QEO,(Gm d),(YT l),(648,.rowz true 4 [CK.bool] d.ps.n u'),HN,(zy w0),(GZ w0),(jH w0)])))))) (.asm (B) (.all (λ(g1:Nat -> Value)=>.leaf (.tup [.nili,.ptr 101 0 0,.bool false false]) ([(YQ d l),(201,.mp E.1 E.2),(Yl d),(497,.lp LoopState.done (some (Code.exit 4)) (twT d w0) (Array.mk [31]) ac body),(QEk w0),(jO d f'),(289,.mp E.1 E.2),(YT l),(648,.rowz true 4 [CK.bool] d.ps.n u'),(QC8 w0)])))))))))))))))) (.leaf (.tup [.ptr 0 0 0,.ptr 101 0 0]) ([(YQ d l),(201,.mp E.1 E.2),(Yl d),(QAP ac body d w0),(qZ w0),(QEq d f),(289,.mp E.1 E.2),(Gm d),(YT l),(648,.rowz true 4 [CK.bool] d.ps.n u),HN,(zy w0),(GZ w0),zz,(464,.cellsR 0 96 [.nils]),(jH w0)])):=by kernel_rfl
abbrev QNS:List AV:=(List.append (waN) ([vi (d.ps.n:Int),vi (i64.wrap ((p:Int)+1))]))
abbrev Xl:List Prop:=[0=0,0=0,0=0,0=0,0=0]
abbrev YH:List Prop:=(waa d++[cO=cO,0=0])
abbrev Hm(d:Puz)(l:List Lay):List Prop:=((wb4 E l)++wag l++(wbo d))
abbrev QHt:List Prop:=(wai++[Array.mk [31]=Array.mk [(31:Tmp)],ac=ac])
abbrev zu(w0:TwP):List Prop:=[w0.g 0=w0.g 0,0=0,0=0,0=0,0=0,w0.g 3=w0.g 3]
abbrev QAL(w0:TwP):List Prop:=[0=0,0=0,0=0,w0.g 8=w0.g 8,w0.g 9=w0.g 9]
abbrev Hg(w0:TwP):List Prop:=([w0.g 10=w0.g 10]++wan d w0++(([true=true,(w0.q:Int)=(w0.q:Int)]++wb3++[0=0])++wap w0))
abbrev QC3(w0:TwP):List Prop:=((wbf w0++[0=0,w0.o.length=w0.o.length,cO=cO])++was w0)
abbrev QSb(w0:TwP):List Prop:=(([0=0,0=0]++wbM w0++[0=0,0=0])++wad d)
theorem QPR(w0:TwP)(ac body:Code)(u:Nat->Nat->Int)(l:List Lay)(f:Nat)(p p':Nat):QF 632 (QNS d p) (((YQ d l)::(201,.mp E.1 E.2)::(Yl d)::(QAP ac body d w0)::(qZ w0)::(QEq d f)::(289,.mp E.1 E.2)::zz::List.append (waX) ([QEO,(Gm d),(YT l),(648,.rowz true 4 [CK.bool] d.ps.n u),HN,(zy w0),(GZ w0),(jH w0)]))) (GS d E w0 ac body u l f p')=(some (Xl ++ Xl++[(d.ps.n:Int)=(d.ps.n:Int),i64.wrap ((p:Int)+1)=(p':Int)]++(YH d)++(Hm E d l)++[QB 1 d.ps.n u u]++(QHt ac)++[body=body] ++ (zu w0)++Xl++(QAL w0)++(Hg d w0)++(QC3 w0)++(YH d)++([f=f,cO=cO]++wbD E)++Xl ++ Xl++(QSb d w0))):=by kernel_rfl
theorem QhT(w0:TwP)(ac body:Code)(u':Nat->Nat->Int)(l:List Lay)(p p':Nat)(f':Nat):QF 632 (QNS d p) (((YQ d l)::(201,.mp E.1 E.2)::(Yl d)::(QAP ac body d w0)::(qZ w0)::(jO d f')::(289,.mp E.1 E.2)::zz::List.append (waX) ([QEO,(Gm d),(YT l),(648,.rowz true 4 [CK.bool] d.ps.n u'),HN,(zy w0),(GZ w0),(jH w0)]))) (GS d E w0 ac body u' l f' p')=(some (Xl ++ Xl++[(d.ps.n:Int)=(d.ps.n:Int),i64.wrap ((p:Int)+1)=(p':Int)]++(YH d)++(Hm E d l)++[QB 1 d.ps.n u' u']++(QHt ac)++[body=body] ++ (zu w0)++Xl++(QAL w0)++(Hg d w0)++(QC3 w0)++(YH d)++([f'=f',cO=cO]++wbD E) ++ Xl++Xl++(QSb d w0))):=by kernel_rfl
abbrev QSm(w0:TwP):List Prop:=(wbf w0++([0=0,w0.o2.length=w0.o2.length,cO=cO]++wbE w0))
theorem Qez(w0:TwP)(ac body:Code)(u':Nat->Nat->Int)(l:List Lay)(f':Nat):QF 632 [.bool false false] ([(YQ d l),(201,.mp E.1 E.2),(Yl d),(497,.lp LoopState.done (some (Code.exit 4)) (twT d w0) (Array.mk [31]) ac body),(QEk w0),(jO d f'), (289,.mp E.1 E.2),(YT l),(648,.rowz true 4 [CK.bool] d.ps.n u'),(QC8 w0)]) (twF d E w0 ac body u' l f')=(some ([false=false]++(YH d)++(Hm E d l)++([QB 1 d.ps.n u' u']++wbl++[ac=ac,body=body])++(zu w0)++Xl++(QAL w0)++(Hg d w0)++(QSm w0)++(YH d)++[f'=f',cO=cO,E.1=E.1,E.2=E.2])):=by kernel_rfl
theorem QWH(w0:TwP)(ac body:Code)(u:Nat->Nat->Int)(l:List Lay)(f:Nat):QF 632 [] ([(YQ d l),(201,.mp E.1 E.2),(Yl d),(QAP ac body d w0),(qZ w0),(QEq d f),(289,.mp E.1 E.2),(Gm d),(YT l),(648,.rowz true 4 [CK.bool] d.ps.n u), HN,(zy w0),(GZ w0),zz,(464,.cellsR 0 96 [.nils]),(jH w0)]) (Gj d E w0 ac body u l f)=(some ((YH d)++(Hm E d l)++[QB 1 d.ps.n u u]++(QHt ac)++[body=body]++(zu w0)++Xl++(QAL w0)++(Hg d w0)++(QC3 w0)++(YH d)++[f=f,cO=cO,E.1=E.1,E.2=E.2])):=by kernel_rfl
abbrev twX(P:Program)(J:JSt)(X:List (Prop×Ex×JSt)):Hnd:={ hnd (mkE P QV) 0 with loop:=λ_=>KF 632 WC J X }
abbrev QTl(w0:TwP):Nat×Blk:=(497,.lp LoopState.done (some (Code.exit 4)) (twT d w0) (Array.mk [31]) (KE (QW (QI f21 0))).1 (KE (QW (QI f21 0))).2)
theorem QTZ(w0:TwP)(u u':Nat->Nat->Int)(l:List Lay)(f:Nat)(A B:Prop)(f':Nat):(Vv (mkE prog QV) (twX prog (GS d E w0 (KE (QW (QI f21 0))).1 (KE (QW (QI f21 0))).2 u l f 0) [(A,.exit 0,Gj d E w0 (KE
  (QW (QI f21 0))).1 (KE (QW (QI f21 0))).2 u' l f'),(B,.ret,twF d E w0 (KE (QW (QI f21 0))).1 (KE (QW (QI f21 0))).2
  u' l f')]) f103 QJ2 (H9 d E w0 (KE (QW (QI f21 0))).1 (KE (QW (QI f21 0))).2 u l f).hp 632 λv h _=>Z4 WC v h) = .br ((l.length
  : Int) == (d.ps.n : Int)) (.fail ("yield")) (.ak (rz 9) (.ak [0 =
  0,(d.ps.n:Int)=(d.ps.n:Int),(0:Int)=0,d.pK.length=d.pK.length,d.pK.aK=d.pK.aK,d.pK.oK=d.pK.oK] (.ask
  (d.pK.dK.lo=d.pK.dK.lo) (.ak [d.pK.dK.hi=d.pK.dK.hi,d.wide=d.wide,d.high=d.high,d.turn=d.turn,0=0,d.ps.n =
  d.ps.n,Cap.of 0=Cap.of 0,0=0,l.length=l.length,Cap.of 0=Cap.of 0,E.1=E.1,E.2=E.2,l.length<=l.length] (.ask
  (QB 2 l.length (λi=>QA.enc (l.getD i (Lay.mk (0:Int) (0:Int)))) λi=>QA.enc (l.getD i (Lay.mk (0:Int) (0:Int)))) (.ak [0=0,d.ps.n=d.ps.n] (.ask
  (Cap.of 0=Cap.of 0) (.ak [d.ps.n<=d.ps.n,QB 1 d.ps.n u u,LoopState.ready=LoopState.ready,(none:Option Code)=none,Array.mk [(31:Tmp)]
  = Array.mk [(31:Tmp)],(KE (QW (QI f21 0))).1=(KE (QW (QI f21 0))).1,(KE (QW (QI f21 0))).2=(KE (QW
  (QI f21 0))).2,w0.g 0=w0.g 0,0=0,0=0,0=0,0=0,w0.g 3=w0.g 3,0=0,0=0,0=0,0 =
  0,0=0,0=0,0=0,0=0,w0.g 8=w0.g 8,w0.g 9=w0.g 9,w0.g 10=w0.g 10,w0.g 11=w0.g 11,w0.g 12=w0.g
  12,w0.g 13=w0.g 13,w0.g 14=w0.g 14,w0.g 15=w0.g 15,w0.g 16=w0.g 16,w0.g 17=w0.g 17,w0.g 18=w0.g 18,w0.g 19=w0.g
  19,w0.g 20=w0.g 20,(d.ps.n:Int)=(d.ps.n:Int),(w0.p:Int)=(w0.p:Int),w0.g 23=w0.g 23,w0.g 24=w0.g 24,(w0.p:Int) =
  (w0.p:Int),(w0.q:Int)=(w0.q:Int),true=true,(w0.q:Int)=(w0.q:Int),0=0,0=0,Fn.func (102:FuncId)=Fn.func (102 :
  FuncId),0=0,0=0,0=0,0=0,w0.g 31=w0.g 31,w0.g 32=w0.g 32,w0.g 33=w0.g 33,w0.g 34=w0.g 34,w0.g
  35=w0.g 35,w0.g 36=w0.g 36,w0.g 37=w0.g 37,w0.g 38=w0.g 38,w0.g 39=w0.g 39,w0.g 40=w0.g 40,w0.g 41=w0.g 41,w0.g
  42=w0.g 42,w0.g 43=w0.g 43,w0.g 44=w0.g 44,w0.g 45=w0.g 45,w0.g 46=w0.g 46,w0.g 47=w0.g 47,0=0,w0.o.length =
  w0.o.length,Cap.of 0=Cap.of 0,w0.o.length<=w0.o.length,QB 2 w0.o.length (λi=>QA.enc (w0.o.getD i (Tw.mk (0:Int) (0:Int)))) λi=>
  QA.enc (w0.o.getD i (Tw.mk (0:Int) (0:Int))),d.pK.length=d.pK.length,d.pK.aK=d.pK.aK,d.pK.oK=d.pK.oK] (.ask
  (d.pK.dK.lo=d.pK.dK.lo) (.ask (d.pK.dK.hi=d.pK.dK.hi) (.ask (d.wide=d.wide) (.ask (d.high=d.high) (.ask (d.turn=d.turn) (.ask (0=0) (.ask (d.ps.n =
  d.ps.n) (.ask (Cap.of 0=Cap.of 0) (.ask (0=0) (.ask (f=f) (.ask (Cap.of 0=Cap.of 0) (.ask (E.1=E.1) (.ask (E.2=E.2) (.ask (Fn.func (103:FuncId)=Fn.func (103 :
  FuncId)) (.ask (0=0) (.ask (0=0) (.ask (0=0) (.ask (0=0) (.ask (0=0) (.ask (0=0) (.ask (0=0) (.ask (0=0) (.ask (0=0) (.ask (0=0) (.ask (0=0) (.ask (0=0)
  (.ak [(w0.q:Int)=(w0.q:Int),(w0.p:Int)=(w0.p:Int),0=0,0=0,d.ps.n<=d.ps.n,QB 28 d.ps.n (λi=>QA.enc (d.ps.get i))
  λi=>QA.enc (d.ps.get i)] (.both (.asm (A) (.all (λ(g0:Nat->Value)=>.leaf (.bool true true) ([(YQ d l),(201,.mp E.1 E.2),(Yl d),(497,.lp LoopState.ready none
  (twT d w0) (Array.mk [31]) (KE (QW (QI f21 0))).1 (KE (QW (QI f21 0))).2),(qZ w0),(jO d f'),(289,.mp E.1 E.2),(YT l),(648,.rowz true 4
  [CK.bool] d.ps.n u'),(jH w0)])))) (.asm (B) (.all (λ(g1:Nat->Value)=>.leaf (.bool false false) ([(YQ d l),(201,.mp E.1 E.2),(Yl d),(QTl d w0),(QEk w0),(jO
  d f'),(289,.mp E.1 E.2),(YT l),(648,.rowz true 4 [CK.bool] d.ps.n u'),(QC8
  w0)])))))))))))))))))))))))))))))))))))))))):=by kernel_rfl
abbrev wba:List Prop:=[(KE (QW (QI f21 0))).1=(KE (QW (QI f21 0))).1,(KE (QW (QI f21 0))).2=(KE (QW (QI f21 0))).2]
theorem QdM(w0:TwP)(u u':Nat->Nat->Int)(l:List Lay)(f:Nat)(f':Nat):QF 632 [(.bool true true)] ([(YQ d l),(201,.mp E.1 E.2),(Yl d),(497,.lp LoopState.ready none (twT d w0) (Array.mk [31]) (KE (QW (QI f21 0))).1 (KE (QW (QI f21 0))).2),(qZ w0),(jO d f'),(289,.mp E.1 E.2),(YT l),(648,.rowz true 4 [CK.bool] d.ps.n u'),(jH w0)]) (KX (twU d E w0 (KE (QW (QI f21 0))).1 (KE (QW (QI f21 0))).2 u l f f'))=(some ([true=true]++(YH d)++(Hm E d l)++([QB 1 d.ps.n u' u]++wai++([Array.mk [31]=Array.mk [(31:Tmp)]]++wba))++(zu w0)++Xl++(QAL w0)++(Hg d w0)++(QC3 w0)++(YH d)++[f'=f',cO=cO,E.1=E.1,E.2=E.2])):=by kernel_rfl
theorem Qd2(w0:TwP)(u u':Nat->Nat->Int)(l:List Lay)(f:Nat)(f':Nat):QF 632 [(.bool false false)] ([(YQ d l),(201,.mp E.1 E.2),(Yl d),(QTl d w0),(QEk w0),(jO d f'),(289,.mp E.1 E.2),(YT l),(648,.rowz true 4 [CK.bool] d.ps.n u'),(QC8 w0)]) (KX (twV d E w0 (KE (QW (QI f21 0))).1 (KE (QW (QI f21 0))).2 u l f f'))=(some ([false=false]++(YH d)++(Hm E d l) ++ (([QB 1 d.ps.n u' u]++wbl)++wba)++(zu w0)++Xl++(QAL w0)++(Hg d w0) ++ (QSm w0)++(YH d)++[f'=f',cO=cO,E.1=E.1,E.2=E.2])):=by kernel_rfl
