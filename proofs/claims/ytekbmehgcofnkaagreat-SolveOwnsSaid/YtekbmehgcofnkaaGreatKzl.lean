/- - -/
import Derived.Test.YtekbmehgcofnkaaGreatKzk
import Derived.Shelf.SlSortCmp.NoneTotal
set_option linter.all false
noncomputable section
open Go.Proofs.Tryz
open Go.IntKind (i64)
set_option maxRecDepth 100000
namespace Go.Proofs.YtekbmehgcofnkaaGreat
open Go Go.RowKit Go.Lib Go.Shelf Go.Sort Go.SX Go.SX.Told
instance : Inhabited Tw := ⟨⟨0,0⟩⟩
def K4(x:Tw):List Value:=[.int .i64 x.a,.int .i64 x.b]
def Yd(g:Nat->Nat->Int)(i:Nat):Tw:=⟨g i 0,g i 1⟩
def Jj(l:List Tw):List Tw:=l.mergeSort λx y=>!(ltOf Jh) y x
def YR(n:Nat)(g:Nat->Nat->Int)(i:Nat):Nat->Int:=QA.enc ((Jj ((List.range n).map (Yd g))).getD i ⟨0,0⟩)
def ksT:List CK:=[.int .i64,.int .i64]
theorem Xz(x y:Tw):Jh x y<0↔x.a<y.a∨(x.a=y.a/\x.b<y.b):=by
 unfold Jh;simp only[QRW,QQh,QRH]
theorem QMI:SWO (ltOf Jh) where
 irrefl x:=by simp only[ltOf,decide_eq_false_iff_not,Xz];omega
 trans x y z h1 h2:=by simp only[ltOf,qdE,Xz]at *;omega
 ntrans x y z h1 h2:=by simp only[ltOf,decide_eq_false_iff_not,Xz]at *;omega
theorem QNy(x y:Tw)(h1:(ltOf Jh) x y=false)(h2:(ltOf Jh) y x=false):x=y:=by
 simp only[ltOf,decide_eq_false_iff_not,Xz]at h1 h2;obtain⟨a,b⟩:=x;obtain⟨a',b'⟩:=y;simp only[Tw.mk.injEq]at *;omega
theorem QXX(blk off size:Nat)(w:World):CmpLays prog 65 #[] K4 2 Jh blk off size w:=by
 intro m os dk _ x y;generalize sortWorldK K4 2 w blk off m dk os=W;have h:=QUz.2 [Enc.enc x,Enc.enc y] 0 [] (λ_=>SX.Loc.none 0) W (λ_=>none) [] ⟨false,true,.int false .i64 (Jh x y),[]⟩ ⟨λ_ _ h=>(by cases h),λ_ _ h=>(by cases h),λ_ _ h=>(by cases h),λ_ _ _ _ h=>(by cases h)⟩ rfl rfl rfl rfl
 refine h.mono ?_;rintro e w' ⟨r',rfl,hp⟩;refine⟨rfl,QQe ?_⟩;have hf:=hp.fr;refine⟨hf.os,hf.tape,hf.output,hf.size,hf.drawn,λk hk _=>hf.block k hk ?_⟩;rintro⟨p,hp,_⟩;cases hp
theorem QKb(r:Nat->SX.Loc)(n:Nat)(g:Nat->Nat->Int):AV.denL r (Q6 n (QW ksT g)).flatten=((List.range n).map (Yd g)).flatMap K4:=by
 rw[Qn,Q6,<-List.flatMap_def,List.map_flatMap,List.flatMap_map];rfl
theorem Qau(r:Nat->SX.Loc)(n:Nat)(g:Nat->Nat->Int):AV.denL r (Q6 n (QW ksT (YR n g))).flatten=(Jj ((List.range n).map (Yd g))).flatMap K4:=by
 rw[QKb];congr 1;have hl:(Jj ((List.range n).map (Yd g))).length=n:=by unfold Jj;rw[List.length_mergeSort];simp
 apply List.ext_getElem
 .rw[hl];simp
 .intro i h1 h2;rw[List.getElem_map,List.getElem_range];exact(show Yd (YR n g) i=(Jj ((List.range n).map (Yd g))).getD i ⟨0,0⟩from rfl).trans (Xs h2)
variable {w:World}
theorem Qdv{b m:Nat}{os:Array Obj}{l l':List Tw}{rest:List Value}{ty:TypeId}(h:bk w b=some (.cells (l.flatMap K4++rest).toArray ty (0,0)))(hl:l.length=l'.length):
  bk (sortWorldK K4 2 w b 0 m l'.toArray os) b=some (.cells (l'.flatMap K4++rest).toArray ty (0,0))/\(∀ k,k<w.heap.size->k≠b->bk (sortWorldK K4 2 w b 0 m l'.toArray os) k=bk w k)/\w.heap.size<=(sortWorldK K4 2 w b 0 m l'.toArray os).heap.size:=by
 have hk:∀ x,(K4 x).length=2:=λ_=>rfl
 have hf:flatK K4 2 l'.toArray=(l'.flatMap K4).toArray:=by
  apply Array.ext';rw[QOH K4 2 hk]
 have hlen:(l.flatMap K4).length=(l'.flatMap K4).length:=by rw[W2 K4 2 hk,W2 K4 2 hk,hl]
 have hb:b<w.heap.size:=by
  unfold bk at h;exact(Array.getElem?_eq_some_iff.1 h).1
 unfold bk at h ⊢;unfold sortWorldK grow putRowK putRow mapBlock Sort.ahead;simp only[hf];refine⟨?_,λk hk1 hk2=>?_,by simp⟩
 .rw[Array.getElem?_append_left (by simpa using hb),Array.getElem?_modify,if_pos rfl,h]
  simp only[Option.map_some,onCells];rw[QMb _ _ _ hlen]
 .rw[Array.getElem?_append_left (by simpa using hk1),Array.getElem?_modify,if_neg (λe=>hk2 e.symm)]
theorem QT3{b:Nat}{l:List Tw}{rest:List Value}{ty:TypeId}(h:bk w b=some (.cells (l.flatMap K4++rest).toArray ty (0,0))):HoldsK K4 2 w b 0 l.toArray:=by
 have hk:∀ x,(K4 x).length=2:=λ_=>rfl;intro j hj;rw[size_flatK]at hj;have hj:j<l.length*2:=by simpa using hj
 have e:((flatK K4 2 l.toArray)[j]!)=(K4 l[j / 2]!)[j % 2]! := by
  rw[get_flatK K4 2 _ j (by simpa using hj)];simp
 refine⟨?_,?_⟩
 .rw[X7 h,Nat.zero_add,List.getElem?_append_left (by rw[W2 K4 2 hk];exact hj),QDB K4 2 hk l j hj,e]
  rfl
 .unfold World.frozen?;unfold bk at h;rw[h];simp
def QHK:FC:=λargs _ _=>match args with
 | [.slz id 0 n _,.fn (.func f) []]=>([id],λbs=>match Nat.beq f 65,bs with
  | true,[.rowz true ty [.int .i64,.int .i64] n' g]=>some ⟨false,decide (n=n')&&decide (n<4611686018427387904),.tup [],[(id,.rowz true ty [.int .i64,.int .i64] n (YR n g))]⟩
  | _,_=>none)
 | [.nils,.fn (.func f) []]=>([],λbs=>match Nat.beq f 65,bs with
  | true,[]=>some ⟨false,true,.tup [],[]⟩
  | _,_=>none)
 | _=>([],λ_=>none)
theorem QI5(l:List Tw):(Jj l).length=l.length:=by unfold Jj;rw[List.length_mergeSort]
theorem QVx:∀ w,(isAgg 89).run prog w = .ok true w:=Tryz.isAgg89
theorem QcW:∀ w,(Go.sizeOf 89).run prog w = .ok 2 w:=Tryz.sizeOf89
theorem Qbk:QR prog 107 QHK:=by
 have hnone:∀(p:Option Addr) (cap:Nat) (fv:Value) (w:World),Calls prog 107 #[.slice p 0 cap,fv] w λe w'=>e = .returned (.tuple #[])/\w'=w:=AnyF.slices_SortFunc_none Tryz.sortTw;refine⟨by kernel_rfl,λargs nid all r w lk blks eff hH _ hv he hp=>?_⟩
 unfold QHK at hv he;split at he<;>(try (cases he;done))
 rotate_left
 .rename_i f hx;simp only at he;split at he<;>(try (cases he;done))
  rename_i hf;have hf:f=65:=qnb hf;subst hf;simp only[qsI]at he;subst he;refine(hnone none 0 (.func (.func 65) #[] #[]) w).mono ?_;rintro e w' ⟨rfl,rfl⟩;exact⟨r,rfl,λ_ _=>rfl,λp hp=>(by cases hp),⟨rfl,rfl,rfl,qlr _,qlr _,λ_ _ _=>rfl⟩,λp hp=>(by cases hp),λp hp=>(by cases hp),λp hp=>(by cases hp)⟩
 rename_i id n c f hx;simp only at he;split at he<;>(try (cases he;done))
 rename_i ty n' g hf;have hf:f=65:=qnb hf;subst hf;simp only[qsI]at he;subst he;simp only[qbA,qdE]at hp;obtain⟨hn,hlt⟩:=hp;subst hn;have hlk:lk id=some (.rowz true ty [.int .i64,.int .i64] n g):=by simpa using hv
 have hlk:lk id=some (.rowz true ty ksT n g):=hlk;obtain⟨h0,h4,hfoot,hnil,hrow,hcells⟩:=(show Kh r id w ty ksT.length n (QW ksT g)from hH.rep _ _ hlk);have hout:=hH.out _ _ hlk;have hrow':∀ i,i<n->(QW ksT (YR n g) i).length=ksT.length/\JX (QW ksT (YR n g) i)=true:=λi _=>⟨V3 _ _ _,Jy _ _ _⟩;cases hN:(r id).nil with
 | true=>
  have hz:=hnil hN;subst hz;refine(hnone ((r id).base 0) ((r id).room (c.den (r id).cap)) (.func (.func 65) #[] #[]) w).mono ?_;rintro e w' ⟨rfl,rfl⟩;refine⟨r,rfl,λ_ _=>rfl,?_,⟨rfl,rfl,rfl,qlr _,qlr _,λ_ _ _=>rfl⟩,?_,?_,?_⟩
  .intro p hp;rw[List.mem_singleton.1 hp];exact⟨h0,h4,hfoot,hnil,λi hi=>absurd hi (Nat.not_lt_zero _),λq=>by rw[hN]at q;cases q⟩
  .intro p hp hin;rw[List.mem_singleton.1 hp]at hin;rw[hout]at hin;cases hin
  .intro p hp _ _ k hk;rw[List.mem_singleton.1 hp]at hk;rw[List.mem_singleton.1 hp];exact⟨_,hlk,hk⟩
  .intro p hp q _ hin;rw[List.mem_singleton.1 hp]at hin;rw[hout]at hin;cases hin
 | false=>
  obtain⟨hcap,rest,hrest,hbk⟩:=hcells hN;rw[QKb]at hbk
  have hb:(r id).blk<w.heap.size:=by
   unfold bk at hbk;exact(Array.getElem?_eq_some_iff.1 hbk).1
  have eg:∀ args w,(callFunc 65 args).run prog w = .ok (.enter 65 args) w:=enters_of func65 (by kernel_rfl) rfl
  have hd:((List.range n).map (Yd g)).toArray.size=n:=by simp
  have hcon:=AnyQ.slices_SortFunc Tryz.sortTw 2 QVx QcW K4 (λ_=>rfl) (λx v hv=>by simp[K4]at hv;rcases hv with rfl|rfl<;>rfl) Jh QMI 65 #[] (r id).blk 0 ((r id).room (c.den (r id).cap)) ((List.range n).map (Yd g)).toArray w eg (QXX _ _ _ _) (QT3 hbk) hb (by rw[hd];exact hlt)
  rw[hd]at hcon
  have ha:AV.denL r [.slz id 0 n c,.fn (.func 65) []]=[.slice (some ⟨(r id).blk,0,none⟩) n ((r id).room (c.den (r id).cap)),.func (.func 65) #[] #[]]:=by
   simp only[AV.denL,AV.den,Loc.base,hN,h0,Nat.zero_mul,Nat.add_zero]
  rw[ha];refine hcon.mono ?_;rintro e w' ⟨rfl,d',m,os,hperm,hsort,rfl⟩;have hu:=sorted_unique_holds QMI QNy ((List.range n).map (Yd g)).toArray d' (by rw[hd];exact hperm) (by rw[hd];exact hsort)
  have hd':d'=(Jj ((List.range n).map (Yd g))).toArray:=Array.ext' (by rw[hu];rfl)
  subst hd';obtain⟨w1,w2,w3⟩:=Qdv (m:=m) (os:=os) hbk (QI5 _).symm;refine⟨r,rfl,λ_ _=>rfl,?_,⟨rfl,rfl,rfl,w3,Nat.le_add_right _ _,λk hk hc=>w2 k hk λe=>hc ⟨_,List.mem_singleton.2 rfl,hout,_,hlk,(hfoot k).2 ⟨hN,e⟩⟩⟩,?_,?_,?_⟩
  .intro p hp;rw[List.mem_singleton.1 hp];refine⟨h0,h4,hfoot,hnil,hrow',λ_=>⟨hcap,rest,hrest,?_⟩⟩;show bk _ _=some (.cells (AV.denL r (Q6 n (QW ksT (YR n g))).flatten++rest).toArray ty (0,0));rw[Qau];exact w1
  .intro p hp hin;rw[List.mem_singleton.1 hp]at hin;rw[hout]at hin;cases hin
  .intro p hp _ _ k hk;rw[List.mem_singleton.1 hp]at hk;rw[List.mem_singleton.1 hp];exact⟨_,hlk,hk⟩
  .intro p hp q _ hin;rw[List.mem_singleton.1 hp]at hin;rw[hout]at hin;cases hin
def QRd:Tab:=Qa QS 107 QHK
theorem Qa4:Qc QRd:=Qb.add Qbk
end Go.Proofs.YtekbmehgcofnkaaGreat
namespace Go.SX
open Go Go.RowKit Go.Proofs.YtekbmehgcofnkaaGreat
def JSt.dfrs(J:JSt)(D:Nat):JSt:=⟨J.len,J.live,(D,.dfr)::J.hp,J.nid⟩
def jJ(D:Nat)(J:JSt):Bool:=J.live.all (λp=>p.2.all (λi=>i != D))&&(J.hp.all (λq=>q.1 != D&&q.2.all (λi=>i != D))&&decide (D<J.nid))
variable {w:World}
theorem Inv.subD{G:Ctx}{n0 D:Nat}{ls:List Nat}{st:St}{J:JSt}{a:Act}{r:Nat->Loc}{h':List (Nat×Blk)}(hI:Inv G st.tm.length r (QI st.tm) (look st.hp) a w)(hh:∀ id b,look h' id=some b->look st.hp id=some b)(hs:JM n0 ls st.tm.length (ls.map (QI st.tm)) h' J)(hG:G.n<=n0)(hD:G.n<=D)(hf:jJ D J=true):∃ g,Rep G J.nid ((J.dfrs D).inst g) a w:=by
 obtain⟨ps0,hsub,hall⟩:=hs.eqs;unfold QE at hsub;simp only at hsub;generalize Z9 n0 _ _ _ _=Q at hsub;split at hsub<;>(try (cases hsub;done))
 rename_i ps qs e1 e2 hck;simp only[qsI]at hsub;subst hsub;obtain⟨ha1,ha2⟩:=Ww.1 hall;simp only[qbA]at hck;obtain⟨hsc,hinj,hlow,hnd,_⟩:=hck;unfold qa at hsc;simp only[List.all_eq_true,qbA,qdE]at hsc;unfold jJ at hf;simp only[List.all_eq_true,qbA,qdE,bne_iff_ne,ne_eq]at hf;obtain⟨hf1,hf2,hf3⟩:=hf;have hz:ls.map (QI st.tm)=J.live.map (λp=>QI st.tm p.1):=by rw[<-hs.slots,List.map_map];rfl
 have hden:=eqL_den (hJ:=J.hp) r _ _ _ e1 ha1;rw[hz]at hden;have hsame:=QFK hden
 have hget:∀ t,QI ((J.dfrs D).inst λt=>a.tmps.getD t undef).tm t=if t<J.len then (match lkS J.live t with|some v=>v|none => .raw (a.tmps.getD t undef))else .tup []:=by
  intro t;have:=QAU (λt=>a.tmps.getD t undef) J.live J.len 0 t;rw[Nat.zero_add]at this;exact this
 have hblk:∀ id b,look J.hp id=some b->(QM (Qv Q J.hp r) id w b/\∀ k,¬ Qg (Qv Q J.hp r) id b k) ∨
   ∃ x b',K1 Q id=some x/\x.c ≠ .ghost/\look st.hp x.s=some b'/\QM (Qv Q J.hp r) id w b/\(∀ k,Qg (Qv Q J.hp r) id b k->Qg r x.s b' k)/\(b.own=true->b'.own=true):=by
  intro id b hb;rcases QCq e2 ha2 _ (Q5 hb)with ⟨x,h1,h2,q1,h3,h4⟩|⟨x,b',h1,h2,h3,q1,h4,h5⟩
  .refine .inl (QLY h3 h4 ?_);unfold Qv;rw[h1];obtain⟨_,s,c⟩:=x;simp only at h2;subst h2;simp only;rw[hb]
  .have:=QKK (hJ:=J.hp) (r:=r) (w:=w) (x:=x) h1 h4 h5 (hI.rep _ _ (hh _ _ h3));exact .inr ⟨x,b',h1,h2,hh _ _ h3,this.1,this.2.1,this.2.2⟩
 obtain⟨mf,hmf⟩:∃ m:Nat->Prop,∀ k,m k↔∃ id,G.n<=id/\look st.hp id=some .dfr/\(r id).foot k:=⟨_,λ_=>Iff.rfl⟩;let r2:Nat->Loc:=λi=>if i=D then ⟨0,0,0,0,false,.none,mf⟩else Qv Q J.hp r i
 have hr2:∀ i,i≠D->r2 i=Qv Q J.hp r i:=λi hi=>if_neg hi;have hrD:(r2 D).foot=mf:=by show(if D=D then _ else _:Loc).foot=mf;rw[if_pos rfl]
 have hcong:∀ i,(i != D)=true->Qv Q J.hp r i=r2 i:=λi hi=>(hr2 i (by simpa using hi)).symm
 have hlk:∀ id b,look (J.dfrs D).hp id=some b->(id=D/\b = .dfr)∨(id≠D/\look J.hp id=some b/\b.all (λi=>i != D)=true):=by
  intro id b hb;simp only[JSt.dfrs,Ki]at hb;split at hb
  .rename_i he;simp only[Blk.live,if_true,qsI]at hb
   exact .inl ⟨by have : D = id := by simpa using he
                  exact this.symm,hb.symm⟩
  .rename_i he;exact .inr ⟨λe=>he (by simp[e]),hb,(hf2 _ (Q5 hb)).2⟩
 have hfoot:∀ id b k,id≠D->(Qg r2 id b k↔Qg (Qv Q J.hp r) id b k):=λid b k hid=>by unfold Qg;rw[hr2 id hid]
 have hmk:∀ id b k,look J.hp id=some b->b.own=true->Qg (Qv Q J.hp r) id b k->¬ mf k:=by
  intro id b k hb ho hk hm;obtain⟨id',_,h2,h3⟩:=(hmf k).1 hm;rcases hblk id b hb with h1|⟨x,c,_,_,g3,_,g4,g5⟩
  .exact h1.2 k hk
  .refine hI.sep _ _ c _ g3 h2 (λe=>?_) (g5 ho) k (g4 k hk) h3;rw[e,h2]at g3;simp only[qsI]at g3;have:=g5 ho;rw[<-g3]at this;cases this
 have hrep:∀ id b,look (J.dfrs D).hp id=some b->QM r2 id w b:=by
  intro id b hb;rcases hlk id b hb with ⟨rfl,rfl⟩|⟨h1,h2,h3⟩
  .intro k hk;rw[hrD]at hk;obtain⟨id',_,q2,q3⟩:=(hmf k).1 hk;exact hI.rep id' _ q2 k q3
  .have hb0:QM (Qv Q J.hp r) id w b:=by
    rcases hblk id b h2 with q|⟨_,_,_,_,_,q,_⟩
    .exact q.1
    .exact q
   exact hb0.keep hcong (hr2 id h1).symm (qlr _) h3 λ_ _ _=>rfl
 refine⟨λt=>a.tmps.getD t undef,⟨r2,?_⟩,?_⟩
 .refine⟨?_,?_,λt=>?_,hrep,λid b hb=>Vt hb,λid id' b b' hb hb' hne ho k hk hk'=>?_,λid hid=>?_,hI.fr,λid b hb ho k hk=>?_⟩
  .rw[hI.size,hs.len];exact(QDu _ _ _ _).symm
  .obtain⟨bs,d1,d2,d3⟩:=hI.defers;refine⟨bs,d1,d2,λb hb=>?_⟩;obtain⟨q0,id,q1,q2,q3⟩:=d3 b hb;refine⟨q0,D,hD,by simp[JSt.inst,JSt.dfrs,Ki,Blk.live],?_⟩
   rw[hrD];exact(hmf b).2 ⟨id,q1,q2,q3⟩
  .rw[hget];split
   .split
    .rename_i v hv;rw[hI.tm t];refine(hsame _ (jP hv)).trans (V9 hcong _ ?_);exact hf1 _ (jP hv)
    .rfl
   .rename_i hlt;rw[hI.tm t];have:QI st.tm t = .tup []:=by unfold QI;rw[List.getElem?_eq_none (by rw[hs.len];omega)];rfl
    rw[this];rfl
  .rcases hlk id b hb with ⟨rfl,rfl⟩|⟨h1,h2,h3⟩
   .cases ho
   .have hj:=(hfoot _ _ _ h1).1 hk;rcases hlk id' b' hb' with ⟨rfl,rfl⟩|⟨h1',h2',h3'⟩
    .have hj':(r2 id').foot k:=hk';rw[hrD]at hj';exact hmk id b k h2 ho hj hj'
    .have hj':=(hfoot _ _ _ h1').1 hk';rcases hblk id b h2 with q|⟨x,c,q1,q2,q3,_,q4,q5⟩
     .exact q.2 k hj
     .rcases hblk id' b' h2' with g1|⟨x',c',g1,g2,g3,_,g4,_⟩
      .exact g1.2 k hj'
      .exact hI.sep _ _ c c' q3 g3 (QIf hinj _ (Q5 h2) _ (Q5 h2') hne x x' q1 g1 q2 g2) (q5 ho) k (q4 k hj) (g4 k hj')
  .rw[hr2 id (by omega),<-hI.ext id hid]
   unfold Qv;cases hf:K1 Q id with
   | none=>rfl
   | some x=>
    have hp:=QH9 hf;obtain⟨l1,l2⟩:=QG5 hlow x (QFb hf) (by rw[hp];omega)
    obtain⟨p,s,c⟩:=x;simp only at hp l1 l2;subst l1;subst l2;subst hp;rfl
  .rcases hlk id b hb with ⟨rfl,rfl⟩|⟨h1,h2,h3⟩
   .cases ho
   .have hk:=(hfoot _ _ _ h1).1 hk;rcases hblk id b h2 with q|⟨x,c,q1,q2,q3,_,q4,q5⟩
    .exact absurd hk (q.2 k)
    .exact hI.own _ c q3 (q5 ho) k (q4 k hk)
 .refine⟨λt=>?_,λid b hb=>?_,λid b hb=>?_⟩
  .rw[hget];split
   .split
    .rename_i v hv;exact hsc.1 _ (jP hv)
    .rfl
   .rfl
  .rcases hlk id b hb with ⟨rfl,rfl⟩|⟨h1,h2,h3⟩
   .exact hf3
   .exact(hsc.2 _ (Q5 h2)).1
  .rcases hlk id b hb with ⟨rfl,rfl⟩|⟨h1,h2,h3⟩
   .rfl
   .exact(hsc.2 _ (Q5 h2)).2
theorem Rep.subD{G:Ctx}{n n0 D:Nat}{ls:List Nat}{st:St}{J:JSt}{a:Act}{w:World}{ids:List Nat}{vals:List AV}(h:Rep G n st a w)(hs:JM n0 ls st.tm.length (ls.map (QI st.tm)) (Kn ids vals st.hp) J)(hG:G.n<=n0)(hD:G.n<=D)(hf:jJ D J=true):∃ g,Rep G J.nid ((J.dfrs D).inst g) a w:=by
 obtain⟨⟨r,hI⟩,_⟩:=h;exact hI.subD (λid b hb=>ZT hb) hs hG hD hf
def vf(ids:List Nat)(ls:Ex->List Nat)(e:Ex)(st:St):QC := .leaf (.tup (QJN e :: .ptr st.tm.length 0 0::(ls e).map (QI st.tm))) (Kn ids ((ls e).map (QI st.tm)) st.hp)
theorem QdM{ids:List Nat}{ls:Ex->List Nat}{Cont:Nat->List AV->List (Nat×Blk)->Prop}{Out:Ex->Nat->List AV->List (Nat×Blk)->Prop}{e:Ex}{st:St}(h:(vf ids ls e st).den (Ha Cont Out)):
  (e = .normal/\Cont st.tm.length ((ls e).map (QI st.tm)) (Kn ids ((ls e).map (QI st.tm)) st.hp))∨(e ≠ .normal/\Out e st.tm.length ((ls e).map (QI st.tm)) (Kn ids ((ls e).map (QI st.tm)) st.hp)):=by
 cases e with
 | normal=>exact .inl ⟨rfl,h⟩
 | exit id=>exact .inr ⟨by simp,h⟩
 | ret=>exact .inr ⟨by simp,h⟩
section
variable {σ:Type} (I:σ->JSt) (pre:σ->Prop) (μ:σ->Nat) (R:σ->Ex->JSt->Prop) (n0 D:Nat) (ls:Ex->List Nat) (ids:List Nat)
structure QDa (E:σ->(Nat->Value)->Env) (H:σ->(Nat->Value)->Hnd) (body:Code):Prop where
 round:∀ s g,pre s->qb (Ha (QGx I pre μ R n0 ls s) (QFC R n0 ls s)) (exec (E s g) (H s g) body (((I s).dfrs D).inst g) (vf ids ls))
variable {I pre μ R n0 D ls ids}
theorem QIy{E:σ->(Nat->Value)->Env}{P:Program}(hP:∀ s g,(E s g).P=P)(hE:∀ s g,pre s->(E s g).Sound){H:σ->(Nat->Value)->Hnd}{G:Ctx}(hG:G.n<=n0)(hD:G.n<=D){body:Code}(hH:∀ s g,pre s->Qx (E s g) G (H s g) body)(hn:∀ s,pre s->n0<=(I s).nid/\jJ D (I s)=true)(hR:∀ s e J,R s e J->n0<=J.nid/\jJ D J=true)(hr:QDa I pre μ R n0 D ls ids E H body){Q:Exit->Act->World->Prop}:∀(n:Nat) (s:σ) (g:Nat->Value) (a:Act) (w:World),μ s<n->pre s->Rep G (I s).nid (((I s).dfrs D).inst g) a w ->
  (∀ e J g a' w',R s e J->n0<=J.nid->Rep G J.nid ((J.dfrs D).inst g) a' w'->Q e.to a' w')->Code.roundsIn (FW G.rd) 0 P body Q n a w
 | 0,s,g,a,w,hm,_,_,_=>by omega
 | n+1,s,g,a,w,hm,hp,hrep,hQ=>by
  rw[roundsIn_succ];have hh:=hH s g hp;have h0:=(hr.round s g hp).den;generalize H s g=Hs at hh h0;have hEs:=hE s g hp;have hPs:=hP s g;generalize E s g=Es at hh h0 hEs hPs;subst hPs;have key:JA Es G body (exec Es Hs body):=jW hEs hh.call hh.yield body hh.loop;refine key (((I s).dfrs D).inst g) (vf ids ls) _ _ a w (Nat.le_trans hG (hn s hp).1) h0 hrep ?_;intro e st' a' w' hn' hden hrep';rcases QdM hden with ⟨rfl,s',h1,h2,h3,h4⟩|⟨hne,J,h1,h2⟩
  .obtain⟨g',hr'⟩:=hrep'.subD h4 hG hD (hn s' h1).2;exact QIy hP hE hG hD hH hn hR hr n s' g' a' w' (by omega) h1 hr' (λe J g a' w' hR=>hQ e J g a' w' (h3 e J hR))
  .obtain⟨g',hr'⟩:=hrep'.subD h2 hG hD (hR _ _ _ h1).2;have:=hQ e J g' a' w' h1 (hR _ _ _ h1).1 hr';cases e with
   | normal=>exact absurd rfl hne
   | exit id=>exact this
   | ret=>exact this
end
def QEY(n0:Nat)(ids:List Nat)(J0:JSt)(X:List (Prop×Ex×JSt))(st:St)(K:Ex->St->QC):QC:=
 match Nat.beq st.tm.length J0.len with
 | true=>(match QE n0 ((J0.live.map (·.1)).map (QI st.tm)) (Kn ids ((J0.live.map (·.1)).map (QI st.tm)) st.hp) J0 with
  | some ps=>Hv ps (QAt K X)
  | none => .fail "a loop's beginning")
 | false => .fail "a loop's slots"
theorem QOp{σ:Type}{I:σ->JSt}{pre:σ->Prop}{μ:σ->Nat}{R:σ->Ex->JSt->Prop}{n0 D:Nat}{ls:Ex->List Nat}{ids ids':List Nat}{E0:Env}{E:σ->(Nat->Value)->Env}(hP:∀ s g,(E s g).P=E0.P)(hE:∀ s g,pre s->(E s g).Sound){H:σ->(Nat->Value)->Hnd}{G:Ctx}(hG:G.n<=n0)(hD:G.n<=D){body:Code}(hH:∀ s g,pre s->Qx (E s g) G (H s g) body)(hn:∀ s,pre s->n0<=(I s).nid/\jJ D (I s)=true)(hR:∀ s e J,R s e J->n0<=J.nid/\jJ D J=true)(hr:QDa I pre μ R n0 D ls ids E H body){s0:σ}(hp:pre s0){X:List (Prop×Ex×JSt)}(hX:∀ e J,R s0 e J->∃ x∈X,x.1/\x.2.1=e/\x.2.2=J.dfrs D):
  JA E0 G (.loop body) (QEY n0 ids' (I s0) X):=by
 intro st K T Q a w hn' h hrep hQ;unfold QEY at h;split at h
 rotate_left
 .exact h.elim
 rename_i hl;split at h
 rotate_left
 .exact h.elim
 rename_i ps hps;have hlen:=qnb hl;obtain⟨ha,hx⟩:=HW h;have hso:JM n0 ((I s0).live.map (·.1)) st.tm.length (((I s0).live.map (·.1)).map (QI st.tm)) (Kn ids' (((I s0).live.map (·.1)).map (QI st.tm)) st.hp) (I s0):={ slots:=rfl,len:=hlen,eqs:=⟨ps,hps,ha⟩ };obtain⟨g,hr'⟩:=hrep.subD hso hG hD (hn s0 hp).2;refine wpIn_loop_rounds (μ s0+1) (QIy hP hE hG hD hH hn hR hr _ s0 g a w (Nat.lt_succ_self _) hp hr' ?_);intro e J g' a' w' hRe hnJ hrJ;obtain⟨x,h1,h2,h3,h4⟩:=hX e J hRe;have:=Ht hx x h1 h2 g';rw[h3,h4]at this
 exact hQ e ((J.dfrs D).inst g') a' w' (Nat.le_trans hG hnJ) this hrJ
end Go.SX
namespace Go.Proofs.YtekbmehgcofnkaaGreat
open Go.SX Go.SX.Told
def Qz(c:Code):Code×Code:=match Ky c with
 | .rangeFunc _ _ ac body::_=>(ac,body)
 | _=>(.skip,.skip)
abbrev TJ:={f:Nat // True}
structure TwP where
 o:List Tw
 o2:List Tw
 p:Nat
 q:Nat
 g:Nat->Value
def rwT(id:Nat)(o:List Tw):Nat×Blk:=(id,.rowz true 89 kB o.length λi=>QA.enc (o.getD i ⟨0,0⟩))
variable (d:Puz)(E:ECt)(ac body:Code)(l2 l:List Lay)(p:Nat)(u2:Nat->Nat->Int)(f t f':Nat)
def twT(w0:TwP):List AV:=[.raw (w0.g 0),.ptr 112 0 0,.ptr 120 0 0,.raw (w0.g 3),.ptr 200 0 0,.ptr 296 0 0,.ptr 400 0 0,.ptr 432 0 0,.raw (w0.g 8),.raw (w0.g 9),.raw (w0.g 10),.raw (w0.g 11),.raw (w0.g 12),.raw (w0.g 13),.raw (w0.g 14),.raw (w0.g 15),.raw (w0.g 16),.raw (w0.g 17),.raw (w0.g 18),.raw (w0.g 19),.raw (w0.g 20),.int false .i64 d.ps.n,.int false .i64 w0.p,.raw (w0.g 23),.raw (w0.g 24),.int false .i64 w0.p,.int false .i64 w0.q,.bool true true,.int false .i64 w0.q,.ptr 200 0 0,.fn (.func 102) [.ptr 456 0 0,.ptr 464 0 0],.raw (w0.g 31),.raw (w0.g 32),.raw (w0.g 33),.raw (w0.g 34),.raw (w0.g 35),.raw (w0.g 36),.raw (w0.g 37),.raw (w0.g 38),.raw (w0.g 39),.raw (w0.g 40),.raw (w0.g 41),.raw (w0.g 42),.raw (w0.g 43),.raw (w0.g 44),.raw (w0.g 45),.raw (w0.g 46),.raw (w0.g 47)]
def QHa:List AV:=[.ptr 456 0 0,.ptr 504 0 0,.ptr 568 0 0,.ptr 464 0 0,.ptr 584 0 0]
def twR(w0:TwP):List (Nat×Blk):=
 [(584,.cellsR 0 31 [.fn (.func 103) QHa]),(504,.cellsR 0 105 [.yld 497]),(464,.cellsR 0 96 [.nils]),(456,.cellsR 0 90 [.ptr 200 0 0]),(432,.cellsR 0 3 [vi w0.q]),(400,.cellsR 0 3 [vi w0.p]),(296,.cellsR 0 90 [.ptr 288 0 0])]++Qi.blk 0 d.ps
def twW(ls:LoopState)(pe:Option Code)(oo:List Tw)(d:Puz)(E:ECt)(w0:TwP)(ac body:Code)(u:Nat->Nat->Int)(l:List Lay)(a w c b:Nat)(f:Nat):List (Nat×Blk):=
 [(200,.cells 0 152 (KT d++[.map 201,.slz a 0 l.length (.of 0)])),(201,.mp E.1 E.2),rwY a l,(568,.cells 0 114 [.slz w 0 d.ps.n (.of 0)]),rwU w d u,(497,.lp ls pe (twT d w0) #[31] ac body),(120,.cells 0 36 [.slz c 0 oo.length (.of 0)]),rwT c oo,bdZ d b f,(289,.mp E.1 E.2)]
def twS:List (Nat×AV):=[(0,.ptr 456 0 0),(1,.ptr 504 0 0),(2,.ptr 568 0 0),(3,.ptr 464 0 0),(4,.ptr 584 0 0)]
def Gl(w0:TwP)(ac body:Code)(u:Nat->Nat->Int)(l:List Lay)(f:Nat):JSt:=⟨5,twS,twW .ready none w0.o d E w0 ac body u l 600 608 616 624 f++twR d w0,632⟩
def twU(w0:TwP)(ac body:Code)(u:Nat->Nat->Int)(l:List Lay)(f:Nat)(f':Nat):UC:=
 ⟨592,Gl d E w0 ac body u l f,λ_=>.bool false true,λm=>twW .ready none w0.o d E w0 ac body u l m (m+1) (m+2) (m+3) f'⟩
def twV(w0:TwP)(ac body:Code)(u:Nat->Nat->Int)(l:List Lay)(f:Nat)(f':Nat):UC:=
 ⟨592,Gl d E w0 ac body u l f,λ_=>.bool false false,λm=>twW .done (some (.exit 4)) w0.o2 d E w0 ac body u l m (m+1) (m+2) (m+3) f'⟩
def WD:List Nat:=[200,201,568,497,120,288,289]
def QIV(n:Nat)(p:Nat):List (Nat×AV):=twS++[(33,.int false .i64 n),(34,.int false .i64 p)]
def Qdk(n:Nat)(p:Nat)(tn:Int)(t:Nat):List (Nat×AV):=QIV n p++[(6,.int false .i64 p),(43,.int false .i64 tn),(44,.int false .i64 t)]
def ve(w0:TwP)(ac body:Code)(u:Nat->Nat->Int)(l:List Lay)(f:Nat)(p:Nat):JSt:=⟨101,QIV d.ps.n p,twW .ready none w0.o d E w0 ac body u l 640 648 656 664 f++twR d w0,672⟩
def vP(w0:TwP)(ac body:Code)(u:Nat->Nat->Int)(l:List Lay)(f:Nat)(p:Nat)(tn:Int)(t:Nat):JSt:=⟨101,Qdk d.ps.n p tn t,twW .ready none w0.o d E w0 ac body u l 640 648 656 664 f++twR d w0,672⟩
def vQ(w0:TwP)(ac body:Code)(u:Nat->Nat->Int)(l:List Lay)(f:Nat):JSt:=⟨101,[],twW .ready none w0.o d E w0 ac body u l 640 648 656 664 f,672⟩
def H5(w0:TwP)(ac body:Code)(u:Nat->Nat->Int)(l:List Lay)(f:Nat)(p:Nat):JSt:=⟨101,QIV d.ps.n p,twW .ready none w0.o d E w0 ac body u l 640 648 656 664 f++twR d w0,672⟩
def twF(w0:TwP)(ac body:Code)(u:Nat->Nat->Int)(l:List Lay)(f:Nat):JSt:=⟨101,[(5,.bool false false)],twW .done (some (.exit 4)) w0.o2 d E w0 ac body u l 640 648 656 664 f,672⟩
def QPB:Ex->List Nat
 | .normal=>[0,1,2,3,4,33,34]
 | .exit _=>[]
 | .ret=>[5]
def QHD:Ex->List Nat
 | .normal=>[0,1,2,3,4,33,34,6,43,44]
 | .exit _=>[0,1,2,3,4,33,34]
 | .ret=>[5]
def QA0(pb1 pb2:List Prop->Bool)(d:Puz)(E:ECt)(w0:TwP)(l:List Lay)(x:Lay)(v:Bool)(U:UC):Tab:=Qa (Qa QS 105 (KE pb1 (myU d E l x v))) 103 (KE pb2 U)
abbrev waO:List AV:=[.ptr 456 0 0,.ptr 504 0 0,.ptr 568 0 0,.ptr 464 0 0,.ptr 584 0 0]
abbrev GG(tn:Int):List AV:=
  (.nilp::.ptr 101 0 0::List.append (waO) ((vi (d.ps.n:Int)::wbH p t tn)))
abbrev jX:Nat×Blk:=
  (456,.cellsR 0 90 [.ptr 200 0 0])
abbrev QDd:Nat×Blk:=
  (584,.cellsR 0 31 [.fn (Fn.func 103) (waO)])
abbrev jo:Nat×Blk:=
  (0,.frz (wae) d.ps.n λi=>QA.enc (d.ps.get i))
abbrev jV:Nat×Blk:=
  (296,.cellsR 0 90 [.ptr 288 0 0])
abbrev qv(w0:TwP):Nat×Blk:=
  (400,.cellsR 0 3 [vi (w0.p:Int)])
abbrev jc(w0:TwP):Nat×Blk:=
  (432,.cellsR 0 3 [vi (w0.q:Int)])
abbrev waY:List (Nat×Blk):=[(504,.cellsR 0 105 [.yld 497]),(464,.cellsR 0 96
  [.nils])]
abbrev qQ(d:Puz)(f:Nat)(l:List Lay)(u:Nat->Nat->Int)(w0:TwP):List (Nat×Blk):=
  ((200,.cells 0 152 (List.append (waf d) ([.map 201,.slz 640 0 l.length cO])))::(201,.mp E.1 E.2)::(568,.cells 0 114 [.slz
  648 0 d.ps.n cO])::(497,.lp LoopState.ready none (twT d w0) (Array.mk [31]) ac body)::(120,.cells 0 36 [.slz 656 0 w0.o.length cO])::(288,.cells 0 152 (.int false
  .i64 d.pK.length::vi d.pK.aK::vi d.pK.oK::vi d.pK.dK.lo::vi d.pK.dK.hi::vi d.wide::.int false
  .i64 d.high::List.append (wbS d) ([.slz 664 0 f cO])))::(289,.mp E.1 E.2)::jX::List.append (waY) ([QDd,(jo d),(640,.rowz true 49 kB l.length λi=>QA.enc (l.getD i (Lay.mk (0:Int) (0:Int)))),(648,.rowz true 4 [CK.bool] d.ps.n u),jV,(qv w0),(jc w0),(656,.rowz true 89 kB w0.o.length λi=>QA.enc (w0.o.getD i (Tw.mk (0:Int) (0:Int))))]))
abbrev QRK(d:Puz)(l:List Lay)(p:Nat)(t:Nat):List Prop:=
  ([0=0,0=0,(p:Int)=(p:Int),(t:Int)=(t:Int)]++waa d++(((wca l)++wag l++[E.1=E.1,E.2=E.2])++wad d))
abbrev wau(w0:TwP):List Prop:=[w0.o.length <=
  w0.o.length,QB 2 w0.o.length (λi=>QA.enc (w0.o.getD i (Tw.mk (0:Int) (0:Int)))) λi=>QA.enc (w0.o.getD i (Tw.mk (0:Int) (0:Int)))]
abbrev wbL(w0:TwP):List Prop:=[(w0.q:Int)=(w0.q:Int),(w0.p:Int)=(w0.p:Int)]
abbrev QOO(d:Puz)(f:Nat)(l:List Lay)(l2:List Lay)(p:Nat)(t:Nat)(u:Nat->Nat->Int)(u2:Nat->Nat->Int)(w0:TwP):List Prop:=
  ((wb1)++waa d++(([cO=cO,0=0,l.length+1=l2.length,cO=cO]++wa2 E l l2 p t++(wbO d++[QB 1 d.ps.n (λi=>bif decide (i=p)then KH [.bool true true] 0 (u ((p:Int).toNat+0))else u i) u2]))++wak++((([Array.mk [31]=Array.mk [31],ac=ac,body=body,w0.5 0=w0.5 0,0=0,0=0,0=0,0=0,w0.5 3=w0.5 3]++wcl++[w0.5 8 =
  w0.5 8,w0.5 9=w0.5 9,w0.5 10=w0.5 10,w0.5 11=w0.5 11,w0.5 12=w0.5 12,w0.5 13=w0.5 13,w0.5 14=w0.5 14,w0.5 15=w0.5 15,w0.5 16=w0.5 16,w0.5 17=w0.5 17,w0.5
  18=w0.5 18,w0.5 19=w0.5 19,w0.5 20=w0.5 20,(d.ps.n:Int)=(d.ps.n:Int),(w0.p:Int)=(w0.p:Int),w0.5 23=w0.5 23,w0.5 24=w0.5 24,(w0.p:Int)=(w0.p:Int),(w0.q:Int)=(w0.q:Int),true=true,(w0.q:Int)=(w0.q:Int),0=0,0=0])++wcd++[w0.5 31=w0.5 31,w0.5 32=w0.5 32,w0.5 33=w0.5 33,w0.5 34=w0.5 34,w0.5 35=w0.5 35,w0.5 36=w0.5 36,w0.5 37=w0.5 37,w0.5 38=w0.5 38,w0.5 39=w0.5 39,w0.5 40=w0.5 40,w0.5 41=w0.5 41,w0.5 42 =
  w0.5 42,w0.5 43=w0.5 43,w0.5 44=w0.5 44,w0.5 45=w0.5 45,w0.5 46=w0.5 46,w0.5 47=w0.5 47,0=0,w0.o.length=w0.o.length,cO=cO])++wau w0))++waa d++((([cO=cO,0=0,f=f,cO=cO,E.1=E.1,E.2=E.2,Fn.func 103=Fn.func 103]++wb1++[0=0,0=0])++wbL w0++[0=0,0=0])++wad d))
abbrev zO:Nat×Blk:=
  (200,.cells 0 152 (List.append (waf d) ([.map 201,.slz 984 0 (i64.wrap ((l2.length:Int)-1)).toNat cO])))
abbrev z8:Nat×Blk:=
  (568,.cells 0 114 [.slz 985 0 d.ps.n cO])
abbrev QHO(w0:TwP):Nat×Blk:=
  (120,.cells 0 36 [.slz 986 0 w0.o.length cO])
abbrev Gz:Nat×Blk:=
  (288,.cells 0 152 (List.append (waf d) ([.map 289,.slz 987 0 f' cO])))
abbrev zD:Nat×Blk:=
  (984,.rowz true 49 kB l2.length λi=>QA.enc (l2.getD i (Lay.mk (0:Int) (0:Int))))
abbrev Gt:Nat×Blk:=
  (985,.rowz true 4 [CK.bool] d.ps.n λi=>bif decide (i=p)then KH [.bool true false] 0 (u2 ((p:Int).toNat+0))else u2 i)
abbrev QGB(w0:TwP):Nat×Blk:=
  (986,.rowz true 89 kB w0.o.length λi=>QA.enc (w0.o.getD i (Tw.mk (0:Int) (0:Int))))
abbrev QKO:List AV:=
  (.ptr 2 0 0::.ptr 101 0 0::List.append (waO) ([vi (d.ps.n:Int),vi (p:Int)]))
theorem QbJ(pb1 pb2:List Prop->Bool)(d:Puz)(E:ECt)(w0:TwP)(ac body:Code)(u u2:Nat->Nat->Int)(l l2:List Lay)(v:Bool)(f:Nat)(p:Nat)(tn:Int)(t:Nat)(f':Nat)(g0:Nat->Value):exec (mkE prog (QA0 pb1 pb2 d E w0 l ⟨p,t⟩ v (twU d E w0 ac body u2 l2 f f'))) (hnd (mkE prog (QA0 pb1 pb2 d E w0 l ⟨p,t⟩ v (twU d E w0 ac body u2 l2 f f'))) 0) (QY (QH f103 0)) (JSt.inst (vP d E w0 ac body u l f p tn t) g0) (Q8 WD QHD) = .br (decide ((t:Int)<tn)) (.need (true) (.br (!Qq (Rw.mk 0 λi=>Pt.mk (0:Int) (Lay.mk (0:Int) (0:Int))) (l.length:Int) (Lay.mk (p:Int) (t:Int))) (.leaf (.tup (GG d p t tn)) ((qQ E ac body d f l u w0))) (.need (pb1 ((QRK E d l p t))) (.br (!v) (.leaf (.tup (GG d p t tn)) ((qQ E ac body d f l u w0))) (.need (decide ((0:Int)<=(p:Int)/\(p:Int)<(d.ps.n:Int))&&decide (d.ps.n<=d.ps.n)) (.need (decide (p<d.ps.n)) (.need (decide (l.length<=l.length)&&(true&&decide ((l.length+1+(l.length+1) / 4+192)*16<=281474976710656/\l.length+1<=9223372036854775807))) (.need (pb2 ((QOO E ac body d f l l2 p t u u2 w0))) (.need (decide ((0:Int)<=i64.wrap ((l2.length:Int)-1)/\(i64.wrap ((l2.length:Int)-1)).toNat<=l2.length-0)) (.need (decide ((0:Int)<=(p:Int)/\(p:Int)<(d.ps.n:Int))&&decide (d.ps.n<=d.ps.n)) (.need (decide (p<d.ps.n)) (.br (false) (.leaf (.tup (wbR)) ([(zO d l2),(201,.mp E.1 E.2),(z8 d),(497,.lp LoopState.ready none (twT d w0) (Array.mk [31]) ac body),(QHO w0),(Gz d f'),(289,.mp E.1 E.2),(jo d),(zD l2),(Gt d p u2),jV,(qv w0),(jc w0),jX,(464,.cellsR 0 96 [.nils]),(QGB w0)])) (.leaf (.tup (GG d p t tn)) (((zO d l2)::(201,.mp E.1 E.2)::(z8 d)::(497,.lp LoopState.ready none (twT d w0) (Array.mk [31]) ac body)::(QHO w0)::(Gz d f')::(289,.mp E.1 E.2)::jX::List.append (waY) ([QDd,(jo d),(zD l2),(Gt d p u2),jV,(qv w0),(jc w0),(QGB w0)])))))))))))))))) (.leaf (.tup (QKO d p)) ((qQ E ac body d f l u w0))):=by kernel_rfl
abbrev QNc(tn:Int):List AV:=
  (List.append (waO) ((wbT d p t tn)))
abbrev wap(d:Puz)(w0:TwP):List Prop:=[w0.g 11=w0.g 11,w0.g 12=w0.g 12,w0.g 13=w0.g 13,w0.g 14=w0.g 14,w0.g 15=w0.g 15,w0.g 16=w0.g 16,w0.g 17=w0.g 17,w0.g 18=w0.g 18,w0.g 19=w0.g 19,w0.g 20=w0.g 20,(d.ps.n :
  Int)=(d.ps.n:Int),(w0.p:Int)=(w0.p:Int),w0.g 23=w0.g 23,w0.g 24=w0.g 24,(w0.p:Int)=(w0.p:Int),(w0.q:Int)=(w0.q:Int)]
abbrev wbf(w0:TwP):List Prop:=[w0.g 45=w0.g 45,w0.g 46=w0.g 46,w0.g 47=w0.g 47]
abbrev wbs(w0:TwP):List Prop:=[w0.g 31=w0.g 31,w0.g 32=w0.g 32,w0.g 33=w0.g 33,w0.g 34=w0.g 34,w0.g
  35=w0.g 35,w0.g 36=w0.g 36,w0.g 37=w0.g 37,w0.g 38=w0.g 38,w0.g 39=w0.g 39,w0.g 40=w0.g 40,w0.g 41=w0.g 41,w0.g 42=w0.g 42,w0.g 43=w0.g 43,w0.g 44=w0.g
  44]
abbrev wb7(E:ECt):List Prop:=[E.1=E.1,E.2=E.2,Fn.func 103=Fn.func (103:FuncId)]
abbrev QUE(d:Puz)(f:Nat)(l:List Lay)(p:Nat)(t:Nat)(t':Nat)(tn:Int)(u:Nat->Nat->Int)(w0:TwP):List Prop:=
  (((wb1)++waK d p t t' tn)++waa d++(([cO=cO,0=0]++wb2 E l)++wag l++((wbO d++[QB 1 d.ps.n u u])++wak++(([Array.mk [31]=Array.mk [(31:Tmp)],ac=ac,body=body,w0.g 0 =
  w0.g 0,0=0,0=0,0=0,0=0,w0.g 3=w0.g 3]++wcl++[w0.g 8=w0.g 8,w0.g 9=w0.g 9,w0.g 10=w0.g 10])++wap d w0++((([true=true,(w0.q:Int)=(w0.q
  : Int)]++wb5++[0=0])++wbs w0)++wbf w0++[0=0,w0.o.length=w0.o.length,cO=cO,w0.o.length<=w0.o.length,QB 2 w0.o.length (λi=>
  QA.enc (w0.o.getD i (Tw.mk (0:Int) (0:Int)))) λi=>QA.enc (w0.o.getD i (Tw.mk (0:Int) (0:Int)))]))))++waa d++((([cO =
  cO,0=0,f=f,cO=cO]++wb7 E)++wb1++[0=0,0=0,(w0.q:Int)=(w0.q:Int),(w0.p:Int)=(w0.p:Int),0=0,0=0])++wad d))
theorem QJn(w0:TwP)(ac body:Code)(u:Nat->Nat->Int)(l:List Lay)(f:Nat)(p:Nat)(tn:Int)(t t':Nat):QE 632 (QNc d p t tn) ((qQ E ac body d f l u w0)) (vP d E w0 ac body u l f p tn t')=(some (QUE E ac body d f l p t t' tn u w0)):=by kernel_rfl
abbrev Z1:List Prop:=
  [0=0,0=0,0=0,0=0,0=0,0=0]
abbrev QAH:List Prop:=
  [0=0,0=0,0=0,0=0]
abbrev Gm:List Prop:=
  (waa d++[cO=cO,0=0])
abbrev QRb(d:Puz)(l:List Lay)(l2:List Lay)(p:Nat)(u2:Nat->Nat->Int)(u3:Nat->Nat->Int):List Prop:=
  ([cO=cO]++waR E l l2++(wbO d++[QB 1 d.ps.n (λi=>bif decide (i=p)then KH [.bool true false] 0 (u2 ((p:Int).toNat
  + 0))else u2 i) u3]))
abbrev QHn(w0:TwP):List Prop:=
  [0=0,0=0,w0.g 8=w0.g 8,w0.g 9=w0.g 9]
abbrev wbg(w0:TwP):List Prop:=(wbs w0)
abbrev war(w0:TwP):List Prop:=(wbg w0)
abbrev QFf(w0:TwP):List Prop:=
  ([w0.g 10=w0.g 10]++wap d w0++(([true=true,(w0.q:Int)=(w0.q:Int)]++wb5++[0=0])++war w0))
abbrev QOg(w0:TwP):List Prop:=
  ((wbf w0++[0=0,w0.o.length=w0.o.length,cO=cO])++wau w0)
abbrev QOF(w0:TwP):List Prop:=
  ((wbL w0++[0=0,0=0])++wad d)
theorem QTV(w0:TwP)(ac body:Code)(u u2 u3:Nat->Nat->Int)(l l2:List Lay)(p:Nat)(tn:Int)(t t':Nat)(f':Nat):QE 632 (QNc d p t tn) (((zO d l2)::(201,.mp E.1 E.2)::(z8 d)::(497,.lp LoopState.ready none (twT d w0) (Array.mk [31]) ac body)::(QHO w0)::(Gz d f')::(289,.mp E.1 E.2)::jX::List.append (waY) ([QDd,(jo d),(zD l2),(Gt d p u2),jV,(qv w0),(jc w0),(QGB w0)]))) (vP d E w0 ac body u3 l f' p tn t')=(some (Z1++QAH++(waK d p t t' tn)++(Gm d)++[(i64.wrap ((l2.length:Int)-1)).toNat=l.length]++(QRb E d l l2 p u2 u3)++(wak++[Array.mk [31]=Array.mk [(31:Tmp)],ac=ac,body=body,w0.g 0=w0.g 0])++QAH++[w0.g 3=w0.g 3]++Z1++(QHn w0)++(QFf d w0)++(QOg w0)++(Gm d)++([f'=f',cO=cO]++wb7 E)++Z1++Z1++(QOF d w0))):=by kernel_rfl
theorem QKB(w0:TwP)(ac body:Code)(u:Nat->Nat->Int)(l:List Lay)(f:Nat)(p:Nat):QE 632 (List.append (waO) ([vi (d.ps.n:Int),vi (p:Int)])) ((qQ E ac body d f l u w0)) (H5 d E w0 ac body u l f p)=(some (Z1++QAH++(wbq d p)++(Gm d)++((wb2 E l)++wag l++((wbO d++[QB 1 d.ps.n u u])++wak++[Array.mk [31]=Array.mk [(31:Tmp)],ac=ac,body=body,w0.g 0=w0.g 0]))++QAH++[w0.g 3=w0.g 3]++Z1++(QHn w0)++(QFf d w0)++(QOg w0)++(Gm d)++([f=f,cO=cO]++wb7 E)++Z1++Z1++(QOF d w0))):=by kernel_rfl
abbrev QEy(w0:TwP):Nat×Blk:=
  (120,.cells 0 36 [.slz 986 0 w0.o2.length cO])
abbrev QF9(w0:TwP):Nat×Blk:=
  (986,.rowz true 89 kB w0.o2.length λi=>QA.enc (w0.o2.getD i (Tw.mk (0:Int) (0:Int))))
theorem QfK(pb1 pb2:List Prop->Bool)(d:Puz)(E:ECt)(w0:TwP)(ac body:Code)(u u2:Nat->Nat->Int)(l l2:List Lay)(v:Bool)(f:Nat)(p:Nat)(tn:Int)(t:Nat)(f':Nat)(g0:Nat->Value):exec (mkE prog (QA0 pb1 pb2 d E w0 l ⟨p,t⟩ v (twV d E w0 ac body u2 l2 f f'))) (hnd (mkE prog (QA0 pb1 pb2 d E w0 l ⟨p,t⟩ v (twV d E w0 ac body u2 l2 f f'))) 0) (QY (QH f103 0)) (JSt.inst (vP d E w0 ac body u l f p tn t) g0) (Q8 WD QHD) = .br (decide ((t:Int)<tn)) (.need (true) (.br (!Qq (Rw.mk 0 λi=>Pt.mk (0:Int) (Lay.mk (0:Int) (0:Int))) (l.length:Int) (Lay.mk (p:Int) (t:Int))) (.leaf (.tup (GG d p t tn)) ((qQ E ac body d f l u w0))) (.need (pb1 ((QRK E d l p t))) (.br (!v) (.leaf (.tup (GG d p t tn)) ((qQ E ac body d f l u w0))) (.need (decide ((0:Int)<=(p:Int)/\(p:Int)<(d.ps.n:Int))&&decide (d.ps.n<=d.ps.n)) (.need (decide (p<d.ps.n)) (.need (decide (l.length<=l.length)&&(true&&decide ((l.length+1+(l.length+1) / 4+192)*16<=281474976710656/\l.length+1<=9223372036854775807))) (.need (pb2 ((QOO E ac body d f l l2 p t u u2 w0))) (.need (decide ((0:Int)<=i64.wrap ((l2.length:Int)-1)/\(i64.wrap ((l2.length:Int)-1)).toNat<=l2.length-0)) (.need (decide ((0:Int)<=(p:Int)/\(p:Int)<(d.ps.n:Int))&&decide (d.ps.n<=d.ps.n)) (.need (decide (p<d.ps.n)) (.br (true) (.leaf (.tup (wbR)) ([(zO d l2),(201,.mp E.1 E.2),(z8 d),(497,.lp LoopState.done (some (Code.exit 4)) (twT d w0) (Array.mk [31]) ac body), (QEy w0),(Gz d f'),(289,.mp E.1 E.2),(jo d),(zD l2),(Gt d p u2),jV,(qv w0),(jc w0),jX,(464,.cellsR 0 96 [.nils]),(QF9 w0)])) (.leaf (.tup (GG d p t tn)) (((zO d l2)::(201,.mp E.1 E.2)::(z8 d)::(497,.lp LoopState.done (some (Code.exit 4)) (twT d w0) (Array.mk [31]) ac body)::(QEy w0)::(Gz d f')::(289,.mp E.1 E.2)::jX::List.append (waY) ([QDd,(jo d),(zD l2),(Gt d p u2),jV,(qv w0),(jc w0),(QF9 w0)])))))))))))))))) (.leaf (.tup (QKO d p)) ((qQ E ac body d f l u w0))):=by kernel_rfl
abbrev wbk:List Prop:=[LoopState.done=LoopState.done,some (Code.exit 4)=some (Code.exit 4),Array.mk [31]=Array.mk [(31:Tmp)]]
abbrev wbC(w0:TwP):List Prop:=[w0.o2.length<=w0.o2.length,QB 2 w0.o2.length (λi=>QA.enc (w0.o2.getD i (Tw.mk (0:Int) (0:Int)))) λi=>QA.enc (w0.o2.getD i (Tw.mk (0:Int) (0:Int)))]
theorem QYV(w0:TwP)(ac body:Code)(u2 u3:Nat->Nat->Int)(l l2:List Lay)(p:Nat)(f':Nat):QE 632 [.bool true false] ([(zO d l2),(201,.mp E.1 E.2),(z8 d),(497,.lp LoopState.done (some (Code.exit 4)) (twT d w0) (Array.mk [31]) ac body),(QEy w0),(Gz d f'), (289,.mp E.1 E.2),(jo d),(zD l2),(Gt d p u2),jV,(qv w0),(jc w0),jX,(464,.cellsR 0 96 [.nils]),(QF9 w0)]) (twF d E w0 ac body u3 l f')=(some ([false=false]++(Gm d)++[(i64.wrap ((l2.length:Int)-1)).toNat=l.length]++(QRb E d l l2 p u2 u3)++(wbk++[ac=ac,body=body,w0.g 0=w0.g 0])++QAH++[w0.g 3=w0.g 3]++Z1++(QHn w0)++(QFf d w0)++(wbf w0++([0=0,w0.o2.length=w0.o2.length,cO=cO]++wbC w0))++(Gm d)++[f'=f',cO=cO,E.1=E.1,E.2=E.2])):=by kernel_rfl
def Wg(pb:List Prop->Bool)(d:Puz)(n:Nat)(a:Int):Tab:=Qa QS 52 (KE pb (tnU d n a))
abbrev QBV(P:Program)(pb:List Prop->Bool)(d:Puz)(E:ECt)(w0:TwP)(ac body:Code)(u:Nat->Nat->Int)(l:List Lay)(f:Nat)(p:Nat)(X:List (Prop×Ex×JSt)):Hnd:={ hnd (mkE P (Wg pb d l.length p)) 0 with loop:=λ_=>Kr (p<d.ps.n/\u p 0=0) (Q4 632 WD (vP d E w0 ac body u l f p (tnV d p) (0:Nat)) X) }
abbrev QP7:List AV:=
  (.nilp::.ptr 101 0 0::List.append (waO) ([vi (d.ps.n:Int),vi (i64.wrap ((p:Int)+1))]))
abbrev X6:Nat×Blk:=
  (200,.cells 0 152 (List.append (waf d) ([.map 201,.slz 640 0 l.length cO])))
abbrev X5:Nat×Blk:=
  (568,.cells 0 114 [.slz 648 0 d.ps.n cO])
abbrev GS(d:Puz)(w0:TwP):Nat×Blk:=
  (497,.lp LoopState.ready none (twT d w0) (Array.mk [31]) ac body)
abbrev qW(w0:TwP):Nat×Blk:=
  (120,.cells 0 36 [.slz 656 0 w0.o.length cO])
abbrev QDz:Nat×Blk:=
  (288,.cells 0 152 (List.append (waf d) ([.map 289,.slz 664 0 f cO])))
abbrev Gx:Nat×Blk:=
  (456,.cellsR 0 90 [.ptr 200 0 0])
abbrev QDD:Nat×Blk:=
  (584,.cellsR 0 31 [.fn (Fn.func 103) (waO)])
abbrev zb:Nat×Blk:=
  (0,.frz (wae) d.ps.n λi=>QA.enc (d.ps.get i))
abbrev Xv:Nat×Blk:=
  (640,.rowz true 49 kB l.length λi=>QA.enc (l.getD i (Lay.mk (0:Int) (0:Int))))
abbrev vX:Nat×Blk:=
  (296,.cellsR 0 90 [.ptr 288 0 0])
abbrev GT(w0:TwP):Nat×Blk:=
  (400,.cellsR 0 3 [vi (w0.p:Int)])
abbrev G1(w0:TwP):Nat×Blk:=
  (432,.cellsR 0 3 [vi (w0.q:Int)])
abbrev Ws(w0:TwP):Nat×Blk:=
  (656,.rowz true 89 kB w0.o.length λi=>QA.enc (w0.o.getD i (Tw.mk (0:Int) (0:Int))))
abbrev W6:Nat×Blk:=
  (288,.cells 0 152 (List.append (waf d) ([.map 289,.slz 664 0 f' cO])))
abbrev QDX(w0:TwP):Nat×Blk:=
  (120,.cells 0 36 [.slz 656 0 w0.o2.length cO])
abbrev QCQ(w0:TwP):Nat×Blk:=
  (656,.rowz true 89 kB w0.o2.length λi=>QA.enc (w0.o2.getD i (Tw.mk (0:Int) (0:Int))))
theorem QQ4(pb:List Prop->Bool)(d:Puz)(E:ECt)(w0:TwP)(ac body:Code)(u u':Nat->Nat->Int)(l:List Lay)(f:Nat)(p:Nat)(A B:Prop)(f':Nat)(g0:Nat->Value):exec (mkE prog (Wg pb d l.length p)) (QBV prog pb d E w0 ac body u l f p [(A,.exit 2,H5 d E w0 ac body u' l f' p),(B,.ret,twF d E w0 ac body u' l f')]) (QH f103 0) (JSt.inst (ve d E w0 ac body u l f p) g0) (Q8 WD QPB) = .br (decide ((p:Int)<(d.ps.n:Int))) (.need (decide ((0:Int)<=(p:Int)/\(p:Int)<(d.ps.n:Int))&&decide (d.ps.n<=d.ps.n)) (.need (decide (p<d.ps.n)) (.br (decide (u ((p:Int).toNat+0) 0=1)) (.leaf (.tup (QP7 d p)) (((X6 d l)::(201,.mp E.1 E.2)::(X5 d)::(GS ac body d w0)::(qW w0)::(QDz d f)::(289,.mp E.1 E.2)::Gx::List.append (waY) ([QDD,(zb d),(Xv l),(648,.rowz true 4 [CK.bool] d.ps.n u),vX,(GT w0),(G1 w0),(Ws w0)])))) (.need (pb (([0=0,0=0,(p:Int)=(p:Int)]++waa d++((wca l)++wad d)))) (.ak [p<d.ps.n/\u p 0=0] (.ak (rz 10) (.ak ((wbq d p++(wb3 d p))++waa d++(([cO=cO,0=0]++wb2 E l)++wag l++((wbO d++[QB 1 d.ps.n u u])++wak++[Array.mk [(31:Tmp)]=Array.mk [(31:Tmp)],ac=ac,body=body,w0.g 0=w0.g 0,0=0,0=0,0=0,0=0,w0.g 3=w0.g 3]))) (.ak (rz 8) (.ak (([w0.g 8=w0.g 8,w0.g 9=w0.g 9,w0.g 10=w0.g 10]++wap d w0++(([true=true,(w0.q:Int)=(w0.q:Int)]++wb5++[0=0])++war w0++((wbf w0++[0=0,w0.o.length=w0.o.length,cO=cO])++wau w0)))++waa d++[cO=cO,0=0,f=f,cO=cO,E.1=E.1,E.2=E.2,Fn.func (103:FuncId)=Fn.func (103:FuncId)]) (.ak (rz 12) (.ak ((wbL w0++[0=0,0=0])++wad d) (.both (.asm (A) (.all (λ(g0:Nat -> Value)=>.leaf (.tup (QP7 d p)) (((X6 d l)::(201,.mp E.1 E.2)::(X5 d)::(GS ac body d w0)::(qW w0)::(W6 d f')::(289,.mp E.1 E.2)::Gx::List.append (waY) ([QDD,(zb d),(Xv l),(648,.rowz true 4 [CK.bool] d.ps.n u'),vX,(GT w0),(G1 w0),(Ws w0)])))))) (.asm (B) (.all (λ(g1:Nat -> Value)=>.leaf (.tup [.nili,.ptr 101 0 0,.bool false false]) ([(X6 d l),(201,.mp E.1 E.2),(X5 d),(497,.lp LoopState.done (some (Code.exit 4)) (twT d w0) (Array.mk [31]) ac body),(QDX w0),(W6 d f'),(289,.mp E.1 E.2),(Xv l),(648,.rowz true 4 [CK.bool] d.ps.n u'),(QCQ w0)])))))))))))))))) (.leaf (.tup [.ptr 0 0 0,.ptr 101 0 0]) ([(X6 d l),(201,.mp E.1 E.2),(X5 d),(GS ac body d w0),(qW w0),(QDz d f),(289,.mp E.1 E.2),(zb d),(Xv l),(648,.rowz true 4 [CK.bool] d.ps.n u),vX,(GT w0),(G1 w0),Gx,(464,.cellsR 0 96 [.nils]),(Ws w0)])):=by kernel_rfl
abbrev QQ7:List AV:=
  (List.append (waO) ([vi (d.ps.n:Int),vi (i64.wrap ((p:Int)+1))]))
abbrev V7:List Prop:=
  [0=0,0=0,0=0,0=0,0=0]
abbrev Xx:List Prop:=
  (waa d++[cO=cO,0=0])
abbrev Gs(d:Puz)(l:List Lay):List Prop:=
  ((wb2 E l)++wag l++(wbO d))
abbrev QFW:List Prop:=
  (wak++[Array.mk [31]=Array.mk [(31:Tmp)],ac=ac])
abbrev vp(w0:TwP):List Prop:=
  [w0.g 0=w0.g 0,0=0,0=0,0=0,0=0,w0.g 3=w0.g 3]
abbrev zU(w0:TwP):List Prop:=
  [0=0,0=0,0=0,w0.g 8=w0.g 8,w0.g 9=w0.g 9]
abbrev HE(w0:TwP):List Prop:=
  ([w0.g 10=w0.g 10]++wap d w0++(([true=true,(w0.q:Int)=(w0.q:Int)]++wb5++[0=0])++war w0))
abbrev QDP(w0:TwP):List Prop:=
  ((wbf w0++[0=0,w0.o.length=w0.o.length,cO=cO])++wau w0)
abbrev QOK(w0:TwP):List Prop:=
  (([0=0,0=0]++wbL w0++[0=0,0=0])++wad d)
theorem QJv(w0:TwP)(ac body:Code)(u:Nat->Nat->Int)(l:List Lay)(f:Nat)(p p':Nat):QE 632 (QQ7 d p) (((X6 d l)::(201,.mp E.1 E.2)::(X5 d)::(GS ac body d w0)::(qW w0)::(QDz d f)::(289,.mp E.1 E.2)::Gx::List.append (waY) ([QDD,(zb d),(Xv l),(648,.rowz true 4 [CK.bool] d.ps.n u),vX,(GT w0),(G1 w0),(Ws w0)]))) (ve d E w0 ac body u l f p')=(some (V7 ++ V7++[(d.ps.n:Int)=(d.ps.n:Int),i64.wrap ((p:Int)+1)=(p':Int)]++(Xx d)++(Gs E d l)++[QB 1 d.ps.n u u]++(QFW ac)++[body=body] ++ (vp w0)++V7++(zU w0)++(HE d w0)++(QDP w0)++(Xx d)++([f=f,cO=cO]++wb7 E)++V7 ++ V7++(QOK d w0))):=by kernel_rfl
theorem QaC(w0:TwP)(ac body:Code)(u':Nat->Nat->Int)(l:List Lay)(p p':Nat)(f':Nat):QE 632 (QQ7 d p) (((X6 d l)::(201,.mp E.1 E.2)::(X5 d)::(GS ac body d w0)::(qW w0)::(W6 d f')::(289,.mp E.1 E.2)::Gx::List.append (waY) ([QDD,(zb d),(Xv l),(648,.rowz true 4 [CK.bool] d.ps.n u'),vX,(GT w0),(G1 w0),(Ws w0)]))) (ve d E w0 ac body u' l f' p')=(some (V7 ++ V7++[(d.ps.n:Int)=(d.ps.n:Int),i64.wrap ((p:Int)+1)=(p':Int)]++(Xx d)++(Gs E d l)++[QB 1 d.ps.n u' u']++(QFW ac)++[body=body] ++ (vp w0)++V7++(zU w0)++(HE d w0)++(QDP w0)++(Xx d)++([f'=f',cO=cO]++wb7 E) ++ V7++V7++(QOK d w0))):=by kernel_rfl
abbrev QPr(w0:TwP):List Prop:=
  (wbf w0++([0=0,w0.o2.length=w0.o2.length,cO=cO]++wbC w0))
theorem QSs(w0:TwP)(ac body:Code)(u':Nat->Nat->Int)(l:List Lay)(f':Nat):QE 632 [.bool false false] ([(X6 d l),(201,.mp E.1 E.2),(X5 d),(497,.lp LoopState.done (some (Code.exit 4)) (twT d w0) (Array.mk [31]) ac body),(QDX w0),(W6 d f'), (289,.mp E.1 E.2),(Xv l),(648,.rowz true 4 [CK.bool] d.ps.n u'),(QCQ w0)]) (twF d E w0 ac body u' l f')=(some ([false=false]++(Xx d)++(Gs E d l)++([QB 1 d.ps.n u' u']++wbk++[ac=ac,body=body])++(vp w0)++V7++(zU w0)++(HE d w0)++(QPr w0)++(Xx d)++[f'=f',cO=cO,E.1=E.1,E.2=E.2])):=by kernel_rfl
theorem QO2(w0:TwP)(ac body:Code)(u:Nat->Nat->Int)(l:List Lay)(f:Nat):QE 632 [] ([(X6 d l),(201,.mp E.1 E.2),(X5 d),(GS ac body d w0),(qW w0),(QDz d f),(289,.mp E.1 E.2),(zb d),(Xv l),(648,.rowz true 4 [CK.bool] d.ps.n u), vX,(GT w0),(G1 w0),Gx,(464,.cellsR 0 96 [.nils]),(Ws w0)]) (vQ d E w0 ac body u l f)=(some ((Xx d)++(Gs E d l)++[QB 1 d.ps.n u u]++(QFW ac)++[body=body]++(vp w0)++V7++(zU w0)++(HE d w0)++(QDP w0)++(Xx d)++[f=f,cO=cO,E.1=E.1,E.2=E.2])):=by kernel_rfl
abbrev twX(P:Program)(J:JSt)(X:List (Prop×Ex×JSt)):Hnd:={ hnd (mkE P QS) 0 with loop:=λ_=>Q4 632 WD J X }
abbrev QOU(w0:TwP):Nat×Blk:=
  (497,.lp LoopState.done (some (Code.exit 4)) (twT d w0) (Array.mk [31]) (Qz (QY (QH f21 0))).1 (Qz (QY (QH f21 0))).2)
theorem QMQ(w0:TwP)(u u':Nat->Nat->Int)(l:List Lay)(f:Nat)(A B:Prop)(f':Nat):(Vh (mkE prog QS) (twX prog (ve d E w0 (Qz (QY (QH f21 0))).1 (Qz (QY (QH f21 0))).2 u l f 0) [(A,.exit 0,vQ d E w0 (Qz
  (QY (QH f21 0))).1 (Qz (QY (QH f21 0))).2 u' l f'),(B,.ret,twF d E w0 (Qz (QY (QH f21 0))).1 (Qz (QY (QH f21 0))).2
  u' l f')]) f103 QHa (Gl d E w0 (Qz (QY (QH f21 0))).1 (Qz (QY (QH f21 0))).2 u l f).hp 632 λv h _=>Y0 WD v h) = .br ((l.length
  : Int) == (d.ps.n : Int)) (.fail ("yield")) (.ak (rz 9) (.ak [0 =
  0,(d.ps.n:Int)=(d.ps.n:Int),(0:Int)=0,d.pK.length=d.pK.length,d.pK.aK=d.pK.aK,d.pK.oK=d.pK.oK] (.ask
  (d.pK.dK.lo=d.pK.dK.lo) (.ak [d.pK.dK.hi=d.pK.dK.hi,d.wide=d.wide,d.high=d.high,d.turn=d.turn,0=0,d.ps.n =
  d.ps.n,Cap.of 0=Cap.of 0,0=0,l.length=l.length,Cap.of 0=Cap.of 0,E.1=E.1,E.2=E.2,l.length<=l.length] (.ask
  (QB 2 l.length (λi=>QA.enc (l.getD i (Lay.mk (0:Int) (0:Int)))) λi=>QA.enc (l.getD i (Lay.mk (0:Int) (0:Int)))) (.ak [0=0,d.ps.n=d.ps.n] (.ask
  (Cap.of 0=Cap.of 0) (.ak [d.ps.n<=d.ps.n,QB 1 d.ps.n u u,LoopState.ready=LoopState.ready,(none:Option Code)=none,Array.mk [(31:Tmp)]
  = Array.mk [(31:Tmp)],(Qz (QY (QH f21 0))).1=(Qz (QY (QH f21 0))).1,(Qz (QY (QH f21 0))).2=(Qz (QY
  (QH f21 0))).2,w0.g 0=w0.g 0,0=0,0=0,0=0,0=0,w0.g 3=w0.g 3,0=0,0=0,0=0,0 =
  0,0=0,0=0,0=0,0=0,w0.g 8=w0.g 8,w0.g 9=w0.g 9,w0.g 10=w0.g 10,w0.g 11=w0.g 11,w0.g 12=w0.g
  12,w0.g 13=w0.g 13,w0.g 14=w0.g 14,w0.g 15=w0.g 15,w0.g 16=w0.g 16,w0.g 17=w0.g 17,w0.g 18=w0.g 18,w0.g 19=w0.g
  19,w0.g 20=w0.g 20,(d.ps.n:Int)=(d.ps.n:Int),(w0.p:Int)=(w0.p:Int),w0.g 23=w0.g 23,w0.g 24=w0.g 24,(w0.p:Int) =
  (w0.p:Int),(w0.q:Int)=(w0.q:Int),true=true,(w0.q:Int)=(w0.q:Int),0=0,0=0,Fn.func (102:FuncId)=Fn.func (102 :
  FuncId),0=0,0=0,0=0,0=0,w0.g 31=w0.g 31,w0.g 32=w0.g 32,w0.g 33=w0.g 33,w0.g 34=w0.g 34,w0.g
  35=w0.g 35,w0.g 36=w0.g 36,w0.g 37=w0.g 37,w0.g 38=w0.g 38,w0.g 39=w0.g 39,w0.g 40=w0.g 40,w0.g 41=w0.g 41,w0.g
  42=w0.g 42,w0.g 43=w0.g 43,w0.g 44=w0.g 44,w0.g 45=w0.g 45,w0.g 46=w0.g 46,w0.g 47=w0.g 47,0=0,w0.o.length =
  w0.o.length,Cap.of 0=Cap.of 0,w0.o.length<=w0.o.length,QB 2 w0.o.length (λi=>QA.enc (w0.o.getD i (Tw.mk (0:Int) (0:Int)))) λi=>
  QA.enc (w0.o.getD i (Tw.mk (0:Int) (0:Int))),d.pK.length=d.pK.length,d.pK.aK=d.pK.aK,d.pK.oK=d.pK.oK] (.ask
  (d.pK.dK.lo=d.pK.dK.lo) (.ask (d.pK.dK.hi=d.pK.dK.hi) (.ask (d.wide=d.wide) (.ask (d.high=d.high) (.ask (d.turn=d.turn) (.ask (0=0) (.ask (d.ps.n =
  d.ps.n) (.ask (Cap.of 0=Cap.of 0) (.ask (0=0) (.ask (f=f) (.ask (Cap.of 0=Cap.of 0) (.ask (E.1=E.1) (.ask (E.2=E.2) (.ask (Fn.func (103:FuncId)=Fn.func (103 :
  FuncId)) (.ask (0=0) (.ask (0=0) (.ask (0=0) (.ask (0=0) (.ask (0=0) (.ask (0=0) (.ask (0=0) (.ask (0=0) (.ask (0=0) (.ask (0=0) (.ask (0=0) (.ask (0=0)
  (.ak [(w0.q:Int)=(w0.q:Int),(w0.p:Int)=(w0.p:Int),0=0,0=0,d.ps.n<=d.ps.n,QB 28 d.ps.n (λi=>QA.enc (d.ps.get i))
  λi=>QA.enc (d.ps.get i)] (.both (.asm (A) (.all (λ(g0:Nat->Value)=>.leaf (.bool true true) ([(X6 d l),(201,.mp E.1 E.2),(X5 d),(497,.lp LoopState.ready none
  (twT d w0) (Array.mk [31]) (Qz (QY (QH f21 0))).1 (Qz (QY (QH f21 0))).2),(qW w0),(W6 d f'),(289,.mp E.1 E.2),(Xv l),(648,.rowz true 4
  [CK.bool] d.ps.n u'),(Ws w0)])))) (.asm (B) (.all (λ(g1:Nat->Value)=>.leaf (.bool false false) ([(X6 d l),(201,.mp E.1 E.2),(X5 d),(QOU d w0),(QDX w0),(W6
  d f'),(289,.mp E.1 E.2),(Xv l),(648,.rowz true 4 [CK.bool] d.ps.n u'),(QCQ
  w0)])))))))))))))))))))))))))))))))))))))))):=by kernel_rfl
abbrev wbc:List Prop:=[(Qz (QY (QH f21 0))).1=(Qz (QY (QH f21 0))).1,(Qz (QY (QH f21 0))).2=(Qz (QY (QH f21 0))).2]
theorem QZY(w0:TwP)(u u':Nat->Nat->Int)(l:List Lay)(f:Nat)(f':Nat):QE 632 [(.bool true true)] ([(X6 d l),(201,.mp E.1 E.2),(X5 d),(497,.lp LoopState.ready none (twT d w0) (Array.mk [31]) (Qz (QY (QH f21 0))).1 (Qz (QY (QH f21 0))).2),(qW w0),(W6 d f'),(289,.mp E.1 E.2),(Xv l),(648,.rowz true 4 [CK.bool] d.ps.n u'),(Ws w0)]) (KQ (twU d E w0 (Qz (QY (QH f21 0))).1 (Qz (QY (QH f21 0))).2 u l f f'))=(some ([true=true]++(Xx d)++(Gs E d l)++([QB 1 d.ps.n u' u]++wak++([Array.mk [31]=Array.mk [(31:Tmp)]]++wbc))++(vp w0)++V7++(zU w0)++(HE d w0)++(QDP w0)++(Xx d)++[f'=f',cO=cO,E.1=E.1,E.2=E.2])):=by kernel_rfl
theorem QS4(w0:TwP)(u u':Nat->Nat->Int)(l:List Lay)(f:Nat)(f':Nat):QE 632 [(.bool false false)] ([(X6 d l),(201,.mp E.1 E.2),(X5 d),(QOU d w0),(QDX w0),(W6 d f'),(289,.mp E.1 E.2),(Xv l),(648,.rowz true 4 [CK.bool] d.ps.n u'),(QCQ w0)]) (KQ (twV d E w0 (Qz (QY (QH f21 0))).1 (Qz (QY (QH f21 0))).2 u l f f'))=(some ([false=false]++(Xx d)++(Gs E d l) ++ (([QB 1 d.ps.n u' u]++wbk)++wbc)++(vp w0)++V7++(zU w0)++(HE d w0) ++ (QPr w0)++(Xx d)++[f'=f',cO=cO,E.1=E.1,E.2=E.2])):=by kernel_rfl
