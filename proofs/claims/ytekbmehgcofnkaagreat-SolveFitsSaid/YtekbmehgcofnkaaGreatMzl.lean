/- - -/
import Derived.Test.YtekbmehgcofnkaaGreatMzk
import Derived.Shelf.SlSortCmp.NoneTotal
open Go.Proofs.Tryz
open Go.IntKind (i64)
set_option maxRecDepth 100000
namespace Go.Proofs.YtekbmehgcofnkaaGreat
open Go Go.RowKit Go.Lib Go.Shelf Go.Sort Go.SX Go.SX.Told
instance : Inhabited Tw := ⟨⟨0,0⟩⟩
def JG(x:Tw):List Value:=[.int .i64 x.a,.int .i64 x.b]
def Yb(g:Nat->Nat->Int)(i:Nat):Tw:=⟨g i 0,g i 1⟩
def J1(l:List Tw):List Tw:=l.mergeSort λx y=>!(ltOf Jl) y x
def YH(n:Nat)(g:Nat->Nat->Int)(i:Nat):Nat->Int:=QA.enc ((J1 ((List.range n).map (Yb g))).getD i ⟨0,0⟩)
def ksT:List CK:=[.int .i64,.int .i64]
theorem Xo(x y:Tw):Jl x y<0↔x.a<y.a∨(x.a=y.a/\x.b<y.b):=by
 unfold Jl;simp only[QQ2,QRp,QN6]
theorem QQa:SWO (ltOf Jl) where
 irrefl x:=by simp only[ltOf,decide_eq_false_iff_not,Xo];omega
 trans x y z h1 h2:=by simp only[ltOf,qdE,Xo]at *;omega
 ntrans x y z h1 h2:=by simp only[ltOf,decide_eq_false_iff_not,Xo]at *;omega
theorem QRP(x y:Tw)(h1:(ltOf Jl) x y=false)(h2:(ltOf Jl) y x=false):x=y:=by
 simp only[ltOf,decide_eq_false_iff_not,Xo]at h1 h2;obtain⟨a,b⟩:=x;obtain⟨a',b'⟩:=y;simp only[Tw.mk.injEq]at *;omega
theorem QdR(blk off size:Nat)(w:World):CmpLays prog 65 #[] JG 2 Jl blk off size w:=by
 intro m os dk _ x y;generalize sortWorldK JG 2 w blk off m dk os=W;have h:=QVr.2 [Enc.enc x,Enc.enc y] 0 [] (λ_=>SX.Loc.none 0) W (λ_=>none) [] ⟨false,true,.int false .i64 (Jl x y),[]⟩ ⟨λ_ _ h=>(by cases h),λ_ _ h=>(by cases h),λ_ _ h=>(by cases h),λ_ _ _ _ h=>(by cases h)⟩ rfl rfl rfl rfl
 refine h.mono ?_;rintro e w' ⟨r',rfl,hp⟩;refine⟨rfl,QUy ?_⟩;have hf:=hp.fr;refine⟨hf.os,hf.tape,hf.output,hf.size,hf.drawn,λk hk _=>hf.block k hk ?_⟩;rintro⟨p,hp,_⟩;cases hp
theorem QKd(r:Nat->SX.Loc)(n:Nat)(g:Nat->Nat->Int):AV.denL r (Q4 n (QV ksT g)).flatten=((List.range n).map (Yb g)).flatMap JG:=by
 rw[Qt,Q4,<-List.flatMap_def,List.map_flatMap,List.flatMap_map];rfl
theorem QW4(r:Nat->SX.Loc)(n:Nat)(g:Nat->Nat->Int):AV.denL r (Q4 n (QV ksT (YH n g))).flatten=(J1 ((List.range n).map (Yb g))).flatMap JG:=by
 rw[QKd];congr 1;have hl:(J1 ((List.range n).map (Yb g))).length=n:=by unfold J1;rw[List.length_mergeSort];simp
 apply List.ext_getElem
 .rw[hl];simp
 .intro i h1 h2;rw[List.getElem_map,List.getElem_range];exact(show Yb (YH n g) i=(J1 ((List.range n).map (Yb g))).getD i ⟨0,0⟩from rfl).trans (Vu h2)
variable {w:World}
theorem QcU{b m:Nat}{os:Array Obj}{l l':List Tw}{rest:List Value}{ty:TypeId}(h:bk w b=some (.cells (l.flatMap JG++rest).toArray ty (0,0)))(hl:l.length=l'.length):
  bk (sortWorldK JG 2 w b 0 m l'.toArray os) b=some (.cells (l'.flatMap JG++rest).toArray ty (0,0))/\(∀ k,k<w.heap.size->k≠b->bk (sortWorldK JG 2 w b 0 m l'.toArray os) k=bk w k)/\w.heap.size<=(sortWorldK JG 2 w b 0 m l'.toArray os).heap.size:=by
 have hk:∀ x,(JG x).length=2:=λ_=>rfl
 have hf:flatK JG 2 l'.toArray=(l'.flatMap JG).toArray:=by
  apply Array.ext';rw[QMF JG 2 hk]
 have hlen:(l.flatMap JG).length=(l'.flatMap JG).length:=by rw[Wh JG 2 hk,Wh JG 2 hk,hl]
 have hb:b<w.heap.size:=by
  unfold bk at h;exact(Array.getElem?_eq_some_iff.1 h).1
 unfold bk at h ⊢;unfold sortWorldK grow putRowK putRow mapBlock Sort.ahead;simp only[hf];refine⟨?_,λk hk1 hk2=>?_,by simp⟩
 .rw[Array.getElem?_append_left (by simpa using hb),Array.getElem?_modify,if_pos rfl,h]
  simp only[Option.map_some,onCells];rw[QLs _ _ _ hlen]
 .rw[Array.getElem?_append_left (by simpa using hk1),Array.getElem?_modify,if_neg (λe=>hk2 e.symm)]
theorem Qgk{b:Nat}{l:List Tw}{rest:List Value}{ty:TypeId}(h:bk w b=some (.cells (l.flatMap JG++rest).toArray ty (0,0))):HoldsK JG 2 w b 0 l.toArray:=by
 have hk:∀ x,(JG x).length=2:=λ_=>rfl;intro j hj;rw[size_flatK]at hj;have hj:j<l.length*2:=by simpa using hj
 have e:((flatK JG 2 l.toArray)[j]!)=(JG l[j / 2]!)[j % 2]! := by
  rw[get_flatK JG 2 _ j (by simpa using hj)];simp
 refine⟨?_,?_⟩
 .rw[Xr h,Nat.zero_add,List.getElem?_append_left (by rw[Wh JG 2 hk];exact hj),QCJ JG 2 hk l j hj,e]
  rfl
 .unfold World.frozen?;unfold bk at h;rw[h];simp
def QGa:FC:=λargs _ _=>match args with
 | [.slz id 0 n _,.fn (.func f) []]=>([id],λbs=>match Nat.beq f 65,bs with
  | true,[.rowz true ty [.int .i64,.int .i64] n' g]=>some ⟨false,decide (n=n')&&decide (n<4611686018427387904),.tup [],[(id,.rowz true ty [.int .i64,.int .i64] n (YH n g))]⟩
  | _,_=>none)
 | [.nils,.fn (.func f) []]=>([],λbs=>match Nat.beq f 65,bs with
  | true,[]=>some ⟨false,true,.tup [],[]⟩
  | _,_=>none)
 | _=>([],λ_=>none)
theorem QTs(l:List Tw):(J1 l).length=l.length:=by unfold J1;rw[List.length_mergeSort]
theorem Qej:∀ w,(isAgg 89).run prog w = .ok true w:=Tryz.isAgg89
theorem Qeu:∀ w,(Go.sizeOf 89).run prog w = .ok 2 w:=Tryz.sizeOf89
theorem Qdb:QR prog 107 QGa:=by
 have hnone:∀(p:Option Addr) (cap:Nat) (fv:Value) (w:World),Calls prog 107 #[.slice p 0 cap,fv] w λe w'=>e = .returned (.tuple #[])/\w'=w:=AnyF.slices_SortFunc_none Tryz.sortTw;refine⟨by kernel_rfl,λargs nid all r w lk blks eff hH _ hv he hp=>?_⟩
 unfold QGa at hv he;split at he<;>(try (cases he;done))
 rotate_left
 .rename_i f hx;simp only at he;split at he<;>(try (cases he;done))
  rename_i hf;have hf:f=65:=qnb hf;subst hf;simp only[qsI]at he;subst he;refine(hnone none 0 (.func (.func 65) #[] #[]) w).mono ?_;rintro e w' ⟨rfl,rfl⟩;exact⟨r,rfl,λ_ _=>rfl,λp hp=>(by cases hp),⟨rfl,rfl,rfl,qlr _,qlr _,λ_ _ _=>rfl⟩,λp hp=>(by cases hp),λp hp=>(by cases hp),λp hp=>(by cases hp)⟩
 rename_i id n c f hx;simp only at he;split at he<;>(try (cases he;done))
 rename_i ty n' g hf;have hf:f=65:=qnb hf;subst hf;simp only[qsI]at he;subst he;simp only[qbA,qdE]at hp;obtain⟨hn,hlt⟩:=hp;subst hn;have hlk:lk id=some (.rowz true ty [.int .i64,.int .i64] n g):=by simpa using hv
 have hlk:lk id=some (.rowz true ty ksT n g):=hlk;obtain⟨h0,h4,hfoot,hnil,hrow,hcells⟩:=(show Kn r id w ty ksT.length n (QV ksT g)from hH.rep _ _ hlk);have hout:=hH.out _ _ hlk;have hrow':∀ i,i<n->(QV ksT (YH n g) i).length=ksT.length/\Jj (QV ksT (YH n g) i)=true:=λi _=>⟨XD _ _ _,J6 _ _ _⟩;cases hN:(r id).nil with
 | true=>
  have hz:=hnil hN;subst hz;refine(hnone ((r id).base 0) ((r id).room (c.den (r id).cap)) (.func (.func 65) #[] #[]) w).mono ?_;rintro e w' ⟨rfl,rfl⟩;refine⟨r,rfl,λ_ _=>rfl,?_,⟨rfl,rfl,rfl,qlr _,qlr _,λ_ _ _=>rfl⟩,?_,?_,?_⟩
  .intro p hp;rw[List.mem_singleton.1 hp];exact⟨h0,h4,hfoot,hnil,λi hi=>absurd hi (Nat.not_lt_zero _),λq=>by rw[hN]at q;cases q⟩
  .intro p hp hin;rw[List.mem_singleton.1 hp]at hin;rw[hout]at hin;cases hin
  .intro p hp _ _ k hk;rw[List.mem_singleton.1 hp]at hk;rw[List.mem_singleton.1 hp];exact⟨_,hlk,hk⟩
  .intro p hp q _ hin;rw[List.mem_singleton.1 hp]at hin;rw[hout]at hin;cases hin
 | false=>
  obtain⟨hcap,rest,hrest,hbk⟩:=hcells hN;rw[QKd]at hbk
  have hb:(r id).blk<w.heap.size:=by
   unfold bk at hbk;exact(Array.getElem?_eq_some_iff.1 hbk).1
  have eg:∀ args w,(callFunc 65 args).run prog w = .ok (.enter 65 args) w:=enters_of func65 (by kernel_rfl) rfl
  have hd:((List.range n).map (Yb g)).toArray.size=n:=by simp
  have hcon:=AnyQ.slices_SortFunc Tryz.sortTw 2 Qej Qeu JG (λ_=>rfl) (λx v hv=>by simp[JG]at hv;rcases hv with rfl|rfl<;>rfl) Jl QQa 65 #[] (r id).blk 0 ((r id).room (c.den (r id).cap)) ((List.range n).map (Yb g)).toArray w eg (QdR _ _ _ _) (Qgk hbk) hb (by rw[hd];exact hlt)
  rw[hd]at hcon
  have ha:AV.denL r [.slz id 0 n c,.fn (.func 65) []]=[.slice (some ⟨(r id).blk,0,none⟩) n ((r id).room (c.den (r id).cap)),.func (.func 65) #[] #[]]:=by
   simp only[AV.denL,AV.den,Loc.base,hN,h0,Nat.zero_mul,Nat.add_zero]
  rw[ha];refine hcon.mono ?_;rintro e w' ⟨rfl,d',m,os,hperm,hsort,rfl⟩;have hu:=sorted_unique_holds QQa QRP ((List.range n).map (Yb g)).toArray d' (by rw[hd];exact hperm) (by rw[hd];exact hsort)
  have hd':d'=(J1 ((List.range n).map (Yb g))).toArray:=Array.ext' (by rw[hu];rfl)
  subst hd';obtain⟨w1,w2,w3⟩:=QcU (m:=m) (os:=os) hbk (QTs _).symm;refine⟨r,rfl,λ_ _=>rfl,?_,⟨rfl,rfl,rfl,w3,Nat.le_add_right _ _,λk hk hc=>w2 k hk λe=>hc ⟨_,List.mem_singleton.2 rfl,hout,_,hlk,(hfoot k).2 ⟨hN,e⟩⟩⟩,?_,?_,?_⟩
  .intro p hp;rw[List.mem_singleton.1 hp];refine⟨h0,h4,hfoot,hnil,hrow',λ_=>⟨hcap,rest,hrest,?_⟩⟩;show bk _ _=some (.cells (AV.denL r (Q4 n (QV ksT (YH n g))).flatten++rest).toArray ty (0,0));rw[QW4];exact w1
  .intro p hp hin;rw[List.mem_singleton.1 hp]at hin;rw[hout]at hin;cases hin
  .intro p hp _ _ k hk;rw[List.mem_singleton.1 hp]at hk;rw[List.mem_singleton.1 hp];exact⟨_,hlk,hk⟩
  .intro p hp q _ hin;rw[List.mem_singleton.1 hp]at hin;rw[hout]at hin;cases hin
def QOq:Tab:=Qa QT 107 QGa
theorem Qeb:Qc QOq:=Qh.add Qdb
end Go.Proofs.YtekbmehgcofnkaaGreat
namespace Go.SX
open Go Go.RowKit Go.Proofs.YtekbmehgcofnkaaGreat
def JSt.dfrs(J:JSt)(D:Nat):JSt:=⟨J.len,J.live,(D,.dfr)::J.hp,J.nid⟩
def vH(D:Nat)(J:JSt):Bool:=J.live.all (λp=>p.2.all (λi=>i != D))&&(J.hp.all (λq=>q.1 != D&&q.2.all (λi=>i != D))&&decide (D<J.nid))
variable {w:World}
theorem Inv.subD{G:Ctx}{n0 D:Nat}{ls:List Nat}{st:St}{J:JSt}{a:Act}{r:Nat->Loc}{h':List (Nat×Blk)}(hI:Inv G st.tm.length r (QI st.tm) (look st.hp) a w)(hh:∀ id b,look h' id=some b->look st.hp id=some b)(hs:JZ n0 ls st.tm.length (ls.map (QI st.tm)) h' J)(hG:G.n<=n0)(hD:G.n<=D)(hf:vH D J=true):∃ g,Rep G J.nid ((J.dfrs D).inst g) a w:=by
 obtain⟨ps0,hsub,hall⟩:=hs.eqs;unfold QF at hsub;simp only at hsub;generalize WH n0 _ _ _ _=Q at hsub;split at hsub<;>(try (cases hsub;done))
 rename_i ps qs e1 e2 hck;simp only[qsI]at hsub;subst hsub;obtain⟨ha1,ha2⟩:=qX.1 hall;simp only[qbA]at hck;obtain⟨hsc,hinj,hlow,hnd,_⟩:=hck;unfold qd at hsc;simp only[List.all_eq_true,qbA,qdE]at hsc;unfold vH at hf;simp only[List.all_eq_true,qbA,qdE,bne_iff_ne,ne_eq]at hf;obtain⟨hf1,hf2,hf3⟩:=hf;have hz:ls.map (QI st.tm)=J.live.map (λp=>QI st.tm p.1):=by rw[<-hs.slots,List.map_map];rfl
 have hden:=eqL_den (hJ:=J.hp) r _ _ _ e1 ha1;rw[hz]at hden;have hsame:=QJI hden
 have hget:∀ t,QI ((J.dfrs D).inst λt=>a.tmps.getD t undef).tm t=if t<J.len then (match lkS J.live t with|some v=>v|none => .raw (a.tmps.getD t undef))else .tup []:=by
  intro t;have:=QAw (λt=>a.tmps.getD t undef) J.live J.len 0 t;rw[Nat.zero_add]at this;exact this
 have hblk:∀ id b,look J.hp id=some b->(QM (Q3 Q J.hp r) id w b/\∀ k,¬ Ql (Q3 Q J.hp r) id b k) ∨
   ∃ x b',JE Q id=some x/\x.c ≠ .ghost/\look st.hp x.s=some b'/\QM (Q3 Q J.hp r) id w b/\(∀ k,Ql (Q3 Q J.hp r) id b k->Ql r x.s b' k)/\(b.own=true->b'.own=true):=by
  intro id b hb;rcases QEv e2 ha2 _ (KH hb)with ⟨x,h1,h2,q1,h3,h4⟩|⟨x,b',h1,h2,h3,q1,h4,h5⟩
  .refine .inl (QL3 h3 h4 ?_);unfold Q3;rw[h1];obtain⟨_,s,c⟩:=x;simp only at h2;subst h2;simp only;rw[hb]
  .have:=QTK (hJ:=J.hp) (r:=r) (w:=w) (x:=x) h1 h4 h5 (hI.rep _ _ (hh _ _ h3));exact .inr ⟨x,b',h1,h2,hh _ _ h3,this.1,this.2.1,this.2.2⟩
 obtain⟨mf,hmf⟩:∃ m:Nat->Prop,∀ k,m k↔∃ id,G.n<=id/\look st.hp id=some .dfr/\(r id).foot k:=⟨_,λ_=>Iff.rfl⟩;let r2:Nat->Loc:=λi=>if i=D then ⟨0,0,0,0,false,.none,mf⟩else Q3 Q J.hp r i
 have hr2:∀ i,i≠D->r2 i=Q3 Q J.hp r i:=λi hi=>if_neg hi;have hrD:(r2 D).foot=mf:=by show(if D=D then _ else _:Loc).foot=mf;rw[if_pos rfl]
 have hcong:∀ i,(i != D)=true->Q3 Q J.hp r i=r2 i:=λi hi=>(hr2 i (by simpa using hi)).symm
 have hlk:∀ id b,look (J.dfrs D).hp id=some b->(id=D/\b = .dfr)∨(id≠D/\look J.hp id=some b/\b.all (λi=>i != D)=true):=by
  intro id b hb;simp only[JSt.dfrs,Kv]at hb;split at hb
  .rename_i he;simp only[Blk.live,if_true,qsI]at hb
   exact .inl ⟨by have : D = id := by simpa using he
                  exact this.symm,hb.symm⟩
  .rename_i he;exact .inr ⟨λe=>he (by simp[e]),hb,(hf2 _ (KH hb)).2⟩
 have hfoot:∀ id b k,id≠D->(Ql r2 id b k↔Ql (Q3 Q J.hp r) id b k):=λid b k hid=>by unfold Ql;rw[hr2 id hid]
 have hmk:∀ id b k,look J.hp id=some b->b.own=true->Ql (Q3 Q J.hp r) id b k->¬ mf k:=by
  intro id b k hb ho hk hm;obtain⟨id',_,h2,h3⟩:=(hmf k).1 hm;rcases hblk id b hb with h1|⟨x,c,_,_,g3,_,g4,g5⟩
  .exact h1.2 k hk
  .refine hI.sep _ _ c _ g3 h2 (λe=>?_) (g5 ho) k (g4 k hk) h3;rw[e,h2]at g3;simp only[qsI]at g3;have:=g5 ho;rw[<-g3]at this;cases this
 have hrep:∀ id b,look (J.dfrs D).hp id=some b->QM r2 id w b:=by
  intro id b hb;rcases hlk id b hb with ⟨rfl,rfl⟩|⟨h1,h2,h3⟩
  .intro k hk;rw[hrD]at hk;obtain⟨id',_,q2,q3⟩:=(hmf k).1 hk;exact hI.rep id' _ q2 k q3
  .have hb0:QM (Q3 Q J.hp r) id w b:=by
    rcases hblk id b h2 with q|⟨_,_,_,_,_,q,_⟩
    .exact q.1
    .exact q
   exact hb0.keep hcong (hr2 id h1).symm (qlr _) h3 λ_ _ _=>rfl
 refine⟨λt=>a.tmps.getD t undef,⟨r2,?_⟩,?_⟩
 .refine⟨?_,?_,λt=>?_,hrep,λid b hb=>Vz hb,λid id' b b' hb hb' hne ho k hk hk'=>?_,λid hid=>?_,hI.fr,λid b hb ho k hk=>?_⟩
  .rw[hI.size,hs.len];exact(QDb _ _ _ _).symm
  .obtain⟨bs,d1,d2,d3⟩:=hI.defers;refine⟨bs,d1,d2,λb hb=>?_⟩;obtain⟨q0,id,q1,q2,q3⟩:=d3 b hb;refine⟨q0,D,hD,by simp[JSt.inst,JSt.dfrs,Kv,Blk.live],?_⟩
   rw[hrD];exact(hmf b).2 ⟨id,q1,q2,q3⟩
  .rw[hget];split
   .split
    .rename_i v hv;rw[hI.tm t];refine(hsame _ (jc hv)).trans (XA hcong _ ?_);exact hf1 _ (jc hv)
    .rfl
   .rename_i hlt;rw[hI.tm t];have:QI st.tm t = .tup []:=by unfold QI;rw[List.getElem?_eq_none (by rw[hs.len];omega)];rfl
    rw[this];rfl
  .rcases hlk id b hb with ⟨rfl,rfl⟩|⟨h1,h2,h3⟩
   .cases ho
   .have hj:=(hfoot _ _ _ h1).1 hk;rcases hlk id' b' hb' with ⟨rfl,rfl⟩|⟨h1',h2',h3'⟩
    .have hj':(r2 id').foot k:=hk';rw[hrD]at hj';exact hmk id b k h2 ho hj hj'
    .have hj':=(hfoot _ _ _ h1').1 hk';rcases hblk id b h2 with q|⟨x,c,q1,q2,q3,_,q4,q5⟩
     .exact q.2 k hj
     .rcases hblk id' b' h2' with g1|⟨x',c',g1,g2,g3,_,g4,_⟩
      .exact g1.2 k hj'
      .exact hI.sep _ _ c c' q3 g3 (QJY hinj _ (KH h2) _ (KH h2') hne x x' q1 g1 q2 g2) (q5 ho) k (q4 k hj) (g4 k hj')
  .rw[hr2 id (by omega),<-hI.ext id hid]
   unfold Q3;cases hf:JE Q id with
   | none=>rfl
   | some x=>
    have hp:=QGJ hf;obtain⟨l1,l2⟩:=QIa hlow x (QHG hf) (by rw[hp];omega)
    obtain⟨p,s,c⟩:=x;simp only at hp l1 l2;subst l1;subst l2;subst hp;rfl
  .rcases hlk id b hb with ⟨rfl,rfl⟩|⟨h1,h2,h3⟩
   .cases ho
   .have hk:=(hfoot _ _ _ h1).1 hk;rcases hblk id b h2 with q|⟨x,c,q1,q2,q3,_,q4,q5⟩
    .exact absurd hk (q.2 k)
    .exact hI.own _ c q3 (q5 ho) k (q4 k hk)
 .refine⟨λt=>?_,λid b hb=>?_,λid b hb=>?_⟩
  .rw[hget];split
   .split
    .rename_i v hv;exact hsc.1 _ (jc hv)
    .rfl
   .rfl
  .rcases hlk id b hb with ⟨rfl,rfl⟩|⟨h1,h2,h3⟩
   .exact hf3
   .exact(hsc.2 _ (KH h2)).1
  .rcases hlk id b hb with ⟨rfl,rfl⟩|⟨h1,h2,h3⟩
   .rfl
   .exact(hsc.2 _ (KH h2)).2
theorem Rep.subD{G:Ctx}{n n0 D:Nat}{ls:List Nat}{st:St}{J:JSt}{a:Act}{w:World}{ids:List Nat}{vals:List AV}(h:Rep G n st a w)(hs:JZ n0 ls st.tm.length (ls.map (QI st.tm)) (Kz ids vals st.hp) J)(hG:G.n<=n0)(hD:G.n<=D)(hf:vH D J=true):∃ g,Rep G J.nid ((J.dfrs D).inst g) a w:=by
 obtain⟨⟨r,hI⟩,_⟩:=h;exact hI.subD (λid b hb=>Z5 hb) hs hG hD hf
def Gb(ids:List Nat)(ls:Ex->List Nat)(e:Ex)(st:St):QC := .leaf (.tup (QPi e :: .ptr st.tm.length 0 0::(ls e).map (QI st.tm))) (Kz ids ((ls e).map (QI st.tm)) st.hp)
theorem QfI{ids:List Nat}{ls:Ex->List Nat}{Cont:Nat->List AV->List (Nat×Blk)->Prop}{Out:Ex->Nat->List AV->List (Nat×Blk)->Prop}{e:Ex}{st:St}(h:(Gb ids ls e st).den (WE Cont Out)):
  (e = .normal/\Cont st.tm.length ((ls e).map (QI st.tm)) (Kz ids ((ls e).map (QI st.tm)) st.hp))∨(e ≠ .normal/\Out e st.tm.length ((ls e).map (QI st.tm)) (Kz ids ((ls e).map (QI st.tm)) st.hp)):=by
 cases e with
 | normal=>exact .inl ⟨rfl,h⟩
 | exit id=>exact .inr ⟨by simp,h⟩
 | ret=>exact .inr ⟨by simp,h⟩
section
variable {σ:Type} (I:σ->JSt) (pre:σ->Prop) (μ:σ->Nat) (R:σ->Ex->JSt->Prop) (n0 D:Nat) (ls:Ex->List Nat) (ids:List Nat)
structure QFe (E:σ->(Nat->Value)->Env) (H:σ->(Nat->Value)->Hnd) (body:Code):Prop where
 round:∀ s g,pre s->qg (WE (QEG I pre μ R n0 ls s) (QD4 R n0 ls s)) (exec (E s g) (H s g) body (((I s).dfrs D).inst g) (Gb ids ls))
variable {I pre μ R n0 D ls ids}
theorem QSt{E:σ->(Nat->Value)->Env}{P:Program}(hP:∀ s g,(E s g).P=P)(hE:∀ s g,pre s->(E s g).Sound){H:σ->(Nat->Value)->Hnd}{G:Ctx}(hG:G.n<=n0)(hD:G.n<=D){body:Code}(hH:∀ s g,pre s->Qw (E s g) G (H s g) body)(hn:∀ s,pre s->n0<=(I s).nid/\vH D (I s)=true)(hR:∀ s e J,R s e J->n0<=J.nid/\vH D J=true)(hr:QFe I pre μ R n0 D ls ids E H body){Q:Exit->Act->World->Prop}:∀(n:Nat) (s:σ) (g:Nat->Value) (a:Act) (w:World),μ s<n->pre s->Rep G (I s).nid (((I s).dfrs D).inst g) a w ->
  (∀ e J g a' w',R s e J->n0<=J.nid->Rep G J.nid ((J.dfrs D).inst g) a' w'->Q e.to a' w')->Code.roundsIn (FW G.rd) 0 P body Q n a w
 | 0,s,g,a,w,hm,_,_,_=>by omega
 | n+1,s,g,a,w,hm,hp,hrep,hQ=>by
  rw[roundsIn_succ];have hh:=hH s g hp;have h0:=(hr.round s g hp).den;generalize H s g=Hs at hh h0;have hEs:=hE s g hp;have hPs:=hP s g;generalize E s g=Es at hh h0 hEs hPs;subst hPs;have key:Jz Es G body (exec Es Hs body):=WZ hEs hh.call hh.yield body hh.loop;refine key (((I s).dfrs D).inst g) (Gb ids ls) _ _ a w (Nat.le_trans hG (hn s hp).1) h0 hrep ?_;intro e st' a' w' hn' hden hrep';rcases QfI hden with ⟨rfl,s',h1,h2,h3,h4⟩|⟨hne,J,h1,h2⟩
  .obtain⟨g',hr'⟩:=hrep'.subD h4 hG hD (hn s' h1).2;exact QSt hP hE hG hD hH hn hR hr n s' g' a' w' (by omega) h1 hr' (λe J g a' w' hR=>hQ e J g a' w' (h3 e J hR))
  .obtain⟨g',hr'⟩:=hrep'.subD h2 hG hD (hR _ _ _ h1).2;have:=hQ e J g' a' w' h1 (hR _ _ _ h1).1 hr';cases e with
   | normal=>exact absurd rfl hne
   | exit id=>exact this
   | ret=>exact this
end
def QDf(n0:Nat)(ids:List Nat)(J0:JSt)(X:List (Prop×Ex×JSt))(st:St)(K:Ex->St->QC):QC:=
 match Nat.beq st.tm.length J0.len with
 | true=>(match QF n0 ((J0.live.map (·.1)).map (QI st.tm)) (Kz ids ((J0.live.map (·.1)).map (QI st.tm)) st.hp) J0 with
  | some ps=>QAC ps (QAo K X)
  | none => .fail "a loop's beginning")
 | false => .fail "a loop's slots"
theorem QOh{σ:Type}{I:σ->JSt}{pre:σ->Prop}{μ:σ->Nat}{R:σ->Ex->JSt->Prop}{n0 D:Nat}{ls:Ex->List Nat}{ids ids':List Nat}{E0:Env}{E:σ->(Nat->Value)->Env}(hP:∀ s g,(E s g).P=E0.P)(hE:∀ s g,pre s->(E s g).Sound){H:σ->(Nat->Value)->Hnd}{G:Ctx}(hG:G.n<=n0)(hD:G.n<=D){body:Code}(hH:∀ s g,pre s->Qw (E s g) G (H s g) body)(hn:∀ s,pre s->n0<=(I s).nid/\vH D (I s)=true)(hR:∀ s e J,R s e J->n0<=J.nid/\vH D J=true)(hr:QFe I pre μ R n0 D ls ids E H body){s0:σ}(hp:pre s0){X:List (Prop×Ex×JSt)}(hX:∀ e J,R s0 e J->∃ x∈X,x.1/\x.2.1=e/\x.2.2=J.dfrs D):
  Jz E0 G (.loop body) (QDf n0 ids' (I s0) X):=by
 intro st K T Q a w hn' h hrep hQ;unfold QDf at h;split at h
 rotate_left
 .exact h.elim
 rename_i hl;split at h
 rotate_left
 .exact h.elim
 rename_i ps hps;have hlen:=qnb hl;obtain⟨ha,hx⟩:=QAK h;have hso:JZ n0 ((I s0).live.map (·.1)) st.tm.length (((I s0).live.map (·.1)).map (QI st.tm)) (Kz ids' (((I s0).live.map (·.1)).map (QI st.tm)) st.hp) (I s0):={ slots:=rfl,len:=hlen,eqs:=⟨ps,hps,ha⟩ };obtain⟨g,hr'⟩:=hrep.subD hso hG hD (hn s0 hp).2;refine wpIn_loop_rounds (μ s0+1) (QSt hP hE hG hD hH hn hR hr _ s0 g a w (Nat.lt_succ_self _) hp hr' ?_);intro e J g' a' w' hRe hnJ hrJ;obtain⟨x,h1,h2,h3,h4⟩:=hX e J hRe;have:=QAW hx x h1 h2 g';rw[h3,h4]at this
 exact hQ e ((J.dfrs D).inst g') a' w' (Nat.le_trans hG hnJ) this hrJ
end Go.SX
namespace Go.Proofs.YtekbmehgcofnkaaGreat
open Go.SX Go.SX.Told
def KA(c:Code):Code×Code:=match K5 c with
 | .rangeFunc _ _ ac body::_=>(ac,body)
 | _=>(.skip,.skip)
abbrev TJ:={f:Nat // True}
structure TwP where
 o:List Tw
 o2:List Tw
 p:Nat
 q:Nat
 g:Nat->Value
def rwT(id:Nat)(o:List Tw):Nat×Blk:=(id,.rowz true 89 kB o.length λi=>QA.enc (o.getD i ⟨0,0⟩))
variable (d:Puz)(E:ECt)(ac body:Code)(l2 l:List Lay)(p:Nat)(u2:Nat->Nat->Int)(f t f':Nat)
def twT(w0:TwP):List AV:=[.raw (w0.g 0),.ptr 112 0 0,.ptr 120 0 0,.raw (w0.g 3),.ptr 200 0 0,.ptr 296 0 0,.ptr 400 0 0,.ptr 432 0 0,.raw (w0.g 8),.raw (w0.g 9),.raw (w0.g 10),.raw (w0.g 11),.raw (w0.g 12),.raw (w0.g 13),.raw (w0.g 14),.raw (w0.g 15),.raw (w0.g 16),.raw (w0.g 17),.raw (w0.g 18),.raw (w0.g 19),.raw (w0.g 20),.int false .i64 d.ps.n,.int false .i64 w0.p,.raw (w0.g 23),.raw (w0.g 24),.int false .i64 w0.p,.int false .i64 w0.q,.bool true true,.int false .i64 w0.q,.ptr 200 0 0,.fn (.func 102) [.ptr 456 0 0,.ptr 464 0 0],.raw (w0.g 31),.raw (w0.g 32),.raw (w0.g 33),.raw (w0.g 34),.raw (w0.g 35),.raw (w0.g 36),.raw (w0.g 37),.raw (w0.g 38),.raw (w0.g 39),.raw (w0.g 40),.raw (w0.g 41),.raw (w0.g 42),.raw (w0.g 43),.raw (w0.g 44),.raw (w0.g 45),.raw (w0.g 46),.raw (w0.g 47)]
def QHw:List AV:=[.ptr 456 0 0,.ptr 504 0 0,.ptr 568 0 0,.ptr 464 0 0,.ptr 584 0 0]
def twR(w0:TwP):List (Nat×Blk):=
 [(584,.cellsR 0 31 [.fn (.func 103) QHw]),(504,.cellsR 0 105 [.yld 497]),(464,.cellsR 0 96 [.nils]),(456,.cellsR 0 90 [.ptr 200 0 0]),(432,.cellsR 0 3 [vi w0.q]),(400,.cellsR 0 3 [vi w0.p]),(296,.cellsR 0 90 [.ptr 288 0 0])]++Qi.blk 0 d.ps
def twW(ls:LoopState)(pe:Option Code)(oo:List Tw)(d:Puz)(E:ECt)(w0:TwP)(ac body:Code)(u:Nat->Nat->Int)(l:List Lay)(a w c b:Nat)(f:Nat):List (Nat×Blk):=
 [(200,.cells 0 152 (KS d++[.map 201,.slz a 0 l.length (.of 0)])),(201,.mp E.1 E.2),rwY a l,(568,.cells 0 114 [.slz w 0 d.ps.n (.of 0)]),rwU w d u,(497,.lp ls pe (twT d w0) #[31] ac body),(120,.cells 0 36 [.slz c 0 oo.length (.of 0)]),rwT c oo,bdZ d b f,(289,.mp E.1 E.2)]
def twS:List (Nat×AV):=[(0,.ptr 456 0 0),(1,.ptr 504 0 0),(2,.ptr 568 0 0),(3,.ptr 464 0 0),(4,.ptr 584 0 0)]
def GK(w0:TwP)(ac body:Code)(u:Nat->Nat->Int)(l:List Lay)(f:Nat):JSt:=⟨5,twS,twW .ready none w0.o d E w0 ac body u l 600 608 616 624 f++twR d w0,632⟩
def twU(w0:TwP)(ac body:Code)(u:Nat->Nat->Int)(l:List Lay)(f:Nat)(f':Nat):UC:=
 ⟨592,GK d E w0 ac body u l f,λ_=>.bool false true,λm=>twW .ready none w0.o d E w0 ac body u l m (m+1) (m+2) (m+3) f'⟩
def twV(w0:TwP)(ac body:Code)(u:Nat->Nat->Int)(l:List Lay)(f:Nat)(f':Nat):UC:=
 ⟨592,GK d E w0 ac body u l f,λ_=>.bool false false,λm=>twW .done (some (.exit 4)) w0.o2 d E w0 ac body u l m (m+1) (m+2) (m+3) f'⟩
def WS:List Nat:=[200,201,568,497,120,288,289]
def QI8(n:Nat)(p:Nat):List (Nat×AV):=twS++[(33,.int false .i64 n),(34,.int false .i64 p)]
def Qbg(n:Nat)(p:Nat)(tn:Int)(t:Nat):List (Nat×AV):=QI8 n p++[(6,.int false .i64 p),(43,.int false .i64 tn),(44,.int false .i64 t)]
def Hx(w0:TwP)(ac body:Code)(u:Nat->Nat->Int)(l:List Lay)(f:Nat)(p:Nat):JSt:=⟨101,QI8 d.ps.n p,twW .ready none w0.o d E w0 ac body u l 640 648 656 664 f++twR d w0,672⟩
def Gv(w0:TwP)(ac body:Code)(u:Nat->Nat->Int)(l:List Lay)(f:Nat)(p:Nat)(tn:Int)(t:Nat):JSt:=⟨101,Qbg d.ps.n p tn t,twW .ready none w0.o d E w0 ac body u l 640 648 656 664 f++twR d w0,672⟩
def HN(w0:TwP)(ac body:Code)(u:Nat->Nat->Int)(l:List Lay)(f:Nat):JSt:=⟨101,[],twW .ready none w0.o d E w0 ac body u l 640 648 656 664 f,672⟩
def QBt(w0:TwP)(ac body:Code)(u:Nat->Nat->Int)(l:List Lay)(f:Nat)(p:Nat):JSt:=⟨101,QI8 d.ps.n p,twW .ready none w0.o d E w0 ac body u l 640 648 656 664 f++twR d w0,672⟩
def twF(w0:TwP)(ac body:Code)(u:Nat->Nat->Int)(l:List Lay)(f:Nat):JSt:=⟨101,[(5,.bool false false)],twW .done (some (.exit 4)) w0.o2 d E w0 ac body u l 640 648 656 664 f,672⟩
def QKr:Ex->List Nat
 | .normal=>[0,1,2,3,4,33,34]
 | .exit _=>[]
 | .ret=>[5]
def QHo:Ex->List Nat
 | .normal=>[0,1,2,3,4,33,34,6,43,44]
 | .exit _=>[0,1,2,3,4,33,34]
 | .ret=>[5]
def H4(pb1 pb2:List Prop->Bool)(d:Puz)(E:ECt)(w0:TwP)(l:List Lay)(x:Lay)(v:Bool)(U:UC):Tab:=Qa (Qa QT 105 (KM pb1 (myU d E l x v))) 103 (KM pb2 U)
noncomputable abbrev waL:List AV:=[.ptr 456 0 0,.ptr 504 0 0,.ptr 568 0 0,.ptr 464 0 0,.ptr 584 0 0]
noncomputable abbrev GH(tn:Int):List AV:=
  (.nilp::.ptr 101 0 0::List.append (waL) ((List.append (wbp d p) ([.int false .i64 tn,vi (i64.wrap ((t:Int)+1))]))))
noncomputable abbrev vK:Nat×Blk:=
  (456,.cellsR 0 90 [.ptr 200 0 0])
noncomputable abbrev QCL:Nat×Blk:=
  (584,.cellsR 0 31 [.fn (Fn.func 103) (waL)])
noncomputable abbrev jV:Nat×Blk:=
  (0,.frz (wae) d.ps.n λi=>QA.enc (d.ps.get i))
noncomputable abbrev jM:Nat×Blk:=
  (296,.cellsR 0 90 [.ptr 288 0 0])
noncomputable abbrev vw(w0:TwP):Nat×Blk:=
  (400,.cellsR 0 3 [vi (w0.p:Int)])
noncomputable abbrev vX(w0:TwP):Nat×Blk:=
  (432,.cellsR 0 3 [vi (w0.q:Int)])
noncomputable abbrev waV:List (Nat×Blk):=[(504,.cellsR 0 105 [.yld 497]),(464,.cellsR 0 96
  [.nils])]
noncomputable abbrev qt(d:Puz)(f:Nat)(l:List Lay)(u:Nat->Nat->Int)(w0:TwP):List (Nat×Blk):=
  ((200,.cells 0 152 (List.append (waf d) ([.map 201,.slz 640 0 l.length cO])))::(201,.mp E.1 E.2)::(568,.cells 0 114 [.slz
  648 0 d.ps.n cO])::(497,.lp LoopState.ready none (twT d w0) (Array.mk [31]) ac body)::(120,.cells 0 36 [.slz 656 0 w0.o.length cO])::(288,.cells 0 152 (.int false
  .i64 d.pK.length::vi d.pK.aK::vi d.pK.oK::vi d.pK.dK.lo::vi d.pK.dK.hi::vi d.wide::.int false
  .i64 d.high::List.append (wby d) ([.map 289,.slz 664 0 f cO])))::(289,.mp E.1 E.2)::vK::List.append (waV) ([QCL,(jV d),(640,.rowz true 49 kB l.length λi=>QA.enc (l.getD i (Lay.mk (0:Int) (0:Int)))),(648,.rowz true 4 [CK.bool] d.ps.n u),jM,(vw w0),(vX w0),(656,.rowz true 89 kB w0.o.length λi=>QA.enc (w0.o.getD i (Tw.mk (0:Int) (0:Int))))]))
abbrev QP6(d:Puz)(l:List Lay)(p:Nat)(t:Nat):List Prop:=
  ([0=0,0=0,(p:Int)=(p:Int),(t:Int)=(t:Int)]++waa d++(([cO=cO,0=0,l.length=l.length,cO
  = cO]++wag l++[E.1=E.1,E.2=E.2])++wad d))
abbrev was(w0:TwP):List Prop:=[w0.o.length <=
  w0.o.length,QB 2 w0.o.length (λi=>QA.enc (w0.o.getD i (Tw.mk (0:Int) (0:Int)))) λi=>QA.enc (w0.o.getD i (Tw.mk (0:Int) (0:Int)))]
abbrev wbZ(w0:TwP):List Prop:=[(w0.q:Int)=(w0.q:Int),(w0.p:Int)=(w0.p:Int),0=0,0=0]
abbrev QUp(d:Puz)(f:Nat)(l:List Lay)(l2:List Lay)(p:Nat)(t:Nat)(u:Nat->Nat->Int)(u2:Nat->Nat->Int)(w0:TwP):List Prop:=
  ((wbK)++waa d++(([cO=cO,0=0,l.length+1=l2.length,cO=cO,E.1=E.1,E.2=E.2]++waW l l2 p t++(wbo d++[QB 1 d.ps.n (λi=>bif decide (i=p)then Ki [.bool true true] 0 (u ((p:Int).toNat+0))else u i) u2]))++wai++(([Array.mk [31]=Array.mk [31],ac=ac,body=body,w0.5 0=w0.5 0,0=0,0=0,0=0,0=0,w0.5 3=w0.5 3,0=0,0=0,0=0,0=0,0=0,0=0,0=0,0=0,w0.5 8 =
  w0.5 8,w0.5 9=w0.5 9,w0.5 10=w0.5 10,w0.5 11=w0.5 11,w0.5 12=w0.5 12,w0.5 13=w0.5 13,w0.5 14=w0.5 14,w0.5 15=w0.5 15,w0.5 16=w0.5 16,w0.5 17=w0.5 17,w0.5
  18=w0.5 18,w0.5 19=w0.5 19,w0.5 20=w0.5 20,(d.ps.n:Int)=(d.ps.n:Int),(w0.p:Int)=(w0.p:Int),w0.5 23=w0.5 23,w0.5 24=w0.5 24,(w0.p:Int)=(w0.p:Int),(w0.q:Int)=(w0.q:Int),true=true,(w0.q:Int)=(w0.q:Int),0=0,0=0]++wbV++[w0.5 31=w0.5 31,w0.5 32=w0.5 32,w0.5 33=w0.5 33,w0.5 34=w0.5 34,w0.5 35=w0.5 35,w0.5 36=w0.5 36,w0.5 37=w0.5 37,w0.5 38=w0.5 38,w0.5 39=w0.5 39,w0.5 40=w0.5 40,w0.5 41=w0.5 41,w0.5 42 =
  w0.5 42,w0.5 43=w0.5 43,w0.5 44=w0.5 44,w0.5 45=w0.5 45,w0.5 46=w0.5 46,w0.5 47=w0.5 47,0=0,w0.o.length=w0.o.length,cO=cO])++was w0))++waa d++(([cO=cO,0=0,f=f,cO=cO,E.1=E.1,E.2=E.2,Fn.func 103=Fn.func 103]++wbK++([0=0,0=0]++wbZ w0))++wad d))
noncomputable abbrev HS:Nat×Blk:=
  (200,.cells 0 152 (List.append (waf d) ([.map 201,.slz 984 0 (i64.wrap ((l2.length:Int)-1)).toNat cO])))
noncomputable abbrev Hj:Nat×Blk:=
  (568,.cells 0 114 [.slz 985 0 d.ps.n cO])
noncomputable abbrev QIr(w0:TwP):Nat×Blk:=
  (120,.cells 0 36 [.slz 986 0 w0.o.length cO])
noncomputable abbrev Hy:Nat×Blk:=
  (288,.cells 0 152 (List.append (waf d) ([.map 289,.slz 987 0 f' cO])))
noncomputable abbrev G4:Nat×Blk:=
  (984,.rowz true 49 kB l2.length λi=>QA.enc (l2.getD i (Lay.mk (0:Int) (0:Int))))
noncomputable abbrev zT:Nat×Blk:=
  (985,.rowz true 4 [CK.bool] d.ps.n λi=>bif decide (i=p)then Ki [.bool true false] 0 (u2 ((p:Int).toNat+0))else u2 i)
noncomputable abbrev QG0(w0:TwP):Nat×Blk:=
  (986,.rowz true 89 kB w0.o.length λi=>QA.enc (w0.o.getD i (Tw.mk (0:Int) (0:Int))))
noncomputable abbrev QM0:List AV:=
  (.ptr 2 0 0::.ptr 101 0 0::List.append (waL) ([vi (d.ps.n:Int),vi (p:Int)]))
theorem QeB(pb1 pb2:List Prop->Bool)(d:Puz)(E:ECt)(w0:TwP)(ac body:Code)(u u2:Nat->Nat->Int)(l l2:List Lay)(v:Bool)(f:Nat)(p:Nat)(tn:Int)(t:Nat)(f':Nat)(g0:Nat->Value):exec (mkE prog (H4 pb1 pb2 d E w0 l ⟨p,t⟩ v (twU d E w0 ac body u2 l2 f f'))) (hnd (mkE prog (H4 pb1 pb2 d E w0 l ⟨p,t⟩ v (twU d E w0 ac body u2 l2 f f'))) 0) (QU (QH f103 0)) (JSt.inst (Gv d E w0 ac body u l f p tn t) g0) (Q9 WS QHo) = .br (decide ((t:Int)<tn)) (.need (true) (.br (!Qx (Rw.mk 0 λi=>Pt.mk (0:Int) (Lay.mk (0:Int) (0:Int))) (l.length:Int) (Lay.mk (p:Int) (t:Int))) (.leaf (.tup (GH d p t tn)) ((qt E ac body d f l u w0))) (.need (pb1 ((QP6 E d l p t))) (.br (!v) (.leaf (.tup (GH d p t tn)) ((qt E ac body d f l u w0))) (.need (decide ((0:Int)<=(p:Int)/\(p:Int)<(d.ps.n:Int))&&decide (d.ps.n<=d.ps.n)) (.need (decide (p<d.ps.n)) (.need (decide (l.length<=l.length)&&(true&&decide ((l.length+1+(l.length+1) / 4+192)*16<=281474976710656/\l.length+1<=9223372036854775807))) (.need (pb2 ((QUp E ac body d f l l2 p t u u2 w0))) (.need (decide ((0:Int)<=i64.wrap ((l2.length:Int)-1)/\(i64.wrap ((l2.length:Int)-1)).toNat<=l2.length-0)) (.need (decide ((0:Int)<=(p:Int)/\(p:Int)<(d.ps.n:Int))&&decide (d.ps.n<=d.ps.n)) (.need (decide (p<d.ps.n)) (.br (false) (.leaf (.tup (wbI)) ([(HS d l2),(201,.mp E.1 E.2),(Hj d),(497,.lp LoopState.ready none (twT d w0) (Array.mk [31]) ac body),(QIr w0),(Hy d f'),(289,.mp E.1 E.2),(jV d),(G4 l2),(zT d p u2),jM,(vw w0),(vX w0),vK,(464,.cellsR 0 96 [.nils]),(QG0 w0)])) (.leaf (.tup (GH d p t tn)) (((HS d l2)::(201,.mp E.1 E.2)::(Hj d)::(497,.lp LoopState.ready none (twT d w0) (Array.mk [31]) ac body)::(QIr w0)::(Hy d f')::(289,.mp E.1 E.2)::vK::List.append (waV) ([QCL,(jV d),(G4 l2),(zT d p u2),jM,(vw w0),(vX w0),(QG0 w0)])))))))))))))))) (.leaf (.tup (QM0 d p)) ((qt E ac body d f l u w0))):=by kernel_rfl
noncomputable abbrev QMa(tn:Int):List AV:=
  (List.append (waL) ((List.append (wbp d p) ([vi tn,.int
  false .i64 (i64.wrap ((t:Int)+1))]))))
abbrev wao(d:Puz)(w0:TwP):List Prop:=[w0.g 11=w0.g 11,w0.g 12=w0.g 12,w0.g 13=w0.g 13,w0.g 14=w0.g 14,w0.g 15=w0.g 15,w0.g 16=w0.g 16,w0.g 17=w0.g 17,w0.g 18=w0.g 18,w0.g 19=w0.g 19,w0.g 20=w0.g 20,(d.ps.n :
  Int)=(d.ps.n:Int),(w0.p:Int)=(w0.p:Int),w0.g 23=w0.g 23,w0.g 24=w0.g 24,(w0.p:Int)=(w0.p:Int),(w0.q:Int)=(w0.q:Int)]
abbrev wbc(w0:TwP):List Prop:=[w0.g 45=w0.g 45,w0.g 46=w0.g 46,w0.g 47=w0.g 47]
abbrev wbr(w0:TwP):List Prop:=[w0.g 31=w0.g 31,w0.g 32=w0.g 32,w0.g 33=w0.g 33,w0.g 34=w0.g 34,w0.g
  35=w0.g 35,w0.g 36=w0.g 36,w0.g 37=w0.g 37,w0.g 38=w0.g 38,w0.g 39=w0.g 39,w0.g 40=w0.g 40,w0.g 41=w0.g 41,w0.g 42=w0.g 42,w0.g 43=w0.g 43,w0.g 44=w0.g
  44]
abbrev wbP(E:ECt):List Prop:=[cO=cO,E.1=E.1,E.2=E.2,Fn.func 103=Fn.func (103:FuncId)]
abbrev QbY(d:Puz)(f:Nat)(l:List Lay)(p:Nat)(t:Nat)(t':Nat)(tn:Int)(u:Nat->Nat->Int)(w0:TwP):List Prop:=
  (((wbK)++waF d p++[tn=tn,i64.wrap ((t :
  Int)+1)=(t':Int)])++waa d++(([cO=cO,0=0]++wbL E l)++wag l++((wbo d++[QB 1 d.ps.n u u])++wai++([Array.mk [31]=Array.mk [(31:Tmp)],ac=ac,body=body,w0.g 0 =
  w0.g 0,0=0,0=0,0=0,0=0,w0.g 3=w0.g 3,0=0,0=0,0=0,0=0,0=0,0=0,0=0,0=0,w0.g 8=w0.g 8,w0.g 9=w0.g 9,w0.g 10=w0.g 10]++wao d w0++((([true=true,(w0.q:Int)=(w0.q
  : Int),0=0,0=0]++wbO)++wbr w0)++wbc w0++[0=0,w0.o.length=w0.o.length,cO=cO,w0.o.length<=w0.o.length,QB 2 w0.o.length (λi=>
  QA.enc (w0.o.getD i (Tw.mk (0:Int) (0:Int)))) λi=>QA.enc (w0.o.getD i (Tw.mk (0:Int) (0:Int)))]))))++waa d++((([cO =
  cO,0=0,f=f]++wbP E)++wbK++([0=0,0=0]++wbZ w0))++wad d))
theorem QQE(w0:TwP)(ac body:Code)(u:Nat->Nat->Int)(l:List Lay)(f:Nat)(p:Nat)(tn:Int)(t t':Nat):QF 632 (QMa d p t tn) ((qt E ac body d f l u w0)) (Gv d E w0 ac body u l f p tn t')=(some (QbY E ac body d f l p t t' tn u w0)):=by kernel_rfl
abbrev Zm:List Prop:=
  [0=0,0=0,0=0,0=0,0=0,0=0]
abbrev QA1:List Prop:=
  [0=0,0=0,0=0,0=0]
abbrev zV:List Prop:=
  (waa d++[cO=cO,0=0])
abbrev QQL(d:Puz)(l:List Lay)(l2:List Lay)(p:Nat)(u2:Nat->Nat->Int)(u3:Nat->Nat->Int):List Prop:=
  ([cO=cO]++waO E l l2++(wbo d++[QB 1 d.ps.n (λi=>bif decide (i=p)then Ki [.bool true false] 0 (u2 ((p:Int).toNat
  + 0))else u2 i) u3]))
abbrev QJ4(w0:TwP):List Prop:=
  [0=0,0=0,w0.g 8=w0.g 8,w0.g 9=w0.g 9]
abbrev wbd(w0:TwP):List Prop:=(wbr w0)
abbrev wap(w0:TwP):List Prop:=(wbd w0)
abbrev QFy(w0:TwP):List Prop:=
  ([w0.g 10=w0.g 10]++wao d w0++(([true=true,(w0.q:Int)=(w0.q:Int),0=0,0=0]++wbO)++wap w0))
abbrev QTr(w0:TwP):List Prop:=
  ((wbc w0++[0=0,w0.o.length=w0.o.length,cO=cO])++was w0)
abbrev QTa(w0:TwP):List Prop:=
  ((wbZ w0)++wad d)
theorem Qf7(w0:TwP)(ac body:Code)(u u2 u3:Nat->Nat->Int)(l l2:List Lay)(p:Nat)(tn:Int)(t t':Nat)(f':Nat):QF 632 (QMa d p t tn) (((HS d l2)::(201,.mp E.1 E.2)::(Hj d)::(497,.lp LoopState.ready none (twT d w0) (Array.mk [31]) ac body)::(QIr w0)::(Hy d f')::(289,.mp E.1 E.2)::vK::List.append (waV) ([QCL,(jV d),(G4 l2),(zT d p u2),jM,(vw w0),(vX w0),(QG0 w0)]))) (Gv d E w0 ac body u3 l f' p tn t')=(some (Zm++QA1++(waF d p++[tn=tn,i64.wrap ((t:Int)+1)=(t':Int)])++(zV d)++[(i64.wrap ((l2.length:Int)-1)).toNat=l.length]++(QQL E d l l2 p u2 u3)++(wai++[Array.mk [31]=Array.mk [(31:Tmp)],ac=ac,body=body,w0.g 0=w0.g 0])++QA1++[w0.g 3=w0.g 3]++Zm++(QJ4 w0)++(QFy d w0)++(QTr w0)++(zV d)++([f'=f']++wbP E)++Zm++Zm++(QTa d w0))):=by kernel_rfl
theorem QPg(w0:TwP)(ac body:Code)(u:Nat->Nat->Int)(l:List Lay)(f:Nat)(p:Nat):QF 632 (List.append (waL) ([vi (d.ps.n:Int),vi (p:Int)])) ((qt E ac body d f l u w0)) (QBt d E w0 ac body u l f p)=(some (Zm++QA1++[(d.ps.n:Int)=(d.ps.n:Int),(p:Int)=(p:Int)]++(zV d)++((wbL E l)++wag l++((wbo d++[QB 1 d.ps.n u u])++wai++[Array.mk [31]=Array.mk [(31:Tmp)],ac=ac,body=body,w0.g 0=w0.g 0]))++QA1++[w0.g 3=w0.g 3]++Zm++(QJ4 w0)++(QFy d w0)++(QTr w0)++(zV d)++([f=f]++wbP E)++Zm++Zm++(QTa d w0))):=by kernel_rfl
noncomputable abbrev QH9(w0:TwP):Nat×Blk:=
  (120,.cells 0 36 [.slz 986 0 w0.o2.length cO])
noncomputable abbrev QHF(w0:TwP):Nat×Blk:=
  (986,.rowz true 89 kB w0.o2.length λi=>QA.enc (w0.o2.getD i (Tw.mk (0:Int) (0:Int))))
theorem QZf(pb1 pb2:List Prop->Bool)(d:Puz)(E:ECt)(w0:TwP)(ac body:Code)(u u2:Nat->Nat->Int)(l l2:List Lay)(v:Bool)(f:Nat)(p:Nat)(tn:Int)(t:Nat)(f':Nat)(g0:Nat->Value):exec (mkE prog (H4 pb1 pb2 d E w0 l ⟨p,t⟩ v (twV d E w0 ac body u2 l2 f f'))) (hnd (mkE prog (H4 pb1 pb2 d E w0 l ⟨p,t⟩ v (twV d E w0 ac body u2 l2 f f'))) 0) (QU (QH f103 0)) (JSt.inst (Gv d E w0 ac body u l f p tn t) g0) (Q9 WS QHo) = .br (decide ((t:Int)<tn)) (.need (true) (.br (!Qx (Rw.mk 0 λi=>Pt.mk (0:Int) (Lay.mk (0:Int) (0:Int))) (l.length:Int) (Lay.mk (p:Int) (t:Int))) (.leaf (.tup (GH d p t tn)) ((qt E ac body d f l u w0))) (.need (pb1 ((QP6 E d l p t))) (.br (!v) (.leaf (.tup (GH d p t tn)) ((qt E ac body d f l u w0))) (.need (decide ((0:Int)<=(p:Int)/\(p:Int)<(d.ps.n:Int))&&decide (d.ps.n<=d.ps.n)) (.need (decide (p<d.ps.n)) (.need (decide (l.length<=l.length)&&(true&&decide ((l.length+1+(l.length+1) / 4+192)*16<=281474976710656/\l.length+1<=9223372036854775807))) (.need (pb2 ((QUp E ac body d f l l2 p t u u2 w0))) (.need (decide ((0:Int)<=i64.wrap ((l2.length:Int)-1)/\(i64.wrap ((l2.length:Int)-1)).toNat<=l2.length-0)) (.need (decide ((0:Int)<=(p:Int)/\(p:Int)<(d.ps.n:Int))&&decide (d.ps.n<=d.ps.n)) (.need (decide (p<d.ps.n)) (.br (true) (.leaf (.tup (wbI)) ([(HS d l2),(201,.mp E.1 E.2),(Hj d),(497,.lp LoopState.done (some (Code.exit 4)) (twT d w0) (Array.mk [31]) ac body), (QH9 w0),(Hy d f'),(289,.mp E.1 E.2),(jV d),(G4 l2),(zT d p u2),jM,(vw w0),(vX w0),vK,(464,.cellsR 0 96 [.nils]),(QHF w0)])) (.leaf (.tup (GH d p t tn)) (((HS d l2)::(201,.mp E.1 E.2)::(Hj d)::(497,.lp LoopState.done (some (Code.exit 4)) (twT d w0) (Array.mk [31]) ac body)::(QH9 w0)::(Hy d f')::(289,.mp E.1 E.2)::vK::List.append (waV) ([QCL,(jV d),(G4 l2),(zT d p u2),jM,(vw w0),(vX w0),(QHF w0)])))))))))))))))) (.leaf (.tup (QM0 d p)) ((qt E ac body d f l u w0))):=by kernel_rfl
noncomputable abbrev wbh:List Prop:=[LoopState.done=LoopState.done,some (Code.exit 4)=some (Code.exit 4),Array.mk [31]=Array.mk [(31:Tmp)]]
abbrev wbx(w0:TwP):List Prop:=[w0.o2.length<=w0.o2.length,QB 2 w0.o2.length (λi=>QA.enc (w0.o2.getD i (Tw.mk (0:Int) (0:Int)))) λi=>QA.enc (w0.o2.getD i (Tw.mk (0:Int) (0:Int)))]
theorem Qft(w0:TwP)(ac body:Code)(u2 u3:Nat->Nat->Int)(l l2:List Lay)(p:Nat)(f':Nat):QF 632 [.bool true false] ([(HS d l2),(201,.mp E.1 E.2),(Hj d),(497,.lp LoopState.done (some (Code.exit 4)) (twT d w0) (Array.mk [31]) ac body),(QH9 w0),(Hy d f'), (289,.mp E.1 E.2),(jV d),(G4 l2),(zT d p u2),jM,(vw w0),(vX w0),vK,(464,.cellsR 0 96 [.nils]),(QHF w0)]) (twF d E w0 ac body u3 l f')=(some ([false=false]++(zV d)++[(i64.wrap ((l2.length:Int)-1)).toNat=l.length]++(QQL E d l l2 p u2 u3)++(wbh++[ac=ac,body=body,w0.g 0=w0.g 0])++QA1++[w0.g 3=w0.g 3]++Zm++(QJ4 w0)++(QFy d w0)++(wbc w0++([0=0,w0.o2.length=w0.o2.length,cO=cO]++wbx w0))++(zV d)++[f'=f',cO=cO,E.1=E.1,E.2=E.2])):=by kernel_rfl
def qJ(pb:List Prop->Bool)(d:Puz)(n:Nat)(a:Int):Tab:=Qa QT 52 (KM pb (tnU d n a))
abbrev QC0(P:Program)(pb:List Prop->Bool)(d:Puz)(E:ECt)(w0:TwP)(ac body:Code)(u:Nat->Nat->Int)(l:List Lay)(f:Nat)(p:Nat)(X:List (Prop×Ex×JSt)):Hnd:={ hnd (mkE P (qJ pb d l.length p)) 0 with loop:=λ_=>JT (p<d.ps.n/\u p 0=0) (KC 632 WS (Gv d E w0 ac body u l f p (tnV d p) (0:Nat)) X) }
noncomputable abbrev QRQ:List AV:=
  (.nilp::.ptr 101 0 0::List.append (waL) ([vi (d.ps.n:Int),vi (i64.wrap ((p:Int)+1))]))
noncomputable abbrev Xv:Nat×Blk:=
  (200,.cells 0 152 (List.append (waf d) ([.map 201,.slz 640 0 l.length cO])))
noncomputable abbrev YM:Nat×Blk:=
  (568,.cells 0 114 [.slz 648 0 d.ps.n cO])
noncomputable abbrev GQ(d:Puz)(w0:TwP):Nat×Blk:=
  (497,.lp LoopState.ready none (twT d w0) (Array.mk [31]) ac body)
noncomputable abbrev W3(w0:TwP):Nat×Blk:=
  (120,.cells 0 36 [.slz 656 0 w0.o.length cO])
noncomputable abbrev QEp:Nat×Blk:=
  (288,.cells 0 152 (List.append (waf d) ([.map 289,.slz 664 0 f cO])))
noncomputable abbrev G8:Nat×Blk:=
  (456,.cellsR 0 90 [.ptr 200 0 0])
noncomputable abbrev QCb:Nat×Blk:=
  (584,.cellsR 0 31 [.fn (Fn.func 103) (waL)])
noncomputable abbrev Gu:Nat×Blk:=
  (0,.frz (wae) d.ps.n λi=>QA.enc (d.ps.get i))
noncomputable abbrev Xu:Nat×Blk:=
  (640,.rowz true 49 kB l.length λi=>QA.enc (l.getD i (Lay.mk (0:Int) (0:Int))))
noncomputable abbrev zQ:Nat×Blk:=
  (296,.cellsR 0 90 [.ptr 288 0 0])
noncomputable abbrev G2(w0:TwP):Nat×Blk:=
  (400,.cellsR 0 3 [vi (w0.p:Int)])
noncomputable abbrev Gt(w0:TwP):Nat×Blk:=
  (432,.cellsR 0 3 [vi (w0.q:Int)])
noncomputable abbrev ql(w0:TwP):Nat×Blk:=
  (656,.rowz true 89 kB w0.o.length λi=>QA.enc (w0.o.getD i (Tw.mk (0:Int) (0:Int))))
noncomputable abbrev Wu:Nat×Blk:=
  (288,.cells 0 152 (List.append (waf d) ([.map 289,.slz 664 0 f' cO])))
noncomputable abbrev QEO(w0:TwP):Nat×Blk:=
  (120,.cells 0 36 [.slz 656 0 w0.o2.length cO])
noncomputable abbrev QDp(w0:TwP):Nat×Blk:=
  (656,.rowz true 89 kB w0.o2.length λi=>QA.enc (w0.o2.getD i (Tw.mk (0:Int) (0:Int))))
theorem QTN(pb:List Prop->Bool)(d:Puz)(E:ECt)(w0:TwP)(ac body:Code)(u u':Nat->Nat->Int)(l:List Lay)(f:Nat)(p:Nat)(A B:Prop)(f':Nat)(g0:Nat->Value):exec (mkE prog (qJ pb d l.length p)) (QC0 prog pb d E w0 ac body u l f p [(A,.exit 2,QBt d E w0 ac body u' l f' p),(B,.ret,twF d E w0 ac body u' l f')]) (QH f103 0) (JSt.inst (Hx d E w0 ac body u l f p) g0) (Q9 WS QKr) = .br (decide ((p:Int)<(d.ps.n:Int))) (.need (decide ((0:Int)<=(p:Int)/\(p:Int)<(d.ps.n:Int))&&decide (d.ps.n<=d.ps.n)) (.need (decide (p<d.ps.n)) (.br (decide (u ((p:Int).toNat+0) 0=1)) (.leaf (.tup (QRQ d p)) (((Xv d l)::(201,.mp E.1 E.2)::(YM d)::(GQ ac body d w0)::(W3 w0)::(QEp d f)::(289,.mp E.1 E.2)::G8::List.append (waV) ([QCb,(Gu d),(Xu l),(648,.rowz true 4 [CK.bool] d.ps.n u),zQ,(G2 w0),(Gt w0),(ql w0)])))) (.need (pb (([0=0,0=0,(p:Int)=(p:Int)]++waa d++([cO=cO,0=0,l.length=l.length,cO=cO]++wad d)))) (.ak [p<d.ps.n/\u p 0=0] (.ak (rz 10) (.ak ((waF d p++[tnV d (p:Int)=tnV d (p:Int),(0:Int)=0])++waa d++(([cO=cO,0=0]++wbL E l)++wag l++((wbo d++[QB 1 d.ps.n u u])++wai++[Array.mk [(31:Tmp)]=Array.mk [(31:Tmp)],ac=ac,body=body,w0.g 0=w0.g 0,0=0,0=0,0=0,0=0,w0.g 3=w0.g 3]))) (.ak (rz 8) (.ak (([w0.g 8=w0.g 8,w0.g 9=w0.g 9,w0.g 10=w0.g 10]++wao d w0++(([true=true,(w0.q:Int)=(w0.q:Int),0=0,0=0]++wbO)++wap w0++((wbc w0++[0=0,w0.o.length=w0.o.length,cO=cO])++was w0)))++waa d++[cO=cO,0=0,f=f,cO=cO,E.1=E.1,E.2=E.2,Fn.func (103:FuncId)=Fn.func (103:FuncId)]) (.ak (rz 12) (.ak ((wbZ w0)++wad d) (.both (.asm (A) (.all (λ(g0:Nat -> Value)=>.leaf (.tup (QRQ d p)) (((Xv d l)::(201,.mp E.1 E.2)::(YM d)::(GQ ac body d w0)::(W3 w0)::(Wu d f')::(289,.mp E.1 E.2)::G8::List.append (waV) ([QCb,(Gu d),(Xu l),(648,.rowz true 4 [CK.bool] d.ps.n u'),zQ,(G2 w0),(Gt w0),(ql w0)])))))) (.asm (B) (.all (λ(g1:Nat -> Value)=>.leaf (.tup [.nili,.ptr 101 0 0,.bool false false]) ([(Xv d l),(201,.mp E.1 E.2),(YM d),(497,.lp LoopState.done (some (Code.exit 4)) (twT d w0) (Array.mk [31]) ac body),(QEO w0),(Wu d f'),(289,.mp E.1 E.2),(Xu l),(648,.rowz true 4 [CK.bool] d.ps.n u'),(QDp w0)])))))))))))))))) (.leaf (.tup [.ptr 0 0 0,.ptr 101 0 0]) ([(Xv d l),(201,.mp E.1 E.2),(YM d),(GQ ac body d w0),(W3 w0),(QEp d f),(289,.mp E.1 E.2),(Gu d),(Xu l),(648,.rowz true 4 [CK.bool] d.ps.n u),zQ,(G2 w0),(Gt w0),G8,(464,.cellsR 0 96 [.nils]),(ql w0)])):=by kernel_rfl
noncomputable abbrev QSJ:List AV:=
  (List.append (waL) ([vi (d.ps.n:Int),vi (i64.wrap ((p:Int)+1))]))
abbrev XK:List Prop:=
  [0=0,0=0,0=0,0=0,0=0]
abbrev YP:List Prop:=
  (waa d++[cO=cO,0=0])
abbrev GI(d:Puz)(l:List Lay):List Prop:=
  ((wbL E l)++wag l++(wbo d))
abbrev QHx:List Prop:=
  (wai++[Array.mk [31]=Array.mk [(31:Tmp)],ac=ac])
abbrev HT(w0:TwP):List Prop:=
  [w0.g 0=w0.g 0,0=0,0=0,0=0,0=0,w0.g 3=w0.g 3]
abbrev Gz(w0:TwP):List Prop:=
  [0=0,0=0,0=0,w0.g 8=w0.g 8,w0.g 9=w0.g 9]
abbrev zX(w0:TwP):List Prop:=
  ([w0.g 10=w0.g 10]++wao d w0++(([true=true,(w0.q:Int)=(w0.q:Int),0=0,0=0]++wbO)++wap w0))
abbrev QEz(w0:TwP):List Prop:=
  ((wbc w0++[0=0,w0.o.length=w0.o.length,cO=cO])++was w0)
abbrev QLy(w0:TwP):List Prop:=
  (([0=0,0=0]++wbZ w0)++wad d)
theorem QOG(w0:TwP)(ac body:Code)(u:Nat->Nat->Int)(l:List Lay)(f:Nat)(p p':Nat):QF 632 (QSJ d p) (((Xv d l)::(201,.mp E.1 E.2)::(YM d)::(GQ ac body d w0)::(W3 w0)::(QEp d f)::(289,.mp E.1 E.2)::G8::List.append (waV) ([QCb,(Gu d),(Xu l),(648,.rowz true 4 [CK.bool] d.ps.n u),zQ,(G2 w0),(Gt w0),(ql w0)]))) (Hx d E w0 ac body u l f p')=(some (XK ++ XK++[(d.ps.n:Int)=(d.ps.n:Int),i64.wrap ((p:Int)+1)=(p':Int)]++(YP d)++(GI E d l)++[QB 1 d.ps.n u u]++(QHx ac)++[body=body] ++ (HT w0)++XK++(Gz w0)++(zX d w0)++(QEz w0)++(YP d)++([f=f]++wbP E)++XK ++ XK++(QLy d w0))):=by kernel_rfl
theorem Qbz(w0:TwP)(ac body:Code)(u':Nat->Nat->Int)(l:List Lay)(p p':Nat)(f':Nat):QF 632 (QSJ d p) (((Xv d l)::(201,.mp E.1 E.2)::(YM d)::(GQ ac body d w0)::(W3 w0)::(Wu d f')::(289,.mp E.1 E.2)::G8::List.append (waV) ([QCb,(Gu d),(Xu l),(648,.rowz true 4 [CK.bool] d.ps.n u'),zQ,(G2 w0),(Gt w0),(ql w0)]))) (Hx d E w0 ac body u' l f' p')=(some (XK ++ XK++[(d.ps.n:Int)=(d.ps.n:Int),i64.wrap ((p:Int)+1)=(p':Int)]++(YP d)++(GI E d l)++[QB 1 d.ps.n u' u']++(QHx ac)++[body=body] ++ (HT w0)++XK++(Gz w0)++(zX d w0)++(QEz w0)++(YP d)++([f'=f']++wbP E) ++ XK++XK++(QLy d w0))):=by kernel_rfl
abbrev QPR(w0:TwP):List Prop:=
  (wbc w0++([0=0,w0.o2.length=w0.o2.length,cO=cO]++wbx w0))
theorem QVw(w0:TwP)(ac body:Code)(u':Nat->Nat->Int)(l:List Lay)(f':Nat):QF 632 [.bool false false] ([(Xv d l),(201,.mp E.1 E.2),(YM d),(497,.lp LoopState.done (some (Code.exit 4)) (twT d w0) (Array.mk [31]) ac body),(QEO w0),(Wu d f'), (289,.mp E.1 E.2),(Xu l),(648,.rowz true 4 [CK.bool] d.ps.n u'),(QDp w0)]) (twF d E w0 ac body u' l f')=(some ([false=false]++(YP d)++(GI E d l)++([QB 1 d.ps.n u' u']++wbh++[ac=ac,body=body])++(HT w0)++XK++(Gz w0)++(zX d w0)++(QPR w0)++(YP d)++[f'=f',cO=cO,E.1=E.1,E.2=E.2])):=by kernel_rfl
theorem QRq(w0:TwP)(ac body:Code)(u:Nat->Nat->Int)(l:List Lay)(f:Nat):QF 632 [] ([(Xv d l),(201,.mp E.1 E.2),(YM d),(GQ ac body d w0),(W3 w0),(QEp d f),(289,.mp E.1 E.2),(Gu d),(Xu l),(648,.rowz true 4 [CK.bool] d.ps.n u), zQ,(G2 w0),(Gt w0),G8,(464,.cellsR 0 96 [.nils]),(ql w0)]) (HN d E w0 ac body u l f)=(some ((YP d)++(GI E d l)++[QB 1 d.ps.n u u]++(QHx ac)++[body=body]++(HT w0)++XK++(Gz w0)++(zX d w0)++(QEz w0)++(YP d)++[f=f,cO=cO,E.1=E.1,E.2=E.2])):=by kernel_rfl
abbrev twX(P:Program)(J:JSt)(X:List (Prop×Ex×JSt)):Hnd:={ hnd (mkE P QT) 0 with loop:=λ_=>KC 632 WS J X }
noncomputable abbrev QNE(w0:TwP):Nat×Blk:=
  (497,.lp LoopState.done (some (Code.exit 4)) (twT d w0) (Array.mk [31]) (KA (QU (QH f21 0))).1 (KA (QU (QH f21 0))).2)
theorem QKT(w0:TwP)(u u':Nat->Nat->Int)(l:List Lay)(f:Nat)(A B:Prop)(f':Nat):(Vk (mkE prog QT) (twX prog (Hx d E w0 (KA (QU (QH f21 0))).1 (KA (QU (QH f21 0))).2 u l f 0) [(A,.exit 0,HN d E w0 (KA
  (QU (QH f21 0))).1 (KA (QU (QH f21 0))).2 u' l f'),(B,.ret,twF d E w0 (KA (QU (QH f21 0))).1 (KA (QU (QH f21 0))).2
  u' l f')]) f103 QHw (GK d E w0 (KA (QU (QH f21 0))).1 (KA (QU (QH f21 0))).2 u l f).hp 632 λv h _=>Y9 WS v h) = .br ((l.length
  : Int) == (d.ps.n : Int)) (.fail ("yield")) (.ak (rz 9) (.ak [0 =
  0,(d.ps.n:Int)=(d.ps.n:Int),(0:Int)=0,d.pK.length=d.pK.length,d.pK.aK=d.pK.aK,d.pK.oK=d.pK.oK] (.ask
  (d.pK.dK.lo=d.pK.dK.lo) (.ak [d.pK.dK.hi=d.pK.dK.hi,d.wide=d.wide,d.high=d.high,d.turn=d.turn,0=0,d.ps.n =
  d.ps.n,Cap.of 0=Cap.of 0,0=0,l.length=l.length,Cap.of 0=Cap.of 0,E.1=E.1,E.2=E.2,l.length<=l.length] (.ask
  (QB 2 l.length (λi=>QA.enc (l.getD i (Lay.mk (0:Int) (0:Int)))) λi=>QA.enc (l.getD i (Lay.mk (0:Int) (0:Int)))) (.ak [0=0,d.ps.n=d.ps.n] (.ask
  (Cap.of 0=Cap.of 0) (.ak [d.ps.n<=d.ps.n,QB 1 d.ps.n u u,LoopState.ready=LoopState.ready,(none:Option Code)=none,Array.mk [(31:Tmp)]
  = Array.mk [(31:Tmp)],(KA (QU (QH f21 0))).1=(KA (QU (QH f21 0))).1,(KA (QU (QH f21 0))).2=(KA (QU
  (QH f21 0))).2,w0.g 0=w0.g 0,0=0,0=0,0=0,0=0,w0.g 3=w0.g 3,0=0,0=0,0=0,0 =
  0,0=0,0=0,0=0,0=0,w0.g 8=w0.g 8,w0.g 9=w0.g 9,w0.g 10=w0.g 10,w0.g 11=w0.g 11,w0.g 12=w0.g
  12,w0.g 13=w0.g 13,w0.g 14=w0.g 14,w0.g 15=w0.g 15,w0.g 16=w0.g 16,w0.g 17=w0.g 17,w0.g 18=w0.g 18,w0.g 19=w0.g
  19,w0.g 20=w0.g 20,(d.ps.n:Int)=(d.ps.n:Int),(w0.p:Int)=(w0.p:Int),w0.g 23=w0.g 23,w0.g 24=w0.g 24,(w0.p:Int) =
  (w0.p:Int),(w0.q:Int)=(w0.q:Int),true=true,(w0.q:Int)=(w0.q:Int),0=0,0=0,Fn.func (102:FuncId)=Fn.func (102 :
  FuncId),0=0,0=0,0=0,0=0,w0.g 31=w0.g 31,w0.g 32=w0.g 32,w0.g 33=w0.g 33,w0.g 34=w0.g 34,w0.g
  35=w0.g 35,w0.g 36=w0.g 36,w0.g 37=w0.g 37,w0.g 38=w0.g 38,w0.g 39=w0.g 39,w0.g 40=w0.g 40,w0.g 41=w0.g 41,w0.g
  42=w0.g 42,w0.g 43=w0.g 43,w0.g 44=w0.g 44,w0.g 45=w0.g 45,w0.g 46=w0.g 46,w0.g 47=w0.g 47,0=0,w0.o.length =
  w0.o.length,Cap.of 0=Cap.of 0,w0.o.length<=w0.o.length,QB 2 w0.o.length (λi=>QA.enc (w0.o.getD i (Tw.mk (0:Int) (0:Int)))) λi=>
  QA.enc (w0.o.getD i (Tw.mk (0:Int) (0:Int))),d.pK.length=d.pK.length,d.pK.aK=d.pK.aK,d.pK.oK=d.pK.oK] (.ask
  (d.pK.dK.lo=d.pK.dK.lo) (.ask (d.pK.dK.hi=d.pK.dK.hi) (.ask (d.wide=d.wide) (.ask (d.high=d.high) (.ask (d.turn=d.turn) (.ask (0=0) (.ask (d.ps.n =
  d.ps.n) (.ask (Cap.of 0=Cap.of 0) (.ask (0=0) (.ask (f=f) (.ask (Cap.of 0=Cap.of 0) (.ask (E.1=E.1) (.ask (E.2=E.2) (.ask (Fn.func (103:FuncId)=Fn.func (103 :
  FuncId)) (.ask (0=0) (.ask (0=0) (.ask (0=0) (.ask (0=0) (.ask (0=0) (.ask (0=0) (.ask (0=0) (.ask (0=0) (.ask (0=0) (.ask (0=0) (.ask (0=0) (.ask (0=0)
  (.ak [(w0.q:Int)=(w0.q:Int),(w0.p:Int)=(w0.p:Int),0=0,0=0,d.ps.n<=d.ps.n,QB 28 d.ps.n (λi=>QA.enc (d.ps.get i))
  λi=>QA.enc (d.ps.get i)] (.both (.asm (A) (.all (λ(g0:Nat->Value)=>.leaf (.bool true true) ([(Xv d l),(201,.mp E.1 E.2),(YM d),(497,.lp LoopState.ready none
  (twT d w0) (Array.mk [31]) (KA (QU (QH f21 0))).1 (KA (QU (QH f21 0))).2),(W3 w0),(Wu d f'),(289,.mp E.1 E.2),(Xu l),(648,.rowz true 4
  [CK.bool] d.ps.n u'),(ql w0)])))) (.asm (B) (.all (λ(g1:Nat->Value)=>.leaf (.bool false false) ([(Xv d l),(201,.mp E.1 E.2),(YM d),(QNE d w0),(QEO w0),(Wu
  d f'),(289,.mp E.1 E.2),(Xu l),(648,.rowz true 4 [CK.bool] d.ps.n u'),(QDp
  w0)])))))))))))))))))))))))))))))))))))))))):=by kernel_rfl
abbrev wa8:List Prop:=[(KA (QU (QH f21 0))).1=(KA (QU (QH f21 0))).1,(KA (QU (QH f21 0))).2=(KA (QU (QH f21 0))).2]
theorem QYH(w0:TwP)(u u':Nat->Nat->Int)(l:List Lay)(f:Nat)(f':Nat):QF 632 [(.bool true true)] ([(Xv d l),(201,.mp E.1 E.2),(YM d),(497,.lp LoopState.ready none (twT d w0) (Array.mk [31]) (KA (QU (QH f21 0))).1 (KA (QU (QH f21 0))).2),(W3 w0),(Wu d f'),(289,.mp E.1 E.2),(Xu l),(648,.rowz true 4 [CK.bool] d.ps.n u'),(ql w0)]) (Kf (twU d E w0 (KA (QU (QH f21 0))).1 (KA (QU (QH f21 0))).2 u l f f'))=(some ([true=true]++(YP d)++(GI E d l)++([QB 1 d.ps.n u' u]++wai++([Array.mk [31]=Array.mk [(31:Tmp)]]++wa8))++(HT w0)++XK++(Gz w0)++(zX d w0)++(QEz w0)++(YP d)++[f'=f',cO=cO,E.1=E.1,E.2=E.2])):=by kernel_rfl
theorem QcX(w0:TwP)(u u':Nat->Nat->Int)(l:List Lay)(f:Nat)(f':Nat):QF 632 [(.bool false false)] ([(Xv d l),(201,.mp E.1 E.2),(YM d),(QNE d w0),(QEO w0),(Wu d f'),(289,.mp E.1 E.2),(Xu l),(648,.rowz true 4 [CK.bool] d.ps.n u'),(QDp w0)]) (Kf (twV d E w0 (KA (QU (QH f21 0))).1 (KA (QU (QH f21 0))).2 u l f f'))=(some ([false=false]++(YP d)++(GI E d l) ++ (([QB 1 d.ps.n u' u]++wbh)++wa8)++(HT w0)++XK++(Gz w0)++(zX d w0) ++ (QPR w0)++(YP d)++[f'=f',cO=cO,E.1=E.1,E.2=E.2])):=by kernel_rfl
