/- - -/
import Derived.Test.YtekbmehgcofnkaaGreatMzb
import Derived.Shelf.SlSortCmp.NoneTotal
open Go.Proofs.Tryz
open Go.IntKind (i64)
set_option maxRecDepth 100000
namespace Go.Proofs.YtekbmehgcofnkaaGreat
open Go Go.RowKit Go.Lib Go.Shelf Go.Sort Go.SX Go.SX.Told
variable {l:List Jn}
theorem QcR{w:World}{b m:Nat}{os:Array Obj}{l':List Jn}{rest:List Value}{ty:TypeId}(h:bk w b=some (.cells (l.flatMap K5++rest).toArray ty (0,0)))(hl:l.length=l'.length):
  bk (sortWorldK K5 4 w b 0 m l'.toArray os) b=some (.cells (l'.flatMap K5++rest).toArray ty (0,0))/\(∀ k,k<w.heap.size->k≠b->bk (sortWorldK K5 4 w b 0 m l'.toArray os) k=bk w k)/\w.heap.size<=(sortWorldK K5 4 w b 0 m l'.toArray os).heap.size:=by
 have hk:∀ x,(K5 x).length=4:=λ_=>rfl
 have hf:flatK K5 4 l'.toArray=(l'.flatMap K5).toArray:=by
  apply Array.ext';rw[QMf K5 4 hk]
 have hlen:(l.flatMap K5).length=(l'.flatMap K5).length:=by rw[qR K5 4 hk,qR K5 4 hk,hl]
 have hb:b<w.heap.size:=by
  unfold bk at h;exact(Array.getElem?_eq_some_iff.1 h).1
 unfold bk at h ⊢;unfold sortWorldK grow putRowK putRow mapBlock Sort.ahead;simp only[hf];refine⟨?_,λk hk1 hk2=>?_,by simp⟩
 .rw[Array.getElem?_append_left (by simpa using hb),Array.getElem?_modify,if_pos rfl,h]
  simp only[Option.map_some,onCells];rw[QKM _ _ _ hlen]
 .rw[Array.getElem?_append_left (by simpa using hk1),Array.getElem?_modify,if_neg (λe=>hk2 e.symm)]
theorem Qcv{w:World}{b:Nat}{rest:List Value}{ty:TypeId}(h:bk w b=some (.cells (l.flatMap K5++rest).toArray ty (0,0))):HoldsK K5 4 w b 0 l.toArray:=by
 have hk:∀ x,(K5 x).length=4:=λ_=>rfl;intro j hj;rw[size_flatK]at hj;have hj:j<l.length*4:=by simpa using hj
 have e:((flatK K5 4 l.toArray)[j]!)=(K5 l[j / 4]!)[j % 4]! := by
  rw[get_flatK K5 4 _ j (by simpa using hj)];simp
 refine⟨?_,?_⟩
 .rw[V8 h,Nat.zero_add,List.getElem?_append_left (by rw[qR K5 4 hk];exact hj),QBx K5 4 hk l j hj,e]
  rfl
 .unfold World.frozen?;unfold bk at h;rw[h];simp
def QGb:FC:=λargs _ _=>match args with
 | [.slz id 0 n _,.fn (.func f) []]=>([id],λbs=>match Nat.beq f 131,bs with
  | true,[.rowz true ty [.int .i64,.int .i64,.int .i64,.int .i64] n' g]=>some ⟨false,decide (n=n')&&decide (n<4611686018427387904),.tup [],[(id,.rowz true ty [.int .i64,.int .i64,.int .i64,.int .i64] n (Yy n g))]⟩
  | _,_=>none)
 | [.nils,.fn (.func f) []]=>([],λbs=>match Nat.beq f 131,bs with
  | true,[]=>some ⟨false,true,.tup [],[]⟩
  | _,_=>none)
 | _=>([],λ_=>none)
theorem G1(l:List Jn):(KO l).length=l.length:=by unfold KO;rw[List.length_mergeSort]
theorem Qa0:∀ w,(isAgg 67).run prog w = .ok true w:=Tryz.isAgg67
theorem QcQ:∀ w,(Go.sizeOf 67).run prog w = .ok 4 w:=Tryz.sizeOf67
theorem Qcs:QR prog 153 QGb:=by
 have hnone:∀(p:Option Addr) (cap:Nat) (fv:Value) (w:World),Calls prog 153 #[.slice p 0 cap,fv] w λe w'=>e = .returned (.tuple #[])/\w'=w:=AnyF.slices_SortFunc_none Tryz.sortJn;refine⟨by kernel_rfl,λargs nid all r w lk blks eff hH _ hv he hp=>?_⟩
 unfold QGb at hv he;split at he<;>(try (cases he;done))
 rotate_left
 .rename_i f hx;simp only at he;split at he<;>(try (cases he;done))
  rename_i hf;have hf:f=131:=qnb hf;subst hf;simp only[qsI]at he;subst he;refine(hnone none 0 (.func (.func 131) #[] #[]) w).mono ?_;rintro e w' ⟨rfl,rfl⟩;exact⟨r,rfl,λ_ _=>rfl,λp hp=>(by cases hp),⟨rfl,rfl,rfl,qlr _,qlr _,λ_ _ _=>rfl⟩,λp hp=>(by cases hp),λp hp=>(by cases hp),λp hp=>(by cases hp)⟩
 rename_i id n c f hx;simp only at he;split at he<;>(try (cases he;done))
 rename_i ty n' g hf;have hf:f=131:=qnb hf;subst hf;simp only[qsI]at he;subst he;simp only[qbA,qdE]at hp;obtain⟨hn,hlt⟩:=hp;subst hn;have hlk:lk id=some (.rowz true ty [.int .i64,.int .i64,.int .i64,.int .i64] n g):=by simpa using hv
 have hlk:lk id=some (.rowz true ty ksJ n g):=hlk;obtain⟨h0,h4,hfoot,hnil,hrow,hcells⟩:=(show Kb r id w ty ksJ.length n (QV ksJ g)from hH.rep _ _ hlk);have hout:=hH.out _ _ hlk;have hrow':∀ i,i<n->(QV ksJ (Yy n g) i).length=ksJ.length/\JK (QV ksJ (Yy n g) i)=true:=λi _=>⟨Vp _ _ _,Jh _ _ _⟩;cases hN:(r id).nil with
 | true=>
  have hz:=hnil hN;subst hz;refine(hnone ((r id).base 0) ((r id).room (c.den (r id).cap)) (.func (.func 131) #[] #[]) w).mono ?_;rintro e w' ⟨rfl,rfl⟩;refine⟨r,rfl,λ_ _=>rfl,?_,⟨rfl,rfl,rfl,qlr _,qlr _,λ_ _ _=>rfl⟩,?_,?_,?_⟩
  .intro p hp;rw[List.mem_singleton.1 hp];exact⟨h0,h4,hfoot,hnil,λi hi=>absurd hi (Nat.not_lt_zero _),λq=>by rw[hN]at q;cases q⟩
  .intro p hp hin;rw[List.mem_singleton.1 hp]at hin;rw[hout]at hin;cases hin
  .intro p hp _ _ k hk;rw[List.mem_singleton.1 hp]at hk;rw[List.mem_singleton.1 hp];exact⟨_,hlk,hk⟩
  .intro p hp q _ hin;rw[List.mem_singleton.1 hp]at hin;rw[hout]at hin;cases hin
 | false=>
  obtain⟨hcap,rest,hrest,hbk⟩:=hcells hN;rw[QR1]at hbk
  have hb:(r id).blk<w.heap.size:=by
   unfold bk at hbk;exact(Array.getElem?_eq_some_iff.1 hbk).1
  have eg:∀ args w,(callFunc 131 args).run prog w = .ok (.enter 131 args) w:=enters_of func131 (by kernel_rfl) rfl
  have hd:((List.range n).map (Xu g)).toArray.size=n:=by simp
  have hcon:=AnyQ.slices_SortFunc Tryz.sortJn 4 Qa0 QcQ K5 (λ_=>rfl) (λx v hv=>by simp[K5]at hv;rcases hv with rfl|rfl|rfl|rfl<;>rfl) VZ He 131 #[] (r id).blk 0 ((r id).room (c.den (r id).cap)) ((List.range n).map (Xu g)).toArray w eg (QfF _ _ _ _) (Qcv hbk) hb (by rw[hd];exact hlt)
  rw[hd]at hcon
  have ha:AV.denL r [.slz id 0 n c,.fn (.func 131) []]=[.slice (some ⟨(r id).blk,0,none⟩) n ((r id).room (c.den (r id).cap)),.func (.func 131) #[] #[]]:=by
   simp only[AV.denL,AV.den,Loc.base,hN,h0,Nat.zero_mul,Nat.add_zero]
  rw[ha];refine hcon.mono ?_;rintro e w' ⟨rfl,d',m,os,hperm,hsort,rfl⟩;have hu:=sorted_unique_holds He QR2 ((List.range n).map (Xu g)).toArray d' (by rw[hd];exact hperm) (by rw[hd];exact hsort)
  have hd':d'=(KO ((List.range n).map (Xu g))).toArray:=Array.ext' (by rw[hu];rfl)
  subst hd';obtain⟨w1,w2,w3⟩:=QcR (m:=m) (os:=os) hbk (G1 _).symm;refine⟨r,rfl,λ_ _=>rfl,?_,⟨rfl,rfl,rfl,w3,Nat.le_add_right _ _,λk hk hc=>w2 k hk λe=>hc ⟨_,List.mem_singleton.2 rfl,hout,_,hlk,(hfoot k).2 ⟨hN,e⟩⟩⟩,?_,?_,?_⟩
  .intro p hp;rw[List.mem_singleton.1 hp];refine⟨h0,h4,hfoot,hnil,hrow',λ_=>⟨hcap,rest,hrest,?_⟩⟩;show bk _ _=some (.cells (AV.denL r (Q4 n (QV ksJ (Yy n g))).flatten++rest).toArray ty (0,0));rw[Qa8];exact w1
  .intro p hp hin;rw[List.mem_singleton.1 hp]at hin;rw[hout]at hin;cases hin
  .intro p hp _ _ k hk;rw[List.mem_singleton.1 hp]at hk;rw[List.mem_singleton.1 hp];exact⟨_,hlk,hk⟩
  .intro p hp q _ hin;rw[List.mem_singleton.1 hp]at hin;rw[hout]at hin;cases hin
def Yo:Tab:=Qc QT 153 QGb
theorem QBg:Qe Yo:=Qd.add Qcs
end Go.Proofs.YtekbmehgcofnkaaGreat
namespace Go.SX
open Go Go.RowKit Go.Proofs.YtekbmehgcofnkaaGreat
namespace Told
def natsG(g:Nat->Value):List Nat:=(List.range (nxI g)).map λi=>nxI λ_=>g (i+1)
end Told
theorem QXo(l:List Nat):∃ g,Told.natsG g=l:=by
 refine⟨λk=>match k with
  | 0 => .int .i64 l.length
  | i+1 => .int .i64 ((l.getD i 0:Nat):Int),?_⟩
 have h0:∀ n:Nat,Told.nxI (λ_=>Value.int .i64 (n:Int))=n:=λn=>by simp[Told.nxI,Told.intV]
 apply List.ext_getElem?;intro i;unfold Told.natsG
 have e:Told.nxI (λk=>match k with
  | 0=>Value.int .i64 l.length
  | i+1 => .int .i64 ((l.getD i 0:Nat):Int))=l.length:=by simp[Told.nxI,Told.intV]
 rw[e,List.getElem?_map]
 by_cases h:i<l.length
 .rw[List.getElem?_range h];simp only[Option.map_some,h0];rw[List.getElem?_eq_getElem h,Xe h]
 .rw[List.getElem?_eq_none (by simpa using h),List.getElem?_eq_none (by omega)];rfl
def QIn(n0:Nat)(ids:List Nat)(J0:JSt)(X:(Nat->Value)->List (Prop×Ex×JSt))(st:St)(K:Ex->St->QC):QC:=
 match Nat.beq st.tm.length J0.len&&V0 st.hp with
 | true=>(match QG n0 ((J0.live.map (·.1)).map (QI st.tm)) (Ko ids ((J0.live.map (·.1)).map (QI st.tm)) st.hp) J0 with
  | some ps=>QBF ps (.all λg=>HV K (X g))
  | none => .fail "a loop's beginning")
 | false => .fail "a loop's slots"
theorem Qdx{σ:Type}{I:σ->JSt}{pre:σ->Prop}{μ:σ->Nat}{R:σ->Ex->JSt->Prop}{n0:Nat}{ls:Ex->List Nat}{ids ids':List Nat}{E:Env}(hE:E.Sound){H:σ->Hnd}{G:Ctx}(hG:G.n<=n0){body:Code}(hH:∀ s,pre s->Qu E G (H s) body)(hn:∀ s,pre s->n0<=(I s).nid)(hR:∀ s e J,R s e J->n0<=J.nid)(hr:Ji I pre μ R n0 ls ids E H body){s0:σ}(hp:pre s0){X:(Nat->Value)->List (Prop×Ex×JSt)}(hX:∀ e J,R s0 e J->∃ g,∃ x∈X g,x.1/\x.2.1=e/\x.2.2=J):
  VM E G (.loop body) (QIn n0 ids' (I s0) X):=by
 intro st K T Q a w hn' h hrep hQ;unfold QIn at h;split at h
 rotate_left
 .exact h.elim
 rename_i hl;split at h
 rotate_left
 .exact h.elim
 rename_i ps hps;simp only[qbA]at hl;have hlen:=qnb hl.1;obtain⟨ha,hx⟩:=QAo h;have hnear:=Rep.near (h':=Ko ids' (((I s0).live.map (·.1)).map (QI st.tm)) st.hp) (λid b hb=>ZO hb) hl.2 hrep;have hso:JL n0 ((I s0).live.map (·.1)) st.tm.length (((I s0).live.map (·.1)).map (QI st.tm)) (Ko ids' (((I s0).live.map (·.1)).map (QI st.tm)) st.hp) (I s0):={ slots:=rfl,len:=hlen,eqs:=⟨ps,hps,ha⟩ };obtain⟨g,hr'⟩:=Rep.subW hnear hso hG;refine wpIn_loop_rounds (μ s0+1) (QEy hE hG hH hn hR hr _ s0 g a w (Nat.lt_succ_self _) hp hr' ?_);intro e J g' a' w' hRe hnJ hrJ
 obtain⟨g2,x,h1,h2,h3,h4⟩:=hX e J hRe;have:=HP (hx g2) x h1 h2 g';rw[h3,h4]at this;exact hQ e (J.inst g') a' w' (Nat.le_trans hG hnJ) this hrJ
end Go.SX
namespace Go.Proofs.YtekbmehgcofnkaaGreat
open Go.SX Go.SX.Told
def jG(e:MapEntry):Jn:=⟨QL e 0,QL e 1,QL e 2,QL e 3⟩
variable (E:ECt)(m:Int)(o:List Jn)(S S':List Nat)(g0:Nat->Value)
def VC(e:MapEntry):List Jn:=cond (decide (m<=intV e.val)&&decide (QL e 0<QL e 2)) [jG e] []
def Zx(b:Nat):List Jn:=match E.1.find? (·.born==b)with
 | some e=>VC m e
 | none=>[]
def Qs:List Jn:=S.flatMap (Zx E m)
def rwJ(own:Bool)(id:Nat)(o:List Jn):Nat×Blk:=(id,.rowz own 67 [.int .i64,.int .i64,.int .i64,.int .i64] o.length λi=>QA.enc (o.getD i ⟨0,0,0,0⟩))
def jnJ(o:List Jn):JSt:=⟨48,[(1,.int false .i64 m),(5,.slz 256 0 o.length (.of 0)),(12,.ptr 264 201 0)],[(264,.itm [.map 201] 150 E.2 S E.2),(201,.mp E.1 E.2),rwJ true 256 o],272⟩
def jnE:JSt:=⟨48,[(5,.slz 256 0 o.length (.of 0))],[(201,.mp E.1 E.2),rwJ true 256 o],272⟩
def zF:JSt:=⟨48,[(1,.int false .i64 m),(5,.nils),(12,.ptr 264 201 0)],[(264,.itm [.map 201] 150 E.2 S E.2),(201,.mp E.1 E.2)],272⟩
def QBO:JSt:=⟨48,[(5,.nils)],[(201,.mp E.1 E.2)],272⟩
def QH1:Ex->List Nat
 | .normal=>[1,5,12]
 | .exit _=>[5]
 | .ret=>[]
abbrev QF3:List CK:=
  (wbk)
noncomputable abbrev QHT:Nat×Blk:=
  (256,.rowz true 67 QF3 o.length λi=>QA.enc (o.getD i (Jn.mk (0:Int) (0:Int) (0:Int) (0:Int))))
noncomputable abbrev QRG:List AV:=
  [.nilp,.ptr 48 0 0,vi m,.slz 256 0 o.length cO,.ptr 264 201 0]
noncomputable abbrev wa9(E:ECt)(S:List Nat)(g0:Nat->Value):List AV:=[vi (QL (QE E.1 (S++[(E.1.getD (nxI g0) noE).3])) 0),vi (QL (QE E.1 (S++[(E.1.getD (nxI g0) noE).3])) 1),vi (QL (QE E.1 (S ++ [(E.1.getD (nxI g0) noE).3])) 2),vi (QL (QE E.1 (S++[(E.1.getD (nxI g0) noE).3])) 3)]
theorem QbU(o:List Jn)(g:Nat->Value):exec (mkF prog Yo) (hnd (mkF prog Yo) 1) (QJ f89 0) (JSt.inst (jnJ E m S o) g) (Q9 [201] QH1) = .ask (QAk E.1 E.2 E.2) (.both (.asm (Y2 E.1 S) (.leaf (.tup [.ptr 0 0 0,.ptr 48 0 0,.slz 256 0 o.length cO]) ([(201,.mp E.1 E.2),(QHT o)]))) (.all (λ(g0:Nat->Value)=>.asm (zg E.1 S (nxI g0)) (.need (decide (E.2=E.2)&&X7 E.1 (S++[(E.1.getD (nxI g0) noE).3])&&wf4 i64 E.1) (.br (decide (intV (QE E.1 (S++[(E.1.getD (nxI g0) noE).3])).2≥m)) (.br (decide (QL (QE E.1 (S++[(E.1.getD (nxI g0) noE).3])) 0<QL (QE E.1 (S++[(E.1.getD (nxI g0) noE).3])) 2)) (.need (decide (o.length<=o.length)&&(true&&decide ((o.length+1+(o.length+1) / 4+192)*32<=281474976710656/\o.length+1<=9223372036854775807))) (.leaf (.tup [.nilp,.ptr 48 0 0,vi m,.slz 552 0 (o.length+1) cO, .ptr 264 201 0]) ([(201,.mp E.1 E.2),(552,.rowz true 67 QF3 (o.length+1) (KN o.length (λi=>QA.enc (o.getD i (Jn.mk (0:Int) (0:Int) (0:Int) (0:Int)))) (Kh [[vi (QL (QE E.1 (S++[(E.1.getD (nxI g0) noE).3])) 0),vi (QL (QE E.1 (S++[(E.1.getD (nxI g0) noE).3])) 1),vi (QL (QE E.1 (S ++ [(E.1.getD (nxI g0) noE).3])) 2),vi (QL (QE E.1 (S++[(E.1.getD (nxI g0) noE).3])) 3)]] 0))),(264,.itm [.map 201] 150 E.2 (S++[(E.fst.getD (nxI g0) noE).born]) E.2)]))) (.leaf (.tup (QRG m o)) ([(201,.mp E.1 E.2),(QHT o),(264,.itm [.map 201] 150 E.2 (S++[(E.fst.getD (nxI g0) noE).born]) E.2)]))) (.leaf (.tup (QRG m o)) ([(201,.mp E.1 E.2),(QHT o),(264,.itm [.map 201] 150 E.2 (S++[(E.fst.getD (nxI g0) noE).born]) E.2)]))))))):=by kernel_rfl
noncomputable abbrev wbG(E:ECt)(o:List Jn)(o':List Jn):List Prop:=[E.1=E.1,E.2=E.2,o'.length<=o.length,QB (4:Nat) o'.length (λi=>QA.enc (o.getD i (Jn.mk (0:Int) (0:Int) (0:Int) (0:Int)))) λi=>QA.enc (o'.getD i (Jn.mk (0:Int) (0:Int) (0:Int) (0:Int)))]
theorem QYy(o o':List Jn):QG 216 [AV.slz (256:Nat) (0:Nat) o.length cO] ([((201:Nat),Blk.mp E.1 E.2),((256:Nat),Blk.rowz true (67:Nat) [CK.int i64,CK.int i64,CK.int i64,CK.int i64] o.length λi=>QA.enc (o.getD i (Jn.mk (0:Int) (0:Int) (0:Int) (0:Int))))]) (jnE E o')=( some [0=0,o.length=o'.length,cO=cO,E.1=E.1,E.2=E.2,o'.length<=o.length,QB (4:Nat) o'.length (λi=>QA.enc (o.getD i (Jn.mk (0:Int) (0:Int) (0:Int) (0:Int)))) λi=>QA.enc (o'.getD i (Jn.mk (0:Int) (0:Int) (0:Int) (0:Int)))]):=by kernel_rfl
noncomputable abbrev QQU:List AV:=
  (wa9 E S g0)
theorem QVd(o o':List Jn)(g0:Nat->Value):QG 216 [vi m,.slz 552 0 (o.length+1) cO,.ptr 264 201 0] ([(201,.mp E.1 E.2),(552,.rowz true 67 QF3 (o.length+1) (KN o.length (λi=>QA.enc (o.getD i (Jn.mk (0:Int) (0:Int) (0:Int) (0:Int)))) (Kh [(QQU E S g0)] 0))),(264,.itm [.map 201] 150 E.2 (S++[(E.fst.getD (nxI g0) noE).born]) E.2)]) (jnJ E m S' o')=(some [m=m,0=0,o.length+1=o'.length,cO=cO,201=201,0=0,E.2=E.2,S++[(E.1.getD (nxI g0) noE).3]=S',E.2=E.2,E.1=E.1,E.2=E.2,o'.length<=o.length+1,QB 4 o'.length (KN o.length (λi=>QA.enc (o.getD i (Jn.mk (0:Int) (0:Int) (0:Int) (0:Int)))) (Kh [(QQU E S g0)] 0)) λi=>QA.enc (o'.getD i (Jn.mk (0:Int) (0:Int) (0:Int) (0:Int)))]):=by kernel_rfl
noncomputable abbrev wc1(E:ECt)(S:List Nat)(S':List Nat)(g0:Nat->Value):List Prop:=[(201:Nat)=(201:Nat),0=0,E.2=E.2,S++[(E.1.getD (nxI g0) noE).3]=S',E.2=E.2]
theorem QYR(o o':List Jn)(g0:Nat->Value):QG 216 [vi m,AV.slz (256:Nat) (0:Nat) o.length cO,AV.ptr (264:Nat) (201:Nat) (0:Nat)] ([((201:Nat),Blk.mp E.1 E.2),((256:Nat),Blk.rowz true (67:Nat) [CK.int i64,CK.int i64,CK.int i64,CK.int i64] o.length λi=>QA.enc (o.getD i (Jn.mk (0:Int) (0:Int) (0:Int) (0:Int)))),((264:Nat),Blk.itm [AV.map (201:Nat)] (150:Nat) E.2 (S++[(E.fst.getD (nxI g0) noE).born]) E.2)]) (jnJ E m S' o')=( some [m=m,0=0,o.length=o'.length,cO=cO,(201:Nat)=(201:Nat),0=0,E.2=E.2,S++[(E.1.getD (nxI g0) noE).3]=S',E.2=E.2,E.1=E.1,E.2=E.2,o'.length<=o.length,QB (4:Nat) o'.length (λi=>QA.enc (o.getD i (Jn.mk (0:Int) (0:Int) (0:Int) (0:Int)))) λi=>QA.enc (o'.getD i (Jn.mk (0:Int) (0:Int) (0:Int) (0:Int)))]):=by kernel_rfl
theorem QTP(o o':List Jn)(g0:Nat->Value):QG 216 [vi m,AV.slz (256:Nat) (0:Nat) o.length cO,AV.ptr (264:Nat) (201:Nat) (0:Nat)] ([((201:Nat),Blk.mp E.1 E.2),((256:Nat),Blk.rowz true (67:Nat) [CK.int i64,CK.int i64,CK.int i64,CK.int i64] o.length λi=>QA.enc (o.getD i (Jn.mk (0:Int) (0:Int) (0:Int) (0:Int)))),((264:Nat),Blk.itm [AV.map (201:Nat)] (150:Nat) E.2 (S++[(E.fst.getD (nxI g0) noE).born]) E.2)]) (jnJ E m S' o')=( some [m=m,0=0,o.length=o'.length,cO=cO,(201:Nat)=(201:Nat),0=0,E.2=E.2,S++[(E.1.getD (nxI g0) noE).3]=S',E.2=E.2,E.1=E.1,E.2=E.2,o'.length<=o.length,QB (4:Nat) o'.length (λi=>QA.enc (o.getD i (Jn.mk (0:Int) (0:Int) (0:Int) (0:Int)))) λi=>QA.enc (o'.getD i (Jn.mk (0:Int) (0:Int) (0:Int) (0:Int)))]):=by kernel_rfl
theorem QWn(g:Nat->Value):exec (mkF prog Yo) (hnd (mkF prog Yo) 1) (QJ f89 0) (JSt.inst (zF E m S) g) (Q9 [201] QH1) = .ask (QAk E.1 E.2 E.2) (.both (.asm (Y2 E.1 S) (.leaf (.tup [.ptr 0 0 0,.ptr 48 0 0,.nils]) ([(201,.mp E.1 E.2)]))) (.all (λ(g0:Nat->Value)=>.asm (zg E.1 S (nxI g0)) (.need (decide (E.2=E.2)&&X7 E.1 (S ++ [(E.1.getD (nxI g0) noE).3])&&wf4 i64 E.1) (.br (decide (intV (QE E.1 (S++[(E.1.getD (nxI g0) noE).3])).2≥m)) (.br (decide (QL (QE E.1 (S++[(E.1.getD (nxI g0) noE).3])) 0<QL (QE E.1 (S++[(E.1.getD (nxI g0) noE).3])) 2)) (.leaf (.tup [.nilp,.ptr 48 0 0,vi m,.slice true 552 0 1 cO,.ptr 264 201 0]) ([(201, .mp E.1 E.2),(552,.rowl 67 4 [[vi (QL (QE E.1 (S++[(E.1.getD (nxI g0) noE).3])) 0),vi (QL (QE E.1 (S++[(E.1.getD (nxI g0) noE).3])) 1),vi (QL (QE E.1 (S++[(E.1.getD (nxI g0) noE).3])) 2),vi (QL (QE E.1 (S++[(E.1.getD (nxI g0) noE).3])) 3)]]),(264,.itm [.map 201] 150 E.2 (S ++ [(E.fst.getD (nxI g0) noE).born]) E.2)])) (.leaf (.tup [.nilp,.ptr 48 0 0,vi m,.nils,.ptr 264 201 0]) ([(201,.mp E.1 E.2),(264,.itm [.map 201] 150 E.2 (S ++ [(E.fst.getD (nxI g0) noE).born]) E.2)]))) (.leaf (.tup [.nilp,.ptr 48 0 0,vi m,.nils,.ptr 264 201 0]) ([(201,.mp E.1 E.2),(264,.itm [.map 201] 150 E.2 (S ++ [(E.fst.getD (nxI g0) noE).born]) E.2)]))))))):=by kernel_rfl
theorem QcY:QG 216 [AV.nils] ([((201:Nat),Blk.mp E.1 E.2)]) (QBO E)=( some [E.1=E.1,E.2=E.2]):=by kernel_rfl
noncomputable abbrev wbW(E:ECt)(S:List Nat)(g0:Nat->Value):List AV:=[vi (QL (QE E.1 (S++[(E.1.getD (nxI g0) noE).3])) (0:Nat)),vi (QL (QE E.1 (S++[(E.1.getD (nxI g0) noE).3])) (1:Nat)),vi (QL (QE E.1 (S++[(E.1.getD (nxI g0) noE).3])) (2:Nat)),vi (QL (QE E.1 (S++[(E.1.getD (nxI g0) noE).3])) (3:Nat))]
theorem Qff(o':List Jn)(g0:Nat->Value):QG 216 [vi m,AV.slice true (552:Nat) (0:Nat) (1:Nat) cO,AV.ptr (264:Nat) (201:Nat) (0:Nat)] ([((201:Nat),Blk.mp E.1 E.2),((552:Nat),Blk.rowl (67:Nat) (4:Nat) [[vi (QL (QE E.1 (S++[(E.1.getD (nxI g0) noE).3])) (0:Nat)),vi (QL (QE E.1 (S++[(E.1.getD (nxI g0) noE).3])) (1:Nat)),vi (QL (QE E.1 (S++[(E.1.getD (nxI g0) noE).3])) (2:Nat)),vi (QL (QE E.1 (S++[(E.1.getD (nxI g0) noE).3])) (3:Nat))]]),((264:Nat),Blk.itm [AV.map (201:Nat)] (150:Nat) E.2 (S++[(E.fst.getD (nxI g0) noE).born]) E.2)]) (jnJ E m S' o')=( some [m=m,0=0,(1:Nat)=o'.length,cO=cO,(201:Nat)=(201:Nat),0=0,E.2=E.2,S++[(E.1.getD (nxI g0) noE).3]=S',E.2=E.2,E.1=E.1,E.2=E.2,jo [CK.int i64,CK.int i64,CK.int i64,CK.int i64] [[vi (QL (QE E.1 (S ++ [(E.1.getD (nxI g0) noE).3])) (0:Nat)),vi (QL (QE E.1 (S++[(E.1.getD (nxI g0) noE).3])) (1:Nat)),vi (QL (QE E.1 (S ++ [(E.1.getD (nxI g0) noE).3])) (2:Nat)),vi (QL (QE E.1 (S++[(E.1.getD (nxI g0) noE).3])) (3:Nat))]] o'.length λi=>QA.enc (o'.getD i (Jn.mk (0:Int) (0:Int) (0:Int) (0:Int)))]):=by kernel_rfl
theorem QUB:QG 216 [vi m,AV.nils,AV.ptr (264:Nat) (201:Nat) (0:Nat)] ([((201:Nat),Blk.mp E.1 E.2),((264:Nat),Blk.itm [AV.map (201:Nat)] (150:Nat) E.2 (S++[(E.fst.getD (nxI g0) noE).born]) E.2)]) (zF E m S')=( some [m=m,(201:Nat)=(201:Nat),0=0,E.2=E.2,S++[(E.1.getD (nxI g0) noE).3]=S',E.2=E.2,E.1=E.1,E.2=E.2]):=by kernel_rfl
theorem QYZ:QG 216 [vi m,AV.nils,AV.ptr (264:Nat) (201:Nat) (0:Nat)] ([((201:Nat),Blk.mp E.1 E.2),((264:Nat),Blk.itm [AV.map (201:Nat)] (150:Nat) E.2 (S++[(E.fst.getD (nxI g0) noE).born]) E.2)]) (zF E m S')=( some [m=m,(201:Nat)=(201:Nat),0=0,E.2=E.2,S++[(E.1.getD (nxI g0) noE).3]=S',E.2=E.2,E.1=E.1,E.2=E.2]):=by kernel_rfl
end Go.Proofs.YtekbmehgcofnkaaGreat
namespace Go.SX
open Go Go.RowKit Go.Proofs.YtekbmehgcofnkaaGreat Told
structure OkM (es:List MapEntry) (cl:Nat):Prop where
 born:(es.map (·.born)).Nodup
 low:∀ e∈es,e.born<cl
 keys:(es.map Ka).Nodup
theorem QE9{k:List Int}:∀{es:List MapEntry} {i:Nat},Kq k es i=none->∀ e∈es,Ka e≠k
 | [],_,_,e,h=>by cases h
 | x::es,i,h,e,he=>by
  simp only[Kq]at h;cases hx:Ka x==k with
  | true=>rw[hx]at h;cases h
  | false=>
   rw[hx]at h;rcases List.mem_cons.1 he with rfl|he
   .simpa using hx
   .exact QE9 h e he
theorem QJi(kv v:Value):∀(es:List MapEntry) (i:Nat),(VA kv v es i).map (·.born)=es.map (·.born)
 | [],i=>by cases i<;>rfl
 | e::es,0=>rfl
 | e::es,i+1=>by simp only[VA,List.map_cons,QJi kv v es i]
theorem QPg{k:List Int}{kv v:Value}(hk:∀ e:MapEntry,e.key=kv->Ka e=k):∀{es:List MapEntry} {i j:Nat} {u:Value},Kq k es i=some (j,u)->(VA kv v es (j-i)).map Ka=es.map Ka
 | [],_,_,_,h=>by cases h
 | e::es,i,j,u,h=>by
  simp only[Kq]at h;cases hx:Ka e==k with
  | true=>
   rw[hx]at h;simp only[qsI,qpI]at h;obtain⟨rfl,rfl⟩:=h;rw[Nat.sub_self];simp only[VA,List.map_cons];rw[hk _ rfl,beq_iff_eq.1 hx]
  | false=>
   rw[hx]at h;have h1:=(H8 h).1;have:=QPg hk h (v:=v);rw[show j-i=(j-(i+1))+1 by omega]
   simp only[VA,List.map_cons,this]
variable {es:List MapEntry}{e:MapEntry}
theorem QUx{k:List Int}{kv v:Value}(hk:∀ e:MapEntry,e.key=kv->Ka e=k){cl:Nat}(h:OkM es cl):OkM (JA k kv v cl es) (clL k cl es):=by
 unfold JA clL;cases hf:Kq k es 0 with
 | some q=>
  obtain⟨i,u⟩:=q;have hb:=QJi kv v es i;refine⟨by rw[hb];exact h.born,λe he=>?_,?_⟩
  .have:e.born∈(VA kv v es i).map (·.born):=List.mem_map_of_mem he;rw[hb]at this;obtain⟨e',he',hbe⟩:=List.mem_map.1 this;rw[<-hbe];exact h.low e' he'
  .have:=QPg hk hf (v:=v);rw[Nat.sub_zero]at this;show((VA kv v es i).map Ka).Nodup;rw[this];exact h.keys
 | none=>
  refine⟨?_,λe he=>?_,?_⟩
  .show((es++[({ key:=kv,val:=v,born:=cl }:MapEntry)]).map (·.born)).Nodup;rw[List.map_append,List.nodup_append];refine⟨h.born,by simp,λa ha b hb=>?_⟩
   obtain⟨e,he,rfl⟩:=List.mem_map.1 ha;have:b=cl:=by simpa using hb
   have:=h.low e he;omega
  .rcases List.mem_append.1 he with he|he
   .exact Nat.lt_succ_of_lt (h.low e he)
   .rw[List.mem_singleton.1 he];exact Nat.lt_succ_self _
  .show((es++[({ key:=kv,val:=v,born:=cl }:MapEntry)]).map Ka).Nodup;rw[List.map_append,List.nodup_append];refine⟨h.keys,by simp,λa ha b hb=>?_⟩
   obtain⟨e,he,rfl⟩:=List.mem_map.1 ha
   have hb:b=k:=by
    have:b=Ka { key:=kv,val:=v,born:=cl }:=by simpa using hb
    rw[this];exact hk _ rfl
   rw[hb];exact QE9 hf e he
theorem qq:∀{es:List MapEntry} {e:MapEntry},(es.map (·.born)).Nodup->e∈es->es.find? (·.born==e.born)=some e
 | [],_,_,h=>by cases h
 | x::es,e,hn,h=>by
  rw[List.map_cons,List.nodup_cons]at hn;rw[List.find?_cons];rcases List.mem_cons.1 h with rfl|h
  .simp
  .have:(x.born==e.born)=false:=by
    rw[beq_eq_false_iff_ne];intro q;exact hn.1 (q ▸ List.mem_map_of_mem h)
   rw[this];exact qq hn.2 h
theorem QR5{j:Nat}(h:j<es.length):es.getD j noE∈es:=by
 rw[Xe h];exact List.getElem_mem h
structure XX (es:List MapEntry) (S:List Nat):Prop where
 nd:S.Nodup
 sub:∀ b∈S,b∈es.map (·.born)
theorem QDB{S:List Nat}(h:XX es S):S.length<=es.length:=by
 have:=h.nd.length_le_of_subset h.sub;simpa using this
theorem QQa{S:List Nat}(h:XX es S)(he:e∈es)(hn:e.born ∉ S):XX es (S++[e.born]):=by
 refine⟨?_,λb hb=>?_⟩
 .rw[List.nodup_append];refine⟨h.nd,by simp,λa ha b hb=>?_⟩
  have:b=e.born:=by simpa using hb
  subst this;intro q;subst q;exact hn ha
 .rcases List.mem_append.1 hb with hb|hb
  .exact h.sub b hb
  .rw[List.mem_singleton.1 hb];exact List.mem_map_of_mem he
theorem QSf(hb:(es.map (·.born)).Nodup)(S:List Nat)(he:e∈es):QE es (S++[e.born])=e/\X7 es (S++[e.born])=true:=by
 have hl:(S++[e.born]).getLast? = some e.born:=by simp
 unfold QE X7;rw[hl];simp only;rw[qq hb he];refine⟨rfl,?_⟩;rw[List.any_eq_true];exact⟨e,he,by simp⟩
theorem QUz{S:List Nat}(hb:(es.map (·.born)).Nodup)(h:XX es S)(ha:Y2 es S):S.Perm (es.map (·.born)):=by
 rw[List.perm_ext_iff_of_nodup h.nd hb];intro a;refine⟨h.sub a,λq=>?_⟩;obtain⟨e,he,rfl⟩:=List.mem_map.1 q;exact ha e he
end Go.SX
namespace Go.Proofs.YtekbmehgcofnkaaGreat
open Go.SX Go.SX.Told
variable {e:MapEntry}(d:Puz)(E:ECt)(m:Int)(o:List Jn)(S:List Nat)
theorem QV1{E:ECt}(hb:(E.1.map (·.born)).Nodup)(m:Int)(S:List Nat)(he:e∈E.1):Qs E m (S++[e.born])=Qs E m S++VC m e:=by
 unfold Qs;rw[List.flatMap_append];congr 1;show Zx E m e.born++[]=_;rw[List.append_nil];unfold Zx;rw[qq hb he]
theorem QHI(e:MapEntry):(VC m e).length<=1:=by
 unfold VC;cases decide (m<=intV e.val)&&decide (QL e 0<QL e 2)<;>simp
theorem QHU(E:ECt)(m:Int):∀ S:List Nat,(Qs E m S).length<=S.length
 | []=>qlr _
 | b::S=>by
  have h:=QHU E m S
  have h1:(Zx E m b).length<=1:=by
   unfold Zx;split
   .exact QHI _ _
   .exact Nat.zero_le _
  show(Zx E m b++Qs E m S).length<=_;rw[List.length_append,List.length_cons];omega
theorem QZp(x:Jn):QB 4 (o.length+1) (KN o.length (λi=>QA.enc (o.getD i ⟨0,0,0,0⟩)) (Kh [[.int false .i64 x.a,.int false .i64 x.i,.int false .i64 x.b,.int false .i64 x.j]] 0)) λi=>QA.enc ((o++[x]).getD i ⟨0,0,0,0⟩):=by
 intro i hi
 by_cases h:i<o.length
 .have e:(o++[x]).getD i ⟨0,0,0,0⟩=o.getD i ⟨0,0,0,0⟩:=by
   rw[List.getD_eq_getElem?_getD,List.getD_eq_getElem?_getD,List.getElem?_append_left h]
  show eqF 4 0 _ (QA.enc ((o++[x]).getD _ ⟨0,0,0,0⟩));rw[e];refine⟨?_,?_,?_,?_,trivial⟩<;>(rw[X3,if_pos h])
 .have hi:i=o.length:=by omega
  subst hi
  have e:(o++[x]).getD o.length ⟨0,0,0,0⟩=x:=by
   rw[List.getD_eq_getElem?_getD,List.getElem?_append_right (qlr _)];simp
  show eqF 4 0 _ (QA.enc ((o++[x]).getD _ ⟨0,0,0,0⟩));rw[e];refine⟨?_,?_,?_,?_,trivial⟩<;>(rw[X3,if_neg h,Nat.sub_self];rfl)
def jnI:JSt:=cond (Qs E m S).isEmpty (zF E m S) (jnJ E m S (Qs E m S))
def jnD:JSt:=cond o.isEmpty (QBO E) (jnE E o)
def jnR(_:List Nat)(e:Ex)(J:JSt):Prop:=e = .exit 0/\∃ T,XX E.1 T/\Y2 E.1 T/\J=jnD E (Qs E m T)
theorem Hm{E:ECt}{m:Int}{S:List Nat}(h:(Qs E m S).isEmpty=false):jnI E m S=jnJ E m S (Qs E m S):=by unfold jnI;rw[h];rfl
theorem QF8{E:ECt}{m:Int}{S:List Nat}(h:(Qs E m S).isEmpty=true):jnI E m S=zF E m S:=by unfold jnI;rw[h];rfl
set_option maxHeartbeats 1000000 in
theorem Qem(hw:WfE E)(hE:OkM E.1 E.2)(hl:E.1.length<=1000000000):Ji (jnI E m) (XX E.1) (λS=>E.1.length-S.length) (jnR E m) 216 QH1 [201] (mkF prog Yo) (λ_=>hnd (mkF prog Yo) 1) (QJ f89 0):=by
 refine⟨λS g hS=>?_⟩;have hS:XX E.1 S:=hS;have hw:wf4 .i64 E.1=true:=hw;have hS1:=QDB hS;have hS2:=QHU E m S
 have fact:∀ g0:Nat->Value,zg E.1 S (nxI g0)->∃ e,e=E.1.getD (nxI g0) noE/\e∈E.1/\QE E.1 (S++[e.born])=e/\X7 E.1 (S++[e.born])=true/\XX E.1 (S++[e.born])/\S.length+1<=E.1.length/\Qs E m (S++[e.born])=Qs E m S++VC m e/\E.1.length-(S++[e.born]).length<E.1.length-S.length:=by
  rintro g0 ⟨hj,hn⟩;have hm:=QR5 hj;obtain⟨hc,hh⟩:=QSf hE.born S hm;have hS':=QQa hS hm hn;have hlen:=QDB hS';rw[List.length_append,List.length_singleton]at hlen;exact⟨_,rfl,hm,hc,hh,hS',hlen,QV1 hE.born m S hm,by rw[List.length_append,List.length_singleton];omega⟩
 have yes:∀ e:MapEntry,decide (intV e.2≥m)=true->decide (QL e 0<QL e 2)=true->VC m e=[jG e]:=λe h1 h2=>by
  unfold VC;rw[show decide (m<=intV e.val)=true from h1,h2];rfl
 have no1:∀ e:MapEntry,decide (intV e.2≥m)=false->VC m e=[]:=λe h1=>by
  unfold VC;rw[show decide (m<=intV e.val)=false from h1];rfl
 have no2:∀ e:MapEntry,decide (QL e 0<QL e 2)=false->VC m e=[]:=λe h2=>by
  unfold VC;rw[h2,Bool.and_false];rfl
 cases hem:(Qs E m S).isEmpty with
 | true=>
  rw[QF8 hem];have hnil:Qs E m S=[]:=List.isEmpty_iff.1 hem;refine Qf (QWn E m S g) ?_;refine Qt ⟨hE.low,qlr _⟩ (Kl (Qj λha=>?_) (Qk λg0=>Qj λho=>?_))
  .refine⟨_,⟨rfl,S,hS,ha,rfl⟩,?_⟩;rw[show jnD E (Qs E m S)=QBO E by unfold jnD;rw[hem];rfl]
   refine⟨rfl,rfl,_,QcY E,?_⟩
   repeat' first|with_reducible refine QP ?_ ?_|exact tv|refine aI ?_ ?_
  .obtain⟨e,he,hm,hc,hh,hS',hlen,hJ,hmu⟩:=fact g0 ho;subst he;rw[hnil,List.nil_append]at hJ;have hc':QE E.1 (S++[(E.1.getD (nxI g0) noE).3])=E.1.getD (nxI g0) noE:=hc;refine QH (by rw[show X7 E.1 (S++[(E.1.getD (nxI g0) noE).3])=true from hh,hw];simp) ?_
   refine QF (λh1=>QF (λh2=>?_) (λh2=>?_)) (λh1=>?_)
   .rw[yes _ (hc' ▸ h1) (hc' ▸ h2)]at hJ;refine⟨S++[(E.1.getD (nxI g0) noE).born],hS',hmu,λ_ _ r=>r,?_⟩;rw[Hm (by rw[hJ];rfl),hJ]
    refine⟨rfl,rfl,_,Qff E m S _ _ g0,?_⟩
    repeat' first|with_reducible refine QP ?_ ?_|exact tv|exact rfl|(intro i hi x hx r;obtain rfl:i=0:=(by simpa using hi);simp only[List.getElem?_cons_zero,qsI]at hx;subst hx;rw[hc'];rfl)|refine aI ?_ ?_
   .rw[no2 _ (hc' ▸ h2)]at hJ;refine⟨S++[(E.1.getD (nxI g0) noE).born],hS',hmu,λ_ _ r=>r,?_⟩;rw[QF8 (by rw[hJ];rfl)]
    refine⟨rfl,rfl,_,QUB E m S _ g0,?_⟩
    repeat' first|with_reducible refine QP ?_ ?_|exact tv|refine aI ?_ ?_
   .rw[no1 _ (hc' ▸ h1)]at hJ;refine⟨S++[(E.1.getD (nxI g0) noE).born],hS',hmu,λ_ _ r=>r,?_⟩;rw[QF8 (by rw[hJ];rfl)]
    refine⟨rfl,rfl,_,QYZ E m S _ g0,?_⟩
    repeat' first|with_reducible refine QP ?_ ?_|exact tv|refine aI ?_ ?_
 | false=>
  rw[Hm hem];refine Qf (QbU E m S (Qs E m S) g) ?_;refine Qt ⟨hE.low,qlr _⟩ (Kl (Qj λha=>?_) (Qk λg0=>Qj λho=>?_))
  .refine⟨_,⟨rfl,S,hS,ha,rfl⟩,?_⟩;rw[show jnD E (Qs E m S)=jnE E (Qs E m S) by unfold jnD;rw[hem];rfl]
   refine⟨rfl,rfl,_,QYy E (Qs E m S) (Qs E m S),?_⟩
   repeat' first|with_reducible refine QP ?_ ?_|exact tv|exact qRr|refine aI ?_ ?_
  .obtain⟨e,he,hm,hc,hh,hS',hlen,hJ,hmu⟩:=fact g0 ho;subst he;have hc':QE E.1 (S++[(E.1.getD (nxI g0) noE).3])=E.1.getD (nxI g0) noE:=hc
   have hne:(Qs E m (S++[(E.1.getD (nxI g0) noE).born])).isEmpty=false:=by
    rw[hJ];cases h:Qs E m S with
    | nil=>rw[h]at hem;cases hem
    | cons a l=>rfl
   refine QH (by rw[show X7 E.1 (S++[(E.1.getD (nxI g0) noE).3])=true from hh,hw];simp) ?_
   refine QF (λh1=>QF (λh2=>QH (by simp;omega) ?_) (λh2=>?_)) (λh1=>?_)
   .rw[yes _ (hc' ▸ h1) (hc' ▸ h2)]at hJ;have hl1:(Qs E m S).length+1=(Qs E m (S++[(E.1.getD (nxI g0) noE).born])).length:=by rw[hJ];simp
    have hr:=QZp (Qs E m S) (jG (QE E.1 (S++[(E.1.getD (nxI g0) noE).3])));rw[show Qs E m S++[jG (QE E.1 (S++[(E.1.getD (nxI g0) noE).3]))]=Qs E m (S++[(E.1.getD (nxI g0) noE).born]) by rw[hc',hJ],hl1]at hr
    refine⟨S++[(E.1.getD (nxI g0) noE).born],hS',hmu,λ_ _ r=>r,?_⟩;rw[Hm hne];refine⟨rfl,rfl,_,QVd E m S _ (Qs E m S) _ g0,?_⟩
    repeat' first|with_reducible refine QP ?_ ?_|exact tv|exact qRr|exact hl1|exact Nat.le_of_eq hl1|exact Nat.le_of_eq hl1.symm|exact hr|refine aI ?_ ?_
   .rw[no2 _ (hc' ▸ h2),List.append_nil]at hJ;refine⟨S++[(E.1.getD (nxI g0) noE).born],hS',hmu,λ_ _ r=>r,?_⟩;rw[Hm hne,hJ];refine⟨rfl,rfl,_,QYR E m S _ (Qs E m S) _ g0,?_⟩
    repeat' first|with_reducible refine QP ?_ ?_|exact tv|exact qRr|refine aI ?_ ?_
   .rw[no1 _ (hc' ▸ h1),List.append_nil]at hJ;refine⟨S++[(E.1.getD (nxI g0) noE).born],hS',hmu,λ_ _ r=>r,?_⟩;rw[Hm hne,hJ];refine⟨rfl,rfl,_,QTP E m S _ (Qs E m S) _ g0,?_⟩
    repeat' first|with_reducible refine QP ?_ ?_|exact tv|exact qRr|refine aI ?_ ?_
def HX:Prop:=XX E.1 S/\Y2 E.1 S
abbrev joH(P:Program)(E:ECt)(m:Int):Hnd:={ hnd (mkF P Yo) 3 with loop:=λ_=>QIn 216 [201] (zF E m []) λg=>[(HX E (natsG g)/\Qs E m (natsG g)=[],.exit 0,QBO E),(HX E (natsG g)/\0<(Qs E m (natsG g)).length,.exit 0,jnE E (Qs E m (natsG g)))] }
def joU(n:Nat)(E:ECt)(m:Int)(v:List Jn):UC:=⟨208,⟨2,[(0,.ptr 200 0 0),(1,.int false .i64 m)],brR d n++[(201,.mp E.1 E.2)],216⟩,λk=>.slz k 0 v.length (.of 0),λk=>[(201,.mp E.1 E.2),rwJ true k v]⟩
theorem QU1(n:Nat)(E:ECt)(m:Int)(v:List Jn):VF (mkF prog Yo) (joH prog E m) f89 (joU d n E m v) = .ak [m=m,201=201,0=0,E.2=E.2,([]:List Nat)=[],E.2=E.2,E.1=E.1,E.2=E.2] (.all (λ(g0:Nat->Value)=>.both (.asm (HX E (natsG g0)/\Qs E m (natsG g0)=[]) (.all (λ(g1:Nat->Value)=>.need (true) (.leaf (.nils) ([(201,.mp E.1 E.2)]))))) (.asm (HX E (natsG g0)/\0<(Qs E m (natsG g0)).length) (.all (λ(g2:Nat->Value)=>.need (decide (0<(Qs E m (natsG g0)).length/\(Qs E m (natsG g0)).length<=(Qs E m (natsG g0)).length)) (.need (true&&(decide ((Qs E m (natsG g0)).length<=(Qs E m (natsG g0)).length)&&decide ((0+(Qs E m (natsG g0)).length+(0+(Qs E m (natsG g0)).length) / 4+192)*32<=281474976710656/\0+(Qs E m (natsG g0)).length<=9223372036854775807))) (.need (decide (0+(Qs E m (natsG g0)).length=0+(Qs E m (natsG g0)).length)&&decide (0+(Qs E m (natsG g0)).length<4611686018427387904)) (.leaf (.slz 336 0 (0+(Qs E m (natsG g0)).length) cO) ([(201,.mp E.1 E.2),(336,.rowz true 67 (wbk) (0+(Qs E m (natsG g0)).length) (Yy (0+(Qs E m (natsG g0)).length) (KN 0 (λx x_1=>(0:Int)) λi=>QA.enc ((Qs E m (natsG g0)).getD i (Jn.mk (0:Int) (0:Int) (0:Int) (0:Int))))))]))))))))):=by kernel_rfl
theorem QZn(n:Nat)(E:ECt)(m:Int)(v:List Jn):QG 216 [(AV.nils)] ([((201:Nat),Blk.mp E.1 E.2)]) (KP (joU d n E m v))=( some [v.length=(0:Nat),E.1=E.1,E.2=E.2,v.length=(0:Nat)]):=by kernel_rfl
theorem QcM(n:Nat)(E:ECt)(m:Int)(v:List Jn)(g0:Nat->Value):QG 216 [(AV.slz (336:Nat) (0:Nat) ((0:Nat)+(Qs E m (natsG g0)).length) cO)] ([((201:Nat),Blk.mp E.1 E.2),((336:Nat),Blk.rowz true (67:Nat) [CK.int i64,CK.int i64,CK.int i64,CK.int i64] ((0:Nat)+(Qs E m (natsG g0)).length) (Yy ((0:Nat)+(Qs E m (natsG g0)).length) (KN (0:Nat) (λx x_1=>(0:Int)) λi=>QA.enc ((Qs E m (natsG g0)).getD i (Jn.mk (0:Int) (0:Int) (0:Int) (0:Int))))))]) (KP (joU d n E m v))=( some [0=0,(0:Nat)+(Qs E m (natsG g0)).length=v.length,cO=cO,E.1=E.1,E.2=E.2,v.length<=(0:Nat)+(Qs E m (natsG g0)).length,QB (4:Nat) v.length (Yy ((0:Nat)+(Qs E m (natsG g0)).length) (KN (0:Nat) (λx x_1=>(0:Int)) λi=>QA.enc ((Qs E m (natsG g0)).getD i (Jn.mk (0:Int) (0:Int) (0:Int) (0:Int))))) λi=>QA.enc (v.getD i (Jn.mk (0:Int) (0:Int) (0:Int) (0:Int)))]):=by kernel_rfl
open Go.SX Go.SX.Told Go.Sort
variable {l:List Jn}{c:Nat}(d:Puz)(E:ECt)(m:Int)(o:List Jn)
def Kc:List Jn:=E.1.flatMap (VC m)
theorem QOb{E:ECt}(hb:(E.1.map (·.born)).Nodup)(m:Int){S:List Nat}(h:HX E S):(Qs E m S).Perm (Kc E m):=by
 have h1:=(QUz hb h.1 h.2).flatMap_right (Zx E m);refine h1.trans (List.Perm.of_eq ?_);unfold Kc;rw[List.flatMap_map]
 have:∀ l:List MapEntry,(∀ e∈l,e∈E.1)->l.flatMap (λe=>Zx E m e.born)=l.flatMap (VC m):=by
  intro l
  induction l with
  | nil=>intro _;rfl
  | cons e l ih=>
   intro hl;rw[List.flatMap_cons,List.flatMap_cons,ih λx hx=>hl x (List.mem_cons_of_mem _ hx)];congr 1;unfold Zx;rw[qq hb (hl e qmc)]
 exact this _ λ_ h=>h
def leJ(x y:Jn):Bool := !(ltOf VZ) y x
theorem QQl(a b c:Jn)(h1:leJ a b=true)(h2:leJ b c=true):leJ a c=true:=by
 unfold leJ at *;rw[Bool.not_eq_true']at *;exact He.ntrans c b a h2 h1
theorem QK2(a b:Jn):(leJ a b||leJ b a)=true:=by
 unfold leJ;cases h:ltOf VZ b a with
 | false=>rfl
 | true=>
  cases h2:ltOf VZ a b with
  | false=>rfl
  | true=>
   have:=He.trans _ _ _ h h2;rw[He.irrefl]at this;cases this
theorem QQy{l':List Jn}(h:l.Perm l'):KO l=KO l':=by
 unfold KO;refine List.Perm.eq_of_pairwise (le:=λa b=>leJ a b=true) ?_ (List.pairwise_mergeSort (le:=leJ) QQl QK2 l) (List.pairwise_mergeSort (le:=leJ) QQl QK2 l') (((List.mergeSort_perm l _).trans h).trans (List.mergeSort_perm l' _).symm);intro a b _ _ h1 h2;unfold leJ at h1 h2;rw[Bool.not_eq_true']at h1 h2;exact QR2 a b h2 h1
theorem Qek:(List.range (0+o.length)).map (Xu (KN 0 (λ_ _=>0) λi=>QA.enc (o.getD i ⟨0,0,0,0⟩)))=o:=by
 apply List.ext_getElem
 .simp
 .intro i h1 h2;rw[List.getElem_map,List.getElem_range]
  have e:∀ j,KN 0 (λ_ _=>0) (λi=>QA.enc (o.getD i ⟨0,0,0,0⟩)) i j=QA.enc (o.getD i (⟨0,0,0,0⟩:Jn)) j:=λj=>by
   rw[X3,if_neg (by omega),Nat.sub_zero]
  unfold Xu;rw[e,e,e,e,Xe h2];rfl
theorem KW(N M k nid:Nat)(h:N<=M):Ja N M nid (M+k)=nid+k:=by
 have:Nat.blt (M+k) N=false:=QAA (by omega)
 simp only[Ja,this];omega
theorem QWV(hw:WfE E)(hE:OkM E.1 E.2)(hl:E.1.length<=1000000000)(G:Ctx)(hrd:G.rd=none)(hG:G.n<=216):Qu (mkF prog Yo) G (joH prog E m) (Qp f89):=by
 refine KM (body:=QJ f89 0) (Ke QBg) hrd (by kernel_rfl) ?_
 refine Qdx (I:=jnI E m) (n0:=216) (Ke QBg) hG (λS _=>Q1 (Ke QBg) 1 G _ hrd) (λS _=>?_) ?_ (Qem E m hw hE hl) (s0:=[]) ⟨List.nodup_nil,λb h=>(by cases h)⟩ ?_
 .unfold jnI;cases (Qs E m S).isEmpty<;>exact(by decide:216<=272)
 .rintro s e J ⟨_,T,_,_,rfl⟩;unfold jnD;cases (Qs E m T).isEmpty<;>exact(by decide:216<=272)
 .rintro e J ⟨rfl,T,h1,h2,rfl⟩;obtain⟨g,hg⟩:=QXo T;refine⟨g,?_⟩;unfold jnD;rw[hg];cases h:(Qs E m T).isEmpty with
  | true=>exact⟨_,qmc,⟨⟨h1,h2⟩,List.isEmpty_iff.1 h⟩,rfl,rfl⟩
  | false=>
   refine⟨_,List.mem_cons_of_mem _ qmc,⟨⟨h1,h2⟩,?_⟩,rfl,rfl⟩;cases hh:Qs E m T with
   | nil=>rw[hh]at h;cases h
   | cons a l=>exact Nat.succ_pos _
theorem QT5(n:Nat)(E:ECt)(m:Int)(v:List Jn):(joU d n E m v).Ok:=by
 refine⟨(by decide:208<=216),rfl,rfl,?_,rfl,λnid h=>?_,λnid h=>?_⟩
 .intro q hq;simp only[UC.po,joU,rwJ,List.mem_cons,List.not_mem_nil,or_false]at hq;rcases hq with rfl|rfl
  .exact⟨rfl,rfl,rfl,λ_=>rfl⟩
  .exact⟨rfl,rfl,rfl,λh=>absurd (show 216<208 from h) (by decide)⟩
 .have e0:=KW 208 216 0 nid (by decide)
  simp only[UC.va,joU,AV.mapId,Nat.add_zero]at e0 ⊢;rw[e0]
 .have e0:=KW 208 216 0 nid (by decide)
  simp only[UC.po,joU,rwJ,List.map_cons,List.map_nil,Blk.mapId,Nat.add_zero]at e0 ⊢;rw[e0];rfl
theorem QHE(n:Nat)(E:ECt)(m:Int)(hw:WfE E)(hE:OkM E.1 E.2)(hl:E.1.length<=1000000000):QR prog 89 (uFC (joU d n E m (KO (Kc E m)))):=by
 refine Ks (E:=mkF prog Yo) (Ke QBg) func89 (by kernel_rfl) (by kernel_rfl) (QT5 ..) (λG h1 h2=>QWV E m hw hE hl G h1 (by rw[h2];exact qlr _)) ⟨?_⟩
 refine Qf (QU1 d n E m (KO (Kc E m))) ?_
 repeat' first|refine Qt (p:=_=_) rfl ?_
 refine Qk λg0=>Kl (Qj λha=>Qk λ_=>QH rfl ?_) (Qj λha=>Qk λ_=>?_)
 .have hp:=QOb hE.born m ha.1;rw[ha.2]at hp;have hnil:=List.Perm.eq_nil hp.symm;refine⟨rfl,rfl,_,QZn d n E m (KO (Kc E m)),?_⟩;rw[hnil]
  repeat' first|exact G1 _|exact(G1 _).symm|exact tv|exact rfl|refine aI ?_ ?_
 .have hp:=QOb hE.born m ha.1;have hs:=QQy hp;have h1:=QDB ha.1.1;have h2:=QHU E m (natsG g0);have hlen:0+(Qs E m (natsG g0)).length=(KO (Kc E m)).length:=by rw[<-hs,G1,Nat.zero_add]
  have hr:∀ k,QB 4 k (Yy (0+(Qs E m (natsG g0)).length) (KN 0 (λ_ _=>0) λi=>QA.enc ((Qs E m (natsG g0)).getD i ⟨0,0,0,0⟩))) λi=>QA.enc ((KO (Kc E m)).getD i ⟨0,0,0,0⟩):=by
   intro k i _;show eqF 4 0 (QA.enc ((KO _).getD i (⟨0,0,0,0⟩:Jn))) _;rw[Qek,hs];exact⟨rfl,rfl,rfl,rfl,trivial⟩
  have hpos:=ha.2;refine QH (by simp;omega) (QH (by simp;omega) (QH (by simp;omega) ?_))
  refine⟨rfl,rfl,_,QcM d n E m (KO (Kc E m)) g0,?_⟩
  repeat' first|exact tv|exact hlen|exact Nat.le_of_eq hlen|exact Nat.le_of_eq hlen.symm|exact hr _|exact rfl|refine aI ?_ ?_
def QHb(k:Int)(A B:FC):FC:=λargs nid all=>match args with
 | [_,.int _ _ m]=>(match decide (m=k)with
  | true=>A args nid all
  | false=>B args nid all)
 | _=>([],λ_=>none)
theorem QfV{P:Program}{f:FuncId}{k:Int}{A B:FC}(hA:QR P f A)(hB:QR P f B):QR P f (QHb k A B):=by
 refine⟨hA.1,λargs nid all r w lk blks eff hH ha hv he hp=>?_⟩;unfold QHb at hv he;split at he<;>(try (cases he;done))
 rename_i m;simp only at hv;cases hd:decide (m=k)with
 | true=>
  rw[hd]at hv he;exact hA.2 _ nid all r w lk blks eff hH ha hv he hp
 | false=>
  rw[hd]at hv he;exact hB.2 _ nid all r w lk blks eff hH ha hv he hp
def QBL(pb:List Prop->Bool)(d:Puz)(E:ECt)(v w:List Jn):Tab:=Qc (Qc KF 60 (KB pb (nbU d E))) 89 (QHb 2 (KB pb (joU d 0 E 2 v)) (KB pb (joU d 0 E 1 w)))
theorem QY8(pb:List Prop->Bool)(d:Puz)(E:ECt)(v w:List Jn):Ku (mkE prog (QBL pb d E v w)) (hnd (mkE prog (QBL pb d E v w)) 2) f40 (Qi.vals 0 ((d,()):Puz×Unit)) (Qi.blks 0 ((d,()):Puz×Unit)) 104 = .need (decide (d.ps.n<=d.ps.n)&&true&&decide (d.ps.n<=1000)) (.br (!d.ok) (.leaf (.tup [.nils,.nils,vj 1]) ([])) (.need (pb ((wab d++([cO=cO]++wae d)))) (.need (pb (([0=0,0=0,(2:Int)=2]++wab d++([cO=cO,0=0]++wae d++[E.1=E.1,E.2=E.2])))) (.need (pb (([0=0,0=0,(1:Int)=1]++wab d++([cO=cO,0=0]++wae d++[E.1=E.1,E.2=E.2])))) (.leaf (.tup [.slz 288 0 v.length cO,.slz 304 0 w.length cO,vj 0]) ([(288,.rowz true 67 (wbk) v.length λi=>QA.enc (v.getD i (Jn.mk (0:Int) (0:Int) (0:Int) (0:Int)))),(304,.rowz true 67 (wbk) w.length λi=>QA.enc (w.getD i (Jn.mk (0:Int) (0:Int) (0:Int) (0:Int))))])))))):=by kernel_rfl
def QDn(v w:List Jn)(e:Int):AV := .tup [.slz 0 0 v.length (.of 0),.slz 1 0 w.length (.of 0),.int false .i64 e]
def QAh(v w:List Jn):List (Nat×Blk):=[rwJ true 0 v,rwJ true 1 w]
theorem Qc0(v w:List Jn)(e:Int):QG 104 [(AV.tup [AV.nils,AV.nils,vj (1:Int)])] ([]) (KT 104 (QDn v w e) (QAh v w))=( some [v.length=(0:Nat),w.length=(0:Nat),(1:Int)=e,v.length=(0:Nat),w.length=(0:Nat)]):=by kernel_rfl
theorem QX7(v w v' w':List Jn)(e:Int):QG 104 [(AV.tup [AV.slz (288:Nat) (0:Nat) v.length cO,AV.slz (304:Nat) (0:Nat) w.length cO,vj (0:Int)])] ([((288:Nat),Blk.rowz true (67:Nat) [CK.int i64,CK.int i64,CK.int i64,CK.int i64] v.length λi=>QA.enc (v.getD i (Jn.mk (0:Int) (0:Int) (0:Int) (0:Int)))),((304:Nat),Blk.rowz true (67:Nat) [CK.int i64,CK.int i64,CK.int i64,CK.int i64] w.length λi=>QA.enc (w.getD i (Jn.mk (0:Int) (0:Int) (0:Int) (0:Int))))]) (KT 104 (QDn v' w' e) (QAh v' w'))=( some [0=0,v.length=v'.length,cO=cO,0=0,w.length=w'.length,cO=cO,(0:Int)=e,v'.length<=v.length,QB (4:Nat) v'.length (λi=>QA.enc (v.getD i (Jn.mk (0:Int) (0:Int) (0:Int) (0:Int)))) λi=>QA.enc (v'.getD i (Jn.mk (0:Int) (0:Int) (0:Int) (0:Int))),w'.length<=w.length,QB (4:Nat) w'.length (λi=>QA.enc (w.getD i (Jn.mk (0:Int) (0:Int) (0:Int) (0:Int)))) λi=>QA.enc (w'.getD i (Jn.mk (0:Int) (0:Int) (0:Int) (0:Int)))]):=by kernel_rfl
structure OkE (E:ECt) (c:Nat):Prop where
 w:WfE E
 m:OkM E.1 E.2
 l:E.1.length<=c
theorem QXh(k:List Int)(kv v:Value)(cl:Nat)(es:List MapEntry):(JA k kv v cl es).length<=es.length+1:=by
 have hs:∀(es:List MapEntry) (i:Nat),(VA kv v es i).length=es.length:=by
  intro es
  induction es with
  | nil=>intro i;cases i<;>rfl
  | cons e es ih=>intro i;cases i with
   | zero=>rfl
   | succ i=>simp only[VA,List.length_cons,ih]
 unfold JA;split
 .rw[hs];exact Nat.le_succ _
 .simp
theorem QXw{E:ECt}(h:OkE E c)(i s k t:Nat)(n:Int):OkE (QBn i s k t n E) (c+1):=
 ⟨QQe h.w ..,QUx (λe he=>zx he) h.m,Nat.le_trans (QXh ..) (Nat.succ_le_succ h.l)⟩
theorem QAf{E:ECt}{c':Nat}(h:OkE E c)(hc:c<=c'):OkE E c':=⟨h.w,h.m,Nat.le_trans h.l hc⟩
theorem QVN{d:Puz}{p q:QW}{i k s t:Nat}{E:ECt}(h:OkE E c):OkE (stE d p q i k s t E) (c+1):=by
 unfold stE;cases ((i:Int) != (k:Int))&&(meF d p q s t != 0)
 .exact QAf h (Nat.le_succ _)
 .exact QXw h ..
theorem QLl{d:Puz}{p q:QW}{i k s:Nat}{E:ECt}{c:Nat}(h:OkE E c):∀ t,OkE (m4 d p q i k s E t) (c+t)
 | 0=>h
 | t+1=>QVN (QLl h t)
theorem QKE{d:Puz}{p q:QW}{i k:Nat}{E:ECt}{c:Nat}(h:OkE E c):∀ s,OkE (m3 d p q i k E s) (c+4*s)
 | 0=>h
 | s+1=>QAf (QLl (QKE h s) 4) (by omega)
theorem QQk{d:Puz}{p:QW}{i:Nat}{E:ECt}{c:Nat}(h:OkE E c):∀ k,OkE (m2 d p i E k) (c+16*k)
 | 0=>h
 | k+1=>QAf (QKE (QQk h k) 4) (by omega)
theorem QLT(d:Puz):∀ i,OkE (m1 d i) (16*d.ps.n*i)
 | 0=>⟨rfl,⟨List.nodup_nil,λe h=>(by cases h),List.nodup_nil⟩,Nat.zero_le _⟩
 | i+1=>QAf (QQk (QLT d i) d.ps.n) (by rw[Nat.mul_succ];exact qlr _)
def QM:ECt:=m1 d d.ps.n
theorem Y5(hn:d.ps.n<=1000):OkE (QM d) 16000000:=QAf (QLT d d.ps.n) (by
 have:=Nat.mul_le_mul (Nat.mul_le_mul (qlr 16) hn) hn;omega)
def WI:List Jn×List Jn×Int:=cond d.ok (KO (Kc (QM d) 2),KO (Kc (QM d) 1),0) ([],[],1)
def Zq:WF (Puz×Unit):=λ|(d,_)=>(decide (d.ps.n<=1000),QDn (WI d).1 (WI d).2.1 (WI d).2.2,QAh (WI d).1 (WI d).2.1)
def QZh:FC:=wFC Zq
theorem QU8:WOk (Zq (d,())).2.1 (Zq (d,())).2.2:=⟨rfl,by simp[Zq,QAh,rwJ,Blk.own,Blk.all],rfl⟩
theorem QS8(hn:d.ps.n<=1000):Qe (QBL QO d (QM d) (KO (Kc (QM d) 2)) (KO (Kc (QM d) 1))):=by
 have h:=Y5 d hn;have hl:=Nat.le_trans h.l (show 16000000<=1000000000 by decide)
 exact(JG.add (Zz d (by omega))).add (QfV (QHE d 0 (QM d) 2 h.w h.m hl) (QHE d 0 (QM d) 1 h.w h.m hl))
theorem QZY(hx:(Zq (d,())).1=true):QR prog 40 (wFC (VJ Zq (d,()))):=by
 have hn:d.ps.n<=1000:=qdt hx;have hT:=QS8 d hn;refine Yk (c:=Qp f40) (E:=mkE prog (QBL QO d (QM d) (KO (Kc (QM d) 2)) (KO (Kc (QM d) 1)))) (H:=hnd (mkE prog (QBL QO d (QM d) (KO (Kc (QM d) 2)) (KO (Kc (QM d) 1)))) 2) (QQ hT) func40 (by kernel_rfl) (by kernel_rfl) (N:=104) (by decide) (d,()) (λG h1 _=>Q1 (QQ hT) 2 G _ h1) (QU8 d) ?_
 refine Qf (QY8 QO d (QM d) (KO (Kc (QM d) 2)) (KO (Kc (QM d) 1))) ?_;have hv:WI d=cond d.ok (KO (Kc (QM d) 2),KO (Kc (QM d) 1),0) ([],[],1):=rfl;refine QH ?_ ?_;rotate_left;refine QF (λb0=>?_) (λb0=>?_);have b0:d.ok=false:=by simpa using b0
 rw[b0,cond_false]at hv;simp only[Zq,hv];refine⟨rfl,rfl,_,Qc0 [] [] 1,?_⟩
 rotate_left
 iterate 3 (refine QH ?_ ?_;rotate_left)
 have b0:d.ok=true:=by simpa using b0
 rw[b0,cond_true]at hv;simp only[Zq,hv];refine⟨rfl,rfl,_,QX7 (KO (Kc (QM d) 2)) (KO (Kc (QM d) 1)) (KO (Kc (QM d) 2)) (KO (Kc (QM d) 1)) 0,?_⟩
 rotate_left
 all_goals first|(show _=true;(first|(refine Q6.2 ?_;repeat' first|exact tv|exact qRr|exact rfl|refine aI ?_ ?_)|(simp;omega)))|(repeat' first|with_reducible refine QP ?_ ?_|exact tv|exact qRr|exact rfl|refine aI ?_ ?_)
theorem QWH:QR prog 40 QZh:=vh (by kernel_rfl) λ|(d,()),hx=>QZY d hx
