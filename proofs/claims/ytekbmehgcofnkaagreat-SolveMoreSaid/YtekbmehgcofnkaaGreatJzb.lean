/- - -/
import Derived.Test.YtekbmehgcofnkaaGreatJza
import Derived.Shelf.SlSortCmp.NoneTotal
set_option linter.all false
noncomputable section
open Go.Proofs.Tryz
open Go.IntKind (i64)
set_option maxRecDepth 100000
namespace Go.Proofs.YtekbmehgcofnkaaGreat
open Go Go.RowKit Go.Lib Go.Shelf Go.Sort Go.SX Go.SX.Told
variable {l:List Jn}
theorem QXn{w:World}{b m:Nat}{os:Array Obj}{l':List Jn}{rest:List Value}{ty:TypeId}(h:bk w b=some (.cells (l.flatMap JD++rest).toArray ty (0,0)))(hl:l.length=l'.length):
  bk (sortWorldK JD 4 w b 0 m l'.toArray os) b=some (.cells (l'.flatMap JD++rest).toArray ty (0,0))/\(∀ k,k<w.heap.size->k≠b->bk (sortWorldK JD 4 w b 0 m l'.toArray os) k=bk w k)/\w.heap.size<=(sortWorldK JD 4 w b 0 m l'.toArray os).heap.size:=by
 have hk:∀ x,(JD x).length=4:=λ_=>rfl
 have hf:flatK JD 4 l'.toArray=(l'.flatMap JD).toArray:=by
  apply Array.ext';rw[QTE JD 4 hk]
 have hlen:(l.flatMap JD).length=(l'.flatMap JD).length:=by rw[qf JD 4 hk,qf JD 4 hk,hl]
 have hb:b<w.heap.size:=by
  unfold bk at h;exact(Array.getElem?_eq_some_iff.1 h).1
 unfold bk at h ⊢;unfold sortWorldK grow putRowK putRow mapBlock Sort.ahead;simp only[hf];refine⟨?_,λk hk1 hk2=>?_,by simp⟩
 .rw[Array.getElem?_append_left (by simpa using hb),Array.getElem?_modify,if_pos rfl,h]
  simp only[Option.map_some,onCells];rw[QTQ _ _ _ hlen]
 .rw[Array.getElem?_append_left (by simpa using hk1),Array.getElem?_modify,if_neg (λe=>hk2 e.symm)]
theorem QhS{w:World}{b:Nat}{rest:List Value}{ty:TypeId}(h:bk w b=some (.cells (l.flatMap JD++rest).toArray ty (0,0))):HoldsK JD 4 w b 0 l.toArray:=by
 have hk:∀ x,(JD x).length=4:=λ_=>rfl;intro j hj;rw[size_flatK]at hj;have hj:j<l.length*4:=by simpa using hj
 have e:((flatK JD 4 l.toArray)[j]!)=(JD l[j / 4]!)[j % 4]! := by
  rw[get_flatK JD 4 _ j (by simpa using hj)];simp
 refine⟨?_,?_⟩
 .rw[YK h,Nat.zero_add,List.getElem?_append_left (by rw[qf JD 4 hk];exact hj),QB4 JD 4 hk l j hj,e]
  rfl
 .unfold World.frozen?;unfold bk at h;rw[h];simp
def QIP:FC:=λargs _ _=>match args with
 | [.slz id 0 n _,.fn (.func f) []]=>([id],λbs=>match Nat.beq f 131,bs with
  | true,[.rowz true ty [.int .i64,.int .i64,.int .i64,.int .i64] n' g]=>some ⟨false,decide (n=n')&&decide (n<4611686018427387904),.tup [],[(id,.rowz true ty [.int .i64,.int .i64,.int .i64,.int .i64] n (ZQ n g))]⟩
  | _,_=>none)
 | [.nils,.fn (.func f) []]=>([],λbs=>match Nat.beq f 131,bs with
  | true,[]=>some ⟨false,true,.tup [],[]⟩
  | _,_=>none)
 | _=>([],λ_=>none)
theorem QA6(l:List Jn):(KZ l).length=l.length:=by unfold KZ;rw[List.length_mergeSort]
theorem QfQ:∀ w,(isAgg 67).run prog w = .ok true w:=Tryz.isAgg67
theorem QaE:∀ w,(Go.sizeOf 67).run prog w = .ok 4 w:=Tryz.sizeOf67
theorem Qb7:QQ prog 153 QIP:=by
 have hnone:∀(p:Option Addr) (cap:Nat) (fv:Value) (w:World),Calls prog 153 #[.slice p 0 cap,fv] w λe w'=>e = .returned (.tuple #[])/\w'=w:=AnyF.slices_SortFunc_none Tryz.sortJn;refine⟨by kernel_rfl,λargs nid all r w lk blks eff hH _ hv he hp=>?_⟩
 unfold QIP at hv he;split at he<;>(try (cases he;done))
 rotate_left
 .rename_i f hx;simp only at he;split at he<;>(try (cases he;done))
  rename_i hf;have hf:f=131:=qnb hf;subst hf;simp only[qsI]at he;subst he;refine(hnone none 0 (.func (.func 131) #[] #[]) w).mono ?_;rintro e w' ⟨rfl,rfl⟩;exact⟨r,rfl,λ_ _=>rfl,λp hp=>(by cases hp),⟨rfl,rfl,rfl,qlr _,qlr _,λ_ _ _=>rfl⟩,λp hp=>(by cases hp),λp hp=>(by cases hp),λp hp=>(by cases hp)⟩
 rename_i id n c f hx;simp only at he;split at he<;>(try (cases he;done))
 rename_i ty n' g hf;have hf:f=131:=qnb hf;subst hf;simp only[qsI]at he;subst he;simp only[qbA,qdE]at hp;obtain⟨hn,hlt⟩:=hp;subst hn;have hlk:lk id=some (.rowz true ty [.int .i64,.int .i64,.int .i64,.int .i64] n g):=by simpa using hv
 have hlk:lk id=some (.rowz true ty ksJ n g):=hlk;obtain⟨h0,h4,hfoot,hnil,hrow,hcells⟩:=(show Kg r id w ty ksJ.length n (QW ksJ g)from hH.rep _ _ hlk);have hout:=hH.out _ _ hlk;have hrow':∀ i,i<n->(QW ksJ (ZQ n g) i).length=ksJ.length/\JX (QW ksJ (ZQ n g) i)=true:=λi _=>⟨XS _ _ _,J6 _ _ _⟩;cases hN:(r id).nil with
 | true=>
  have hz:=hnil hN;subst hz;refine(hnone ((r id).base 0) ((r id).room (c.den (r id).cap)) (.func (.func 131) #[] #[]) w).mono ?_;rintro e w' ⟨rfl,rfl⟩;refine⟨r,rfl,λ_ _=>rfl,?_,⟨rfl,rfl,rfl,qlr _,qlr _,λ_ _ _=>rfl⟩,?_,?_,?_⟩
  .intro p hp;rw[List.mem_singleton.1 hp];exact⟨h0,h4,hfoot,hnil,λi hi=>absurd hi (Nat.not_lt_zero _),λq=>by rw[hN]at q;cases q⟩
  .intro p hp hin;rw[List.mem_singleton.1 hp]at hin;rw[hout]at hin;cases hin
  .intro p hp _ _ k hk;rw[List.mem_singleton.1 hp]at hk;rw[List.mem_singleton.1 hp];exact⟨_,hlk,hk⟩
  .intro p hp q _ hin;rw[List.mem_singleton.1 hp]at hin;rw[hout]at hin;cases hin
 | false=>
  obtain⟨hcap,rest,hrest,hbk⟩:=hcells hN;rw[QKw]at hbk
  have hb:(r id).blk<w.heap.size:=by
   unfold bk at hbk;exact(Array.getElem?_eq_some_iff.1 hbk).1
  have eg:∀ args w,(callFunc 131 args).run prog w = .ok (.enter 131 args) w:=enters_of func131 (by kernel_rfl) rfl
  have hd:((List.range n).map (YD g)).toArray.size=n:=by simp
  have hcon:=AnyQ.slices_SortFunc Tryz.sortJn 4 QfQ QaE JD (λ_=>rfl) (λx v hv=>by simp[JD]at hv;rcases hv with rfl|rfl|rfl|rfl<;>rfl) Vm QBm 131 #[] (r id).blk 0 ((r id).room (c.den (r id).cap)) ((List.range n).map (YD g)).toArray w eg (QVA _ _ _ _) (QhS hbk) hb (by rw[hd];exact hlt)
  rw[hd]at hcon
  have ha:AV.denL r [.slz id 0 n c,.fn (.func 131) []]=[.slice (some ⟨(r id).blk,0,none⟩) n ((r id).room (c.den (r id).cap)),.func (.func 131) #[] #[]]:=by
   simp only[AV.denL,AV.den,Loc.base,hN,h0,Nat.zero_mul,Nat.add_zero]
  rw[ha];refine hcon.mono ?_;rintro e w' ⟨rfl,d',m,os,hperm,hsort,rfl⟩;have hu:=sorted_unique_holds QBm QMP ((List.range n).map (YD g)).toArray d' (by rw[hd];exact hperm) (by rw[hd];exact hsort)
  have hd':d'=(KZ ((List.range n).map (YD g))).toArray:=Array.ext' (by rw[hu];rfl)
  subst hd';obtain⟨w1,w2,w3⟩:=QXn (m:=m) (os:=os) hbk (QA6 _).symm;refine⟨r,rfl,λ_ _=>rfl,?_,⟨rfl,rfl,rfl,w3,Nat.le_add_right _ _,λk hk hc=>w2 k hk λe=>hc ⟨_,List.mem_singleton.2 rfl,hout,_,hlk,(hfoot k).2 ⟨hN,e⟩⟩⟩,?_,?_,?_⟩
  .intro p hp;rw[List.mem_singleton.1 hp];refine⟨h0,h4,hfoot,hnil,hrow',λ_=>⟨hcap,rest,hrest,?_⟩⟩;show bk _ _=some (.cells (AV.denL r (Q6 n (QW ksJ (ZQ n g))).flatten++rest).toArray ty (0,0));rw[Qga];exact w1
  .intro p hp hin;rw[List.mem_singleton.1 hp]at hin;rw[hout]at hin;cases hin
  .intro p hp _ _ k hk;rw[List.mem_singleton.1 hp]at hk;rw[List.mem_singleton.1 hp];exact⟨_,hlk,hk⟩
  .intro p hp q _ hin;rw[List.mem_singleton.1 hp]at hin;rw[hout]at hin;cases hin
def Yq:Tab:=QZ QU 153 QIP
theorem QFN:Qc Yq:=Qd.add Qb7
end Go.Proofs.YtekbmehgcofnkaaGreat
namespace Go.SX
open Go Go.RowKit Go.Proofs.YtekbmehgcofnkaaGreat
namespace Told
def natsG(g:Nat->Value):List Nat:=(List.range (nxI g)).map λi=>nxI λ_=>g (i+1)
end Told
theorem QYL(l:List Nat):∃ g,Told.natsG g=l:=by
 refine⟨λk=>match k with
  | 0 => .int .i64 l.length
  | i+1 => .int .i64 ((l.getD i 0:Nat):Int),?_⟩
 have h0:∀ n:Nat,Told.nxI (λ_=>Value.int .i64 (n:Int))=n:=λn=>by simp[Told.nxI,Told.intV]
 apply List.ext_getElem?;intro i;unfold Told.natsG
 have e:Told.nxI (λk=>match k with
  | 0=>Value.int .i64 l.length
  | i+1 => .int .i64 ((l.getD i 0:Nat):Int))=l.length:=by simp[Told.nxI,Told.intV]
 rw[e,List.getElem?_map]
 by_cases h:i<l.length
 .rw[List.getElem?_range h];simp only[Option.map_some,h0];rw[List.getElem?_eq_getElem h,K8 h]
 .rw[List.getElem?_eq_none (by simpa using h),List.getElem?_eq_none (by omega)];rfl
def QGp(n0:Nat)(ids:List Nat)(J0:JSt)(X:(Nat->Value)->List (Prop×Ex×JSt))(st:St)(K:Ex->St->QC):QC:=
 match Nat.beq st.tm.length J0.len&&Vw st.hp with
 | true=>(match QF n0 ((J0.live.map (·.1)).map (QH st.tm)) (Kz ids ((J0.live.map (·.1)).map (QH st.tm)) st.hp) J0 with
  | some ps=>H4 ps (.all λg=>Hl K (X g))
  | none => .fail "a loop's beginning")
 | false => .fail "a loop's slots"
theorem QZ0{σ:Type}{I:σ->JSt}{pre:σ->Prop}{μ:σ->Nat}{R:σ->Ex->JSt->Prop}{n0:Nat}{ls:Ex->List Nat}{ids ids':List Nat}{E:Env}(hE:E.Sound){H:σ->Hnd}{G:Ctx}(hG:G.n<=n0){body:Code}(hH:∀ s,pre s->Q1 E G (H s) body)(hn:∀ s,pre s->n0<=(I s).nid)(hR:∀ s e J,R s e J->n0<=J.nid)(hr:J1 I pre μ R n0 ls ids E H body){s0:σ}(hp:pre s0){X:(Nat->Value)->List (Prop×Ex×JSt)}(hX:∀ e J,R s0 e J->∃ g,∃ x∈X g,x.1/\x.2.1=e/\x.2.2=J):
  Jq E G (.loop body) (QGp n0 ids' (I s0) X):=by
 intro st K T Q a w hn' h hrep hQ;unfold QGp at h;split at h
 rotate_left
 .exact h.elim
 rename_i hl;split at h
 rotate_left
 .exact h.elim
 rename_i ps hps;simp only[qbA]at hl;have hlen:=qnb hl.1;obtain⟨ha,hx⟩:=QBr h;have hnear:=Rep.near (h':=Kz ids' (((I s0).live.map (·.1)).map (QH st.tm)) st.hp) (λid b hb=>Z5 hb) hl.2 hrep;have hso:JT n0 ((I s0).live.map (·.1)) st.tm.length (((I s0).live.map (·.1)).map (QH st.tm)) (Kz ids' (((I s0).live.map (·.1)).map (QH st.tm)) st.hp) (I s0):={ slots:=rfl,len:=hlen,eqs:=⟨ps,hps,ha⟩ };obtain⟨g,hr'⟩:=Rep.subW hnear hso hG;refine wpIn_loop_rounds (μ s0+1) (QGR hE hG hH hn hR hr _ s0 g a w (Nat.lt_succ_self _) hp hr' ?_);intro e J g' a' w' hRe hnJ hrJ
 obtain⟨g2,x,h1,h2,h3,h4⟩:=hX e J hRe;have:=QAu (hx g2) x h1 h2 g';rw[h3,h4]at this;exact hQ e (J.inst g') a' w' (Nat.le_trans hG hnJ) this hrJ
end Go.SX
namespace Go.Proofs.YtekbmehgcofnkaaGreat
open Go.SX Go.SX.Told
def jO(e:MapEntry):Jn:=⟨QS e 0,QS e 1,QS e 2,QS e 3⟩
variable (E:ECt)(m:Int)(o:List Jn)(S S':List Nat)(g0:Nat->Value)
def VY(e:MapEntry):List Jn:=cond (decide (m<=intV e.val)&&decide (QS e 0<QS e 2)) [jO e] []
def Zv(b:Nat):List Jn:=match E.1.find? (·.born==b)with
 | some e=>VY m e
 | none=>[]
def Qv:List Jn:=S.flatMap (Zv E m)
def rwJ(own:Bool)(id:Nat)(o:List Jn):Nat×Blk:=(id,.rowz own 67 [.int .i64,.int .i64,.int .i64,.int .i64] o.length λi=>QA.enc (o.getD i ⟨0,0,0,0⟩))
def jnJ(o:List Jn):JSt:=⟨48,[(1,.int false .i64 m),(5,.slz 256 0 o.length (.of 0)),(12,.ptr 264 201 0)],[(264,.itm [.map 201] 150 E.2 S E.2),(201,.mp E.1 E.2),rwJ true 256 o],272⟩
def jnE:JSt:=⟨48,[(5,.slz 256 0 o.length (.of 0))],[(201,.mp E.1 E.2),rwJ true 256 o],272⟩
def G7:JSt:=⟨48,[(1,.int false .i64 m),(5,.nils),(12,.ptr 264 201 0)],[(264,.itm [.map 201] 150 E.2 S E.2),(201,.mp E.1 E.2)],272⟩
def QC0:JSt:=⟨48,[(5,.nils)],[(201,.mp E.1 E.2)],272⟩
def QG2:Ex->List Nat
 | .normal=>[1,5,12]
 | .exit _=>[5]
 | .ret=>[]
abbrev QH6:List CK:=(waG)
abbrev QFu:Nat×Blk:=(256,.rowz true 67 QH6 o.length λi=>QA.enc (o.getD i (Jn.mk (0:Int) (0:Int) (0:Int) (0:Int))))
abbrev QQB:List AV:=[.nilp,.ptr 48 0 0,vi m,.slz 256 0 o.length cO,.ptr 264 201 0]
abbrev waO(E:ECt)(S:List Nat)(g0:Nat->Value):List AV:=[vi (QS (QK E.1 (S++[(E.1.getD (nxI g0) noE).3])) 0),vi (QS (QK E.1 (S++[(E.1.getD (nxI g0) noE).3])) 1),vi (QS (QK E.1 (S ++ [(E.1.getD (nxI g0) noE).3])) 2),vi (QS (QK E.1 (S++[(E.1.getD (nxI g0) noE).3])) 3)]
theorem QUX(o:List Jn)(g:Nat->Value):exec (mkF prog Yq) (hnd (mkF prog Yq) 1) (QJ f89 0) (JSt.inst (jnJ E m S o) g) (KD [201] QG2) = .ask (QBL E.1 E.2 E.2) (.both (.asm (ZN E.1 S) (.leaf (.tup [.ptr 0 0 0,.ptr 48 0 0,.slz 256 0 o.length cO]) ([(201,.mp E.1 E.2),(QFu o)]))) (.all (λ(g0:Nat->Value)=>.asm (GX E.1 S (nxI g0)) (.need (decide (E.2=E.2)&&YJ E.1 (S++[(E.1.getD (nxI g0) noE).3])&&wf4 i64 E.1) (.br (decide (intV (QK E.1 (S++[(E.1.getD (nxI g0) noE).3])).2≥m)) (.br (decide (QS (QK E.1 (S++[(E.1.getD (nxI g0) noE).3])) 0<QS (QK E.1 (S++[(E.1.getD (nxI g0) noE).3])) 2)) (.need (decide (o.length<=o.length)&&(true&&decide ((o.length+1+(o.length+1) / 4+192)*32<=281474976710656/\o.length+1<=9223372036854775807))) (.leaf (.tup [.nilp,.ptr 48 0 0,vi m,.slz 552 0 (o.length+1) cO, .ptr 264 201 0]) ([(201,.mp E.1 E.2),(552,.rowz true 67 QH6 (o.length+1) (KH o.length (λi=>QA.enc (o.getD i (Jn.mk (0:Int) (0:Int) (0:Int) (0:Int)))) (Kt [[vi (QS (QK E.1 (S++[(E.1.getD (nxI g0) noE).3])) 0),vi (QS (QK E.1 (S++[(E.1.getD (nxI g0) noE).3])) 1),vi (QS (QK E.1 (S ++ [(E.1.getD (nxI g0) noE).3])) 2),vi (QS (QK E.1 (S++[(E.1.getD (nxI g0) noE).3])) 3)]] 0))),(264,.itm [.map 201] 150 E.2 (S++[(E.fst.getD (nxI g0) noE).born]) E.2)]))) (.leaf (.tup (QQB m o)) ([(201,.mp E.1 E.2),(QFu o),(264,.itm [.map 201] 150 E.2 (S++[(E.fst.getD (nxI g0) noE).born]) E.2)]))) (.leaf (.tup (QQB m o)) ([(201,.mp E.1 E.2),(QFu o),(264,.itm [.map 201] 150 E.2 (S++[(E.fst.getD (nxI g0) noE).born]) E.2)]))))))):=by kernel_rfl
abbrev waW(o:List Jn)(o':List Jn):List Prop:=[o'.length<=o.length,QB (4:Nat) o'.length (λi=>QA.enc (o.getD i (Jn.mk (0:Int) (0:Int) (0:Int) (0:Int)))) λi=>QA.enc (o'.getD i (Jn.mk (0:Int) (0:Int) (0:Int) (0:Int)))]
theorem QWO(o o':List Jn):QF 216 [AV.slz (256:Nat) (0:Nat) o.length cO] ([((201:Nat),Blk.mp E.1 E.2),((256:Nat),Blk.rowz true (67:Nat) [CK.int i64,CK.int i64,CK.int i64,CK.int i64] o.length λi=>QA.enc (o.getD i (Jn.mk (0:Int) (0:Int) (0:Int) (0:Int))))]) (jnE E o')=( some [0=0,o.length=o'.length,cO=cO,E.1=E.1,E.2=E.2,o'.length<=o.length,QB (4:Nat) o'.length (λi=>QA.enc (o.getD i (Jn.mk (0:Int) (0:Int) (0:Int) (0:Int)))) λi=>QA.enc (o'.getD i (Jn.mk (0:Int) (0:Int) (0:Int) (0:Int)))]):=by kernel_rfl
abbrev QMR:List AV:=(waO E S g0)
abbrev wbm(E:ECt)(S:List Nat)(S':List Nat)(g0:Nat->Value):List Prop:=[E.2=E.2,S++[(E.1.getD (nxI g0) noE).3]=S',E.2=E.2,E.1=E.1,E.2=E.2]
theorem QhP(o o':List Jn)(g0:Nat->Value):QF 216 [vi m,.slz 552 0 (o.length+1) cO,.ptr 264 201 0] ([(201,.mp E.1 E.2),(552,.rowz true 67 QH6 (o.length+1) (KH o.length (λi=>QA.enc (o.getD i (Jn.mk (0:Int) (0:Int) (0:Int) (0:Int)))) (Kt [(QMR E S g0)] 0))),(264,.itm [.map 201] 150 E.2 (S++[(E.fst.getD (nxI g0) noE).born]) E.2)]) (jnJ E m S' o')=(some [m=m,0=0,o.length+1=o'.length,cO=cO,201=201,0=0,E.2=E.2,S++[(E.1.getD (nxI g0) noE).3]=S',E.2=E.2,E.1=E.1,E.2=E.2,o'.length<=o.length+1,QB 4 o'.length (KH o.length (λi=>QA.enc (o.getD i (Jn.mk (0:Int) (0:Int) (0:Int) (0:Int)))) (Kt [(QMR E S g0)] 0)) λi=>QA.enc (o'.getD i (Jn.mk (0:Int) (0:Int) (0:Int) (0:Int)))]):=by kernel_rfl
theorem QZE(o o':List Jn)(g0:Nat->Value):QF 216 [vi m,AV.slz (256:Nat) (0:Nat) o.length cO,AV.ptr (264:Nat) (201:Nat) (0:Nat)] ([((201:Nat),Blk.mp E.1 E.2),((256:Nat),Blk.rowz true (67:Nat) [CK.int i64,CK.int i64,CK.int i64,CK.int i64] o.length λi=>QA.enc (o.getD i (Jn.mk (0:Int) (0:Int) (0:Int) (0:Int)))),((264:Nat),Blk.itm [AV.map (201:Nat)] (150:Nat) E.2 (S++[(E.fst.getD (nxI g0) noE).born]) E.2)]) (jnJ E m S' o')=( some [m=m,0=0,o.length=o'.length,cO=cO,(201:Nat)=(201:Nat),0=0,E.2=E.2,S++[(E.1.getD (nxI g0) noE).3]=S',E.2=E.2,E.1=E.1,E.2=E.2,o'.length<=o.length,QB (4:Nat) o'.length (λi=>QA.enc (o.getD i (Jn.mk (0:Int) (0:Int) (0:Int) (0:Int)))) λi=>QA.enc (o'.getD i (Jn.mk (0:Int) (0:Int) (0:Int) (0:Int)))]):=by kernel_rfl
theorem QdW(o o':List Jn)(g0:Nat->Value):QF 216 [vi m,AV.slz (256:Nat) (0:Nat) o.length cO,AV.ptr (264:Nat) (201:Nat) (0:Nat)] ([((201:Nat),Blk.mp E.1 E.2),((256:Nat),Blk.rowz true (67:Nat) [CK.int i64,CK.int i64,CK.int i64,CK.int i64] o.length λi=>QA.enc (o.getD i (Jn.mk (0:Int) (0:Int) (0:Int) (0:Int)))),((264:Nat),Blk.itm [AV.map (201:Nat)] (150:Nat) E.2 (S++[(E.fst.getD (nxI g0) noE).born]) E.2)]) (jnJ E m S' o')=( some [m=m,0=0,o.length=o'.length,cO=cO,(201:Nat)=(201:Nat),0=0,E.2=E.2,S++[(E.1.getD (nxI g0) noE).3]=S',E.2=E.2,E.1=E.1,E.2=E.2,o'.length<=o.length,QB (4:Nat) o'.length (λi=>QA.enc (o.getD i (Jn.mk (0:Int) (0:Int) (0:Int) (0:Int)))) λi=>QA.enc (o'.getD i (Jn.mk (0:Int) (0:Int) (0:Int) (0:Int)))]):=by kernel_rfl
theorem QVX(g:Nat->Value):exec (mkF prog Yq) (hnd (mkF prog Yq) 1) (QJ f89 0) (JSt.inst (G7 E m S) g) (KD [201] QG2) = .ask (QBL E.1 E.2 E.2) (.both (.asm (ZN E.1 S) (.leaf (.tup [.ptr 0 0 0,.ptr 48 0 0,.nils]) ([(201,.mp E.1 E.2)]))) (.all (λ(g0:Nat->Value)=>.asm (GX E.1 S (nxI g0)) (.need (decide (E.2=E.2)&&YJ E.1 (S ++ [(E.1.getD (nxI g0) noE).3])&&wf4 i64 E.1) (.br (decide (intV (QK E.1 (S++[(E.1.getD (nxI g0) noE).3])).2≥m)) (.br (decide (QS (QK E.1 (S++[(E.1.getD (nxI g0) noE).3])) 0<QS (QK E.1 (S++[(E.1.getD (nxI g0) noE).3])) 2)) (.leaf (.tup [.nilp,.ptr 48 0 0,vi m,.slice true 552 0 1 cO,.ptr 264 201 0]) ([(201, .mp E.1 E.2),(552,.rowl 67 4 [[vi (QS (QK E.1 (S++[(E.1.getD (nxI g0) noE).3])) 0),vi (QS (QK E.1 (S++[(E.1.getD (nxI g0) noE).3])) 1),vi (QS (QK E.1 (S++[(E.1.getD (nxI g0) noE).3])) 2),vi (QS (QK E.1 (S++[(E.1.getD (nxI g0) noE).3])) 3)]]),(264,.itm [.map 201] 150 E.2 (S ++ [(E.fst.getD (nxI g0) noE).born]) E.2)])) (.leaf (.tup [.nilp,.ptr 48 0 0,vi m,.nils,.ptr 264 201 0]) ([(201,.mp E.1 E.2),(264,.itm [.map 201] 150 E.2 (S ++ [(E.fst.getD (nxI g0) noE).born]) E.2)]))) (.leaf (.tup [.nilp,.ptr 48 0 0,vi m,.nils,.ptr 264 201 0]) ([(201,.mp E.1 E.2),(264,.itm [.map 201] 150 E.2 (S ++ [(E.fst.getD (nxI g0) noE).born]) E.2)]))))))):=by kernel_rfl
theorem Qfv:QF 216 [AV.nils] ([((201:Nat),Blk.mp E.1 E.2)]) (QC0 E)=( some [E.1=E.1,E.2=E.2]):=by kernel_rfl
abbrev wbk(E:ECt)(S:List Nat)(g0:Nat->Value):List AV:=[vi (QS (QK E.1 (S++[(E.1.getD (nxI g0) noE).3])) (0:Nat)),vi (QS (QK E.1 (S++[(E.1.getD (nxI g0) noE).3])) (1:Nat)),vi (QS (QK E.1 (S++[(E.1.getD (nxI g0) noE).3])) (2:Nat)),vi (QS (QK E.1 (S++[(E.1.getD (nxI g0) noE).3])) (3:Nat))]
theorem QfP(o':List Jn)(g0:Nat->Value):QF 216 [vi m,AV.slice true (552:Nat) (0:Nat) (1:Nat) cO,AV.ptr (264:Nat) (201:Nat) (0:Nat)] ([((201:Nat),Blk.mp E.1 E.2),((552:Nat),Blk.rowl (67:Nat) (4:Nat) [[vi (QS (QK E.1 (S++[(E.1.getD (nxI g0) noE).3])) (0:Nat)),vi (QS (QK E.1 (S++[(E.1.getD (nxI g0) noE).3])) (1:Nat)),vi (QS (QK E.1 (S++[(E.1.getD (nxI g0) noE).3])) (2:Nat)),vi (QS (QK E.1 (S++[(E.1.getD (nxI g0) noE).3])) (3:Nat))]]),((264:Nat),Blk.itm [AV.map (201:Nat)] (150:Nat) E.2 (S++[(E.fst.getD (nxI g0) noE).born]) E.2)]) (jnJ E m S' o')=( some [m=m,0=0,(1:Nat)=o'.length,cO=cO,(201:Nat)=(201:Nat),0=0,E.2=E.2,S++[(E.1.getD (nxI g0) noE).3]=S',E.2=E.2,E.1=E.1,E.2=E.2,jw [CK.int i64,CK.int i64,CK.int i64,CK.int i64] [[vi (QS (QK E.1 (S ++ [(E.1.getD (nxI g0) noE).3])) (0:Nat)),vi (QS (QK E.1 (S++[(E.1.getD (nxI g0) noE).3])) (1:Nat)),vi (QS (QK E.1 (S ++ [(E.1.getD (nxI g0) noE).3])) (2:Nat)),vi (QS (QK E.1 (S++[(E.1.getD (nxI g0) noE).3])) (3:Nat))]] o'.length λi=>QA.enc (o'.getD i (Jn.mk (0:Int) (0:Int) (0:Int) (0:Int)))]):=by kernel_rfl
theorem QdR:QF 216 [vi m,AV.nils,AV.ptr (264:Nat) (201:Nat) (0:Nat)] ([((201:Nat),Blk.mp E.1 E.2),((264:Nat),Blk.itm [AV.map (201:Nat)] (150:Nat) E.2 (S++[(E.fst.getD (nxI g0) noE).born]) E.2)]) (G7 E m S')=( some [m=m,(201:Nat)=(201:Nat),0=0,E.2=E.2,S++[(E.1.getD (nxI g0) noE).3]=S',E.2=E.2,E.1=E.1,E.2=E.2]):=by kernel_rfl
theorem QcH:QF 216 [vi m,AV.nils,AV.ptr (264:Nat) (201:Nat) (0:Nat)] ([((201:Nat),Blk.mp E.1 E.2),((264:Nat),Blk.itm [AV.map (201:Nat)] (150:Nat) E.2 (S++[(E.fst.getD (nxI g0) noE).born]) E.2)]) (G7 E m S')=( some [m=m,(201:Nat)=(201:Nat),0=0,E.2=E.2,S++[(E.1.getD (nxI g0) noE).3]=S',E.2=E.2,E.1=E.1,E.2=E.2]):=by kernel_rfl
end Go.Proofs.YtekbmehgcofnkaaGreat
namespace Go.SX
open Go Go.RowKit Go.Proofs.YtekbmehgcofnkaaGreat Told
structure OkM (es:List MapEntry) (cl:Nat):Prop where
 born:(es.map (·.born)).Nodup
 low:∀ e∈es,e.born<cl
 keys:(es.map Kp).Nodup
theorem QIq{k:List Int}:∀{es:List MapEntry} {i:Nat},K1 k es i=none->∀ e∈es,Kp e≠k
 | [],_,_,e,h=>by cases h
 | x::es,i,h,e,he=>by
  simp only[K1]at h;cases hx:Kp x==k with
  | true=>rw[hx]at h;cases h
  | false=>
   rw[hx]at h;rcases List.mem_cons.1 he with rfl|he
   .simpa using hx
   .exact QIq h e he
theorem QN7(kv v:Value):∀(es:List MapEntry) (i:Nat),(VM kv v es i).map (·.born)=es.map (·.born)
 | [],i=>by cases i<;>rfl
 | e::es,0=>rfl
 | e::es,i+1=>by simp only[VM,List.map_cons,QN7 kv v es i]
theorem QMA{k:List Int}{kv v:Value}(hk:∀ e:MapEntry,e.key=kv->Kp e=k):∀{es:List MapEntry} {i j:Nat} {u:Value},K1 k es i=some (j,u)->(VM kv v es (j-i)).map Kp=es.map Kp
 | [],_,_,_,h=>by cases h
 | e::es,i,j,u,h=>by
  simp only[K1]at h;cases hx:Kp e==k with
  | true=>
   rw[hx]at h;simp only[qsI,qpI]at h;obtain⟨rfl,rfl⟩:=h;rw[Nat.sub_self];simp only[VM,List.map_cons];rw[hk _ rfl,beq_iff_eq.1 hx]
  | false=>
   rw[hx]at h;have h1:=(QBc h).1;have:=QMA hk h (v:=v);rw[show j-i=(j-(i+1))+1 by omega]
   simp only[VM,List.map_cons,this]
variable {es:List MapEntry}{e:MapEntry}
theorem Qdm{k:List Int}{kv v:Value}(hk:∀ e:MapEntry,e.key=kv->Kp e=k){cl:Nat}(h:OkM es cl):OkM (JL k kv v cl es) (clL k cl es):=by
 unfold JL clL;cases hf:K1 k es 0 with
 | some q=>
  obtain⟨i,u⟩:=q;have hb:=QN7 kv v es i;refine⟨by rw[hb];exact h.born,λe he=>?_,?_⟩
  .have:e.born∈(VM kv v es i).map (·.born):=List.mem_map_of_mem he;rw[hb]at this;obtain⟨e',he',hbe⟩:=List.mem_map.1 this;rw[<-hbe];exact h.low e' he'
  .have:=QMA hk hf (v:=v);rw[Nat.sub_zero]at this;show((VM kv v es i).map Kp).Nodup;rw[this];exact h.keys
 | none=>
  refine⟨?_,λe he=>?_,?_⟩
  .show((es++[({ key:=kv,val:=v,born:=cl }:MapEntry)]).map (·.born)).Nodup;rw[List.map_append,List.nodup_append];refine⟨h.born,by simp,λa ha b hb=>?_⟩
   obtain⟨e,he,rfl⟩:=List.mem_map.1 ha;have:b=cl:=by simpa using hb
   have:=h.low e he;omega
  .rcases List.mem_append.1 he with he|he
   .exact Nat.lt_succ_of_lt (h.low e he)
   .rw[List.mem_singleton.1 he];exact Nat.lt_succ_self _
  .show((es++[({ key:=kv,val:=v,born:=cl }:MapEntry)]).map Kp).Nodup;rw[List.map_append,List.nodup_append];refine⟨h.keys,by simp,λa ha b hb=>?_⟩
   obtain⟨e,he,rfl⟩:=List.mem_map.1 ha
   have hb:b=k:=by
    have:b=Kp { key:=kv,val:=v,born:=cl }:=by simpa using hb
    rw[this];exact hk _ rfl
   rw[hb];exact QIq hf e he
theorem vN:∀{es:List MapEntry} {e:MapEntry},(es.map (·.born)).Nodup->e∈es->es.find? (·.born==e.born)=some e
 | [],_,_,h=>by cases h
 | x::es,e,hn,h=>by
  rw[List.map_cons,List.nodup_cons]at hn;rw[List.find?_cons];rcases List.mem_cons.1 h with rfl|h
  .simp
  .have:(x.born==e.born)=false:=by
    rw[beq_eq_false_iff_ne];intro q;exact hn.1 (q ▸ List.mem_map_of_mem h)
   rw[this];exact vN hn.2 h
theorem QKy{j:Nat}(h:j<es.length):es.getD j noE∈es:=by
 rw[K8 h];exact List.getElem_mem h
structure Xi (es:List MapEntry) (S:List Nat):Prop where
 nd:S.Nodup
 sub:∀ b∈S,b∈es.map (·.born)
theorem QE8{S:List Nat}(h:Xi es S):S.length<=es.length:=by
 have:=h.nd.length_le_of_subset h.sub;simpa using this
theorem QKC{S:List Nat}(h:Xi es S)(he:e∈es)(hn:e.born ∉ S):Xi es (S++[e.born]):=by
 refine⟨?_,λb hb=>?_⟩
 .rw[List.nodup_append];refine⟨h.nd,by simp,λa ha b hb=>?_⟩
  have:b=e.born:=by simpa using hb
  subst this;intro q;subst q;exact hn ha
 .rcases List.mem_append.1 hb with hb|hb
  .exact h.sub b hb
  .rw[List.mem_singleton.1 hb];exact List.mem_map_of_mem he
theorem QL2(hb:(es.map (·.born)).Nodup)(S:List Nat)(he:e∈es):QK es (S++[e.born])=e/\YJ es (S++[e.born])=true:=by
 have hl:(S++[e.born]).getLast? = some e.born:=by simp
 unfold QK YJ;rw[hl];simp only;rw[vN hb he];refine⟨rfl,?_⟩;rw[List.any_eq_true];exact⟨e,he,by simp⟩
theorem Qd4{S:List Nat}(hb:(es.map (·.born)).Nodup)(h:Xi es S)(ha:ZN es S):S.Perm (es.map (·.born)):=by
 rw[List.perm_ext_iff_of_nodup h.nd hb];intro a;refine⟨h.sub a,λq=>?_⟩;obtain⟨e,he,rfl⟩:=List.mem_map.1 q;exact ha e he
end Go.SX
namespace Go.Proofs.YtekbmehgcofnkaaGreat
open Go.SX Go.SX.Told
variable {e:MapEntry}(d:Puz)(E:ECt)(m:Int)(o:List Jn)(S:List Nat)
theorem QX2{E:ECt}(hb:(E.1.map (·.born)).Nodup)(m:Int)(S:List Nat)(he:e∈E.1):Qv E m (S++[e.born])=Qv E m S++VY m e:=by
 unfold Qv;rw[List.flatMap_append];congr 1;show Zv E m e.born++[]=_;rw[List.append_nil];unfold Zv;rw[vN hb he]
theorem QLx(e:MapEntry):(VY m e).length<=1:=by
 unfold VY;cases decide (m<=intV e.val)&&decide (QS e 0<QS e 2)<;>simp
theorem QIK(E:ECt)(m:Int):∀ S:List Nat,(Qv E m S).length<=S.length
 | []=>qlr _
 | b::S=>by
  have h:=QIK E m S
  have h1:(Zv E m b).length<=1:=by
   unfold Zv;split
   .exact QLx _ _
   .exact Nat.zero_le _
  show(Zv E m b++Qv E m S).length<=_;rw[List.length_append,List.length_cons];omega
theorem Qaj(x:Jn):QB 4 (o.length+1) (KH o.length (λi=>QA.enc (o.getD i ⟨0,0,0,0⟩)) (Kt [[.int false .i64 x.a,.int false .i64 x.i,.int false .i64 x.b,.int false .i64 x.j]] 0)) λi=>QA.enc ((o++[x]).getD i ⟨0,0,0,0⟩):=by
 intro i hi
 by_cases h:i<o.length
 .have e:(o++[x]).getD i ⟨0,0,0,0⟩=o.getD i ⟨0,0,0,0⟩:=by
   rw[List.getD_eq_getElem?_getD,List.getD_eq_getElem?_getD,List.getElem?_append_left h]
  show eqF 4 0 _ (QA.enc ((o++[x]).getD _ ⟨0,0,0,0⟩));rw[e];refine⟨?_,?_,?_,?_,trivial⟩<;>(rw[Xw,if_pos h])
 .have hi:i=o.length:=by omega
  subst hi
  have e:(o++[x]).getD o.length ⟨0,0,0,0⟩=x:=by
   rw[List.getD_eq_getElem?_getD,List.getElem?_append_right (qlr _)];simp
  show eqF 4 0 _ (QA.enc ((o++[x]).getD _ ⟨0,0,0,0⟩));rw[e];refine⟨?_,?_,?_,?_,trivial⟩<;>(rw[Xw,if_neg h,Nat.sub_self];rfl)
def jnI:JSt:=cond (Qv E m S).isEmpty (G7 E m S) (jnJ E m S (Qv E m S))
def jnD:JSt:=cond o.isEmpty (QC0 E) (jnE E o)
def jnR(_:List Nat)(e:Ex)(J:JSt):Prop:=e = .exit 0/\∃ T,Xi E.1 T/\ZN E.1 T/\J=jnD E (Qv E m T)
theorem QBp{E:ECt}{m:Int}{S:List Nat}(h:(Qv E m S).isEmpty=false):jnI E m S=jnJ E m S (Qv E m S):=by unfold jnI;rw[h];rfl
theorem QJc{E:ECt}{m:Int}{S:List Nat}(h:(Qv E m S).isEmpty=true):jnI E m S=G7 E m S:=by unfold jnI;rw[h];rfl
set_option maxHeartbeats 1000000 in
theorem Qhb(hw:WfE E)(hE:OkM E.1 E.2)(hl:E.1.length<=1000000000):J1 (jnI E m) (Xi E.1) (λS=>E.1.length-S.length) (jnR E m) 216 QG2 [201] (mkF prog Yq) (λ_=>hnd (mkF prog Yq) 1) (QJ f89 0):=by
 refine⟨λS g hS=>?_⟩;have hS:Xi E.1 S:=hS;have hw:wf4 .i64 E.1=true:=hw;have hS1:=QE8 hS;have hS2:=QIK E m S
 have fact:∀ g0:Nat->Value,GX E.1 S (nxI g0)->∃ e,e=E.1.getD (nxI g0) noE/\e∈E.1/\QK E.1 (S++[e.born])=e/\YJ E.1 (S++[e.born])=true/\Xi E.1 (S++[e.born])/\S.length+1<=E.1.length/\Qv E m (S++[e.born])=Qv E m S++VY m e/\E.1.length-(S++[e.born]).length<E.1.length-S.length:=by
  rintro g0 ⟨hj,hn⟩;have hm:=QKy hj;obtain⟨hc,hh⟩:=QL2 hE.born S hm;have hS':=QKC hS hm hn;have hlen:=QE8 hS';rw[List.length_append,List.length_singleton]at hlen;exact⟨_,rfl,hm,hc,hh,hS',hlen,QX2 hE.born m S hm,by rw[List.length_append,List.length_singleton];omega⟩
 have yes:∀ e:MapEntry,decide (intV e.2≥m)=true->decide (QS e 0<QS e 2)=true->VY m e=[jO e]:=λe h1 h2=>by
  unfold VY;rw[show decide (m<=intV e.val)=true from h1,h2];rfl
 have no1:∀ e:MapEntry,decide (intV e.2≥m)=false->VY m e=[]:=λe h1=>by
  unfold VY;rw[show decide (m<=intV e.val)=false from h1];rfl
 have no2:∀ e:MapEntry,decide (QS e 0<QS e 2)=false->VY m e=[]:=λe h2=>by
  unfold VY;rw[h2,Bool.and_false];rfl
 cases hem:(Qv E m S).isEmpty with
 | true=>
  rw[QJc hem];have hnil:Qv E m S=[]:=List.isEmpty_iff.1 hem;refine Qe (QVX E m S g) ?_;refine Q2 ⟨hE.low,qlr _⟩ (Km (Qh λha=>?_) (Qj λg0=>Qh λho=>?_))
  .refine⟨_,⟨rfl,S,hS,ha,rfl⟩,?_⟩;rw[show jnD E (Qv E m S)=QC0 E by unfold jnD;rw[hem];rfl]
   refine⟨rfl,rfl,_,Qfv E,?_⟩
   repeat' first|with_reducible refine QN ?_ ?_|exact tv|exact Nat.le_refl _|refine aI ?_ ?_
  .obtain⟨e,he,hm,hc,hh,hS',hlen,hJ,hmu⟩:=fact g0 ho;subst he;rw[hnil,List.nil_append]at hJ;have hc':QK E.1 (S++[(E.1.getD (nxI g0) noE).3])=E.1.getD (nxI g0) noE:=hc;refine QG (by rw[show YJ E.1 (S++[(E.1.getD (nxI g0) noE).3])=true from hh,hw];simp) ?_
   refine QE (λh1=>QE (λh2=>?_) (λh2=>?_)) (λh1=>?_)
   .rw[yes _ (hc' ▸ h1) (hc' ▸ h2)]at hJ;refine⟨S++[(E.1.getD (nxI g0) noE).born],hS',hmu,λ_ _ r=>r,?_⟩;rw[QBp (by rw[hJ];rfl),hJ]
    refine⟨rfl,rfl,_,QfP E m S _ _ g0,?_⟩
    repeat' first|with_reducible refine QN ?_ ?_|exact tv|exact Nat.le_refl _|exact rfl|(intro i hi x hx r;obtain rfl:i=0:=(by simpa using hi);simp only[List.getElem?_cons_zero,qsI]at hx;subst hx;rw[hc'];rfl)|refine aI ?_ ?_
   .rw[no2 _ (hc' ▸ h2)]at hJ;refine⟨S++[(E.1.getD (nxI g0) noE).born],hS',hmu,λ_ _ r=>r,?_⟩;rw[QJc (by rw[hJ];rfl)]
    refine⟨rfl,rfl,_,QdR E m S _ g0,?_⟩
    repeat' first|with_reducible refine QN ?_ ?_|exact tv|exact Nat.le_refl _|refine aI ?_ ?_
   .rw[no1 _ (hc' ▸ h1)]at hJ;refine⟨S++[(E.1.getD (nxI g0) noE).born],hS',hmu,λ_ _ r=>r,?_⟩;rw[QJc (by rw[hJ];rfl)]
    refine⟨rfl,rfl,_,QcH E m S _ g0,?_⟩
    repeat' first|with_reducible refine QN ?_ ?_|exact tv|exact Nat.le_refl _|refine aI ?_ ?_
 | false=>
  rw[QBp hem];refine Qe (QUX E m S (Qv E m S) g) ?_;refine Q2 ⟨hE.low,qlr _⟩ (Km (Qh λha=>?_) (Qj λg0=>Qh λho=>?_))
  .refine⟨_,⟨rfl,S,hS,ha,rfl⟩,?_⟩;rw[show jnD E (Qv E m S)=jnE E (Qv E m S) by unfold jnD;rw[hem];rfl]
   refine⟨rfl,rfl,_,QWO E (Qv E m S) (Qv E m S),?_⟩
   repeat' first|with_reducible refine QN ?_ ?_|exact tv|exact Nat.le_refl _|exact qRr|refine aI ?_ ?_
  .obtain⟨e,he,hm,hc,hh,hS',hlen,hJ,hmu⟩:=fact g0 ho;subst he;have hc':QK E.1 (S++[(E.1.getD (nxI g0) noE).3])=E.1.getD (nxI g0) noE:=hc
   have hne:(Qv E m (S++[(E.1.getD (nxI g0) noE).born])).isEmpty=false:=by
    rw[hJ];cases h:Qv E m S with
    | nil=>rw[h]at hem;cases hem
    | cons a l=>rfl
   refine QG (by rw[show YJ E.1 (S++[(E.1.getD (nxI g0) noE).3])=true from hh,hw];simp) ?_
   refine QE (λh1=>QE (λh2=>QG (by simp;omega) ?_) (λh2=>?_)) (λh1=>?_)
   .rw[yes _ (hc' ▸ h1) (hc' ▸ h2)]at hJ;have hl1:(Qv E m S).length+1=(Qv E m (S++[(E.1.getD (nxI g0) noE).born])).length:=by rw[hJ];simp
    have hr:=Qaj (Qv E m S) (jO (QK E.1 (S++[(E.1.getD (nxI g0) noE).3])));rw[show Qv E m S++[jO (QK E.1 (S++[(E.1.getD (nxI g0) noE).3]))]=Qv E m (S++[(E.1.getD (nxI g0) noE).born]) by rw[hc',hJ],hl1]at hr
    refine⟨S++[(E.1.getD (nxI g0) noE).born],hS',hmu,λ_ _ r=>r,?_⟩;rw[QBp hne];refine⟨rfl,rfl,_,QhP E m S _ (Qv E m S) _ g0,?_⟩
    repeat' first|with_reducible refine QN ?_ ?_|exact tv|exact Nat.le_refl _|exact qRr|exact hl1|exact Nat.le_of_eq hl1|exact Nat.le_of_eq hl1.symm|exact hr|refine aI ?_ ?_
   .rw[no2 _ (hc' ▸ h2),List.append_nil]at hJ;refine⟨S++[(E.1.getD (nxI g0) noE).born],hS',hmu,λ_ _ r=>r,?_⟩;rw[QBp hne,hJ];refine⟨rfl,rfl,_,QZE E m S _ (Qv E m S) _ g0,?_⟩
    repeat' first|with_reducible refine QN ?_ ?_|exact tv|exact Nat.le_refl _|exact qRr|refine aI ?_ ?_
   .rw[no1 _ (hc' ▸ h1),List.append_nil]at hJ;refine⟨S++[(E.1.getD (nxI g0) noE).born],hS',hmu,λ_ _ r=>r,?_⟩;rw[QBp hne,hJ];refine⟨rfl,rfl,_,QdW E m S _ (Qv E m S) _ g0,?_⟩
    repeat' first|with_reducible refine QN ?_ ?_|exact tv|exact Nat.le_refl _|exact qRr|refine aI ?_ ?_
def QBi:Prop:=Xi E.1 S/\ZN E.1 S
abbrev joH(P:Program)(E:ECt)(m:Int):Hnd:={ hnd (mkF P Yq) 3 with loop:=λ_=>QGp 216 [201] (G7 E m []) λg=>[(QBi E (natsG g)/\Qv E m (natsG g)=[],.exit 0,QC0 E),(QBi E (natsG g)/\0<(Qv E m (natsG g)).length,.exit 0,jnE E (Qv E m (natsG g)))] }
def joU(n:Nat)(E:ECt)(m:Int)(v:List Jn):UC:=⟨208,⟨2,[(0,.ptr 200 0 0),(1,.int false .i64 m)],brR d n++[(201,.mp E.1 E.2)],216⟩,λk=>.slz k 0 v.length (.of 0),λk=>[(201,.mp E.1 E.2),rwJ true k v]⟩
theorem Qcb(n:Nat)(E:ECt)(m:Int)(v:List Jn):VZ (mkF prog Yq) (joH prog E m) f89 (joU d n E m v) = .ak [m=m,201=201,0=0,E.2=E.2,([]:List Nat)=[],E.2=E.2,E.1=E.1,E.2=E.2] (.all (λ(g0:Nat->Value)=>.both (.asm (QBi E (natsG g0)/\Qv E m (natsG g0)=[]) (.all (λ(g1:Nat->Value)=>.need (true) (.leaf (.nils) ([(201,.mp E.1 E.2)]))))) (.asm (QBi E (natsG g0)/\0<(Qv E m (natsG g0)).length) (.all (λ(g2:Nat->Value)=>.need (decide (0<(Qv E m (natsG g0)).length/\(Qv E m (natsG g0)).length<=(Qv E m (natsG g0)).length)) (.need (true&&(decide ((Qv E m (natsG g0)).length<=(Qv E m (natsG g0)).length)&&decide ((0+(Qv E m (natsG g0)).length+(0+(Qv E m (natsG g0)).length) / 4+192)*32<=281474976710656/\0+(Qv E m (natsG g0)).length<=9223372036854775807))) (.need (decide (0+(Qv E m (natsG g0)).length=0+(Qv E m (natsG g0)).length)&&decide (0+(Qv E m (natsG g0)).length<4611686018427387904)) (.leaf (.slz 336 0 (0+(Qv E m (natsG g0)).length) cO) ([(201,.mp E.1 E.2),(336,.rowz true 67 (waG) (0+(Qv E m (natsG g0)).length) (ZQ (0+(Qv E m (natsG g0)).length) (KH 0 (λx x_1=>(0:Int)) λi=>QA.enc ((Qv E m (natsG g0)).getD i (Jn.mk (0:Int) (0:Int) (0:Int) (0:Int))))))]))))))))):=by kernel_rfl
theorem QYT(n:Nat)(E:ECt)(m:Int)(v:List Jn):QF 216 [(AV.nils)] ([((201:Nat),Blk.mp E.1 E.2)]) (KX (joU d n E m v))=( some [v.length=(0:Nat),E.1=E.1,E.2=E.2,v.length=(0:Nat)]):=by kernel_rfl
theorem QWH(n:Nat)(E:ECt)(m:Int)(v:List Jn)(g0:Nat->Value):QF 216 [(AV.slz (336:Nat) (0:Nat) ((0:Nat)+(Qv E m (natsG g0)).length) cO)] ([((201:Nat),Blk.mp E.1 E.2),((336:Nat),Blk.rowz true (67:Nat) [CK.int i64,CK.int i64,CK.int i64,CK.int i64] ((0:Nat)+(Qv E m (natsG g0)).length) (ZQ ((0:Nat)+(Qv E m (natsG g0)).length) (KH (0:Nat) (λx x_1=>(0:Int)) λi=>QA.enc ((Qv E m (natsG g0)).getD i (Jn.mk (0:Int) (0:Int) (0:Int) (0:Int))))))]) (KX (joU d n E m v))=( some [0=0,(0:Nat)+(Qv E m (natsG g0)).length=v.length,cO=cO,E.1=E.1,E.2=E.2,v.length<=(0:Nat)+(Qv E m (natsG g0)).length,QB (4:Nat) v.length (ZQ ((0:Nat)+(Qv E m (natsG g0)).length) (KH (0:Nat) (λx x_1=>(0:Int)) λi=>QA.enc ((Qv E m (natsG g0)).getD i (Jn.mk (0:Int) (0:Int) (0:Int) (0:Int))))) λi=>QA.enc (v.getD i (Jn.mk (0:Int) (0:Int) (0:Int) (0:Int)))]):=by kernel_rfl
open Go.SX Go.SX.Told Go.Sort
variable {l:List Jn}{c i:Nat}(d:Puz)(E:ECt)(m:Int)(o:List Jn)
def Ks:List Jn:=E.1.flatMap (VY m)
theorem QUN{E:ECt}(hb:(E.1.map (·.born)).Nodup)(m:Int){S:List Nat}(h:QBi E S):(Qv E m S).Perm (Ks E m):=by
 have h1:=(Qd4 hb h.1 h.2).flatMap_right (Zv E m);refine h1.trans (List.Perm.of_eq ?_);unfold Ks;rw[List.flatMap_map]
 have:∀ l:List MapEntry,(∀ e∈l,e∈E.1)->l.flatMap (λe=>Zv E m e.born)=l.flatMap (VY m):=by
  intro l
  induction l with
  | nil=>intro _;rfl
  | cons e l ih=>
   intro hl;rw[List.flatMap_cons,List.flatMap_cons,ih λx hx=>hl x (List.mem_cons_of_mem _ hx)];congr 1;unfold Zv;rw[vN hb (hl e qmc)]
 exact this _ λ_ h=>h
def leJ(x y:Jn):Bool := !(ltOf Vm) y x
theorem QRT(a b c:Jn)(h1:leJ a b=true)(h2:leJ b c=true):leJ a c=true:=by
 unfold leJ at *;rw[Bool.not_eq_true']at *;exact QBm.ntrans c b a h2 h1
theorem QTM(a b:Jn):(leJ a b||leJ b a)=true:=by
 unfold leJ;cases h:ltOf Vm b a with
 | false=>rfl
 | true=>
  cases h2:ltOf Vm a b with
  | false=>rfl
  | true=>
   have:=QBm.trans _ _ _ h h2;rw[QBm.irrefl]at this;cases this
theorem QNW{l':List Jn}(h:l.Perm l'):KZ l=KZ l':=by
 unfold KZ;refine List.Perm.eq_of_pairwise (le:=λa b=>leJ a b=true) ?_ (List.pairwise_mergeSort (le:=leJ) QRT QTM l) (List.pairwise_mergeSort (le:=leJ) QRT QTM l') (((List.mergeSort_perm l _).trans h).trans (List.mergeSort_perm l' _).symm);intro a b _ _ h1 h2;unfold leJ at h1 h2;rw[Bool.not_eq_true']at h1 h2;exact QMP a b h2 h1
theorem QVU:(List.range (0+o.length)).map (YD (KH 0 (λ_ _=>0) λi=>QA.enc (o.getD i ⟨0,0,0,0⟩)))=o:=by
 apply List.ext_getElem
 .simp
 .intro i h1 h2;rw[List.getElem_map,List.getElem_range]
  have e:∀ j,KH 0 (λ_ _=>0) (λi=>QA.enc (o.getD i ⟨0,0,0,0⟩)) i j=QA.enc (o.getD i (⟨0,0,0,0⟩:Jn)) j:=λj=>by
   rw[Xw,if_neg (by omega),Nat.sub_zero]
  unfold YD;rw[e,e,e,e,K8 h2];rfl
theorem Kj(N M k nid:Nat)(h:N<=M):Jg N M nid (M+k)=nid+k:=by
 have:Nat.blt (M+k) N=false:=QOo (by omega)
 simp only[Jg,this];omega
theorem QZO(hw:WfE E)(hE:OkM E.1 E.2)(hl:E.1.length<=1000000000)(G:Ctx)(hrd:G.rd=none)(hG:G.n<=216):Q1 (mkF prog Yq) G (joH prog E m) (Qk f89):=by
 refine Kk (body:=QJ f89 0) (Kl QFN) hrd (by kernel_rfl) ?_
 refine QZ0 (I:=jnI E m) (n0:=216) (Kl QFN) hG (λS _=>Qw (Kl QFN) 1 G _ hrd) (λS _=>?_) ?_ (Qhb E m hw hE hl) (s0:=[]) ⟨List.nodup_nil,λb h=>(by cases h)⟩ ?_
 .unfold jnI;cases (Qv E m S).isEmpty<;>exact(by decide:216<=272)
 .rintro s e J ⟨_,T,_,_,rfl⟩;unfold jnD;cases (Qv E m T).isEmpty<;>exact(by decide:216<=272)
 .rintro e J ⟨rfl,T,h1,h2,rfl⟩;obtain⟨g,hg⟩:=QYL T;refine⟨g,?_⟩;unfold jnD;rw[hg];cases h:(Qv E m T).isEmpty with
  | true=>exact⟨_,qmc,⟨⟨h1,h2⟩,List.isEmpty_iff.1 h⟩,rfl,rfl⟩
  | false=>
   refine⟨_,List.mem_cons_of_mem _ qmc,⟨⟨h1,h2⟩,?_⟩,rfl,rfl⟩;cases hh:Qv E m T with
   | nil=>rw[hh]at h;cases h
   | cons a l=>exact Nat.succ_pos _
theorem QfH(n:Nat)(E:ECt)(m:Int)(v:List Jn):(joU d n E m v).Ok:=by
 refine⟨(by decide:208<=216),rfl,rfl,?_,rfl,λnid h=>?_,λnid h=>?_⟩
 .intro q hq;simp only[UC.po,joU,rwJ,List.mem_cons,List.not_mem_nil,or_false]at hq;rcases hq with rfl|rfl
  .exact⟨rfl,rfl,rfl,λ_=>rfl⟩
  .exact⟨rfl,rfl,rfl,λh=>absurd (show 216<208 from h) (by decide)⟩
 .have e0:=Kj 208 216 0 nid (by decide)
  simp only[UC.va,joU,AV.mapId,Nat.add_zero]at e0 ⊢;rw[e0]
 .have e0:=Kj 208 216 0 nid (by decide)
  simp only[UC.po,joU,rwJ,List.map_cons,List.map_nil,Blk.mapId,Nat.add_zero]at e0 ⊢;rw[e0];rfl
theorem QI2(n:Nat)(E:ECt)(m:Int)(hw:WfE E)(hE:OkM E.1 E.2)(hl:E.1.length<=1000000000):QQ prog 89 (uFC (joU d n E m (KZ (Ks E m)))):=by
 refine K4 (E:=mkF prog Yq) (Kl QFN) func89 (by kernel_rfl) (by kernel_rfl) (QfH ..) (λG h1 h2=>QZO E m hw hE hl G h1 (by rw[h2];exact qlr _)) ⟨?_⟩
 refine Qe (Qcb d n E m (KZ (Ks E m))) ?_
 repeat' first|refine Q2 (p:=_=_) rfl ?_
 refine Qj λg0=>Km (Qh λha=>Qj λ_=>QG rfl ?_) (Qh λha=>Qj λ_=>?_)
 .have hp:=QUN hE.born m ha.1;rw[ha.2]at hp;have hnil:=List.Perm.eq_nil hp.symm;refine⟨rfl,rfl,_,QYT d n E m (KZ (Ks E m)),?_⟩;rw[hnil]
  repeat' first|exact QA6 _|exact(QA6 _).symm|exact tv|exact rfl|refine aI ?_ ?_
 .have hp:=QUN hE.born m ha.1;have hs:=QNW hp;have h1:=QE8 ha.1.1;have h2:=QIK E m (natsG g0);have hlen:0+(Qv E m (natsG g0)).length=(KZ (Ks E m)).length:=by rw[<-hs,QA6,Nat.zero_add]
  have hr:∀ k,QB 4 k (ZQ (0+(Qv E m (natsG g0)).length) (KH 0 (λ_ _=>0) λi=>QA.enc ((Qv E m (natsG g0)).getD i ⟨0,0,0,0⟩))) λi=>QA.enc ((KZ (Ks E m)).getD i ⟨0,0,0,0⟩):=by
   intro k i _;show eqF 4 0 (QA.enc ((KZ _).getD i (⟨0,0,0,0⟩:Jn))) _;rw[QVU,hs];exact⟨rfl,rfl,rfl,rfl,trivial⟩
  have hpos:=ha.2;refine QG (by simp;omega) (QG (by simp;omega) (QG (by simp;omega) ?_))
  refine⟨rfl,rfl,_,QWH d n E m (KZ (Ks E m)) g0,?_⟩
  repeat' first|exact tv|exact hlen|exact Nat.le_of_eq hlen|exact Nat.le_of_eq hlen.symm|exact hr _|exact rfl|refine aI ?_ ?_
def QIU(k:Int)(A B:FC):FC:=λargs nid all=>match args with
 | [_,.int _ _ m]=>(match decide (m=k)with
  | true=>A args nid all
  | false=>B args nid all)
 | _=>([],λ_=>none)
theorem Qez{P:Program}{f:FuncId}{k:Int}{A B:FC}(hA:QQ P f A)(hB:QQ P f B):QQ P f (QIU k A B):=by
 refine⟨hA.1,λargs nid all r w lk blks eff hH ha hv he hp=>?_⟩;unfold QIU at hv he;split at he<;>(try (cases he;done))
 rename_i m;simp only at hv;cases hd:decide (m=k)with
 | true=>
  rw[hd]at hv he;exact hA.2 _ nid all r w lk blks eff hH ha hv he hp
 | false=>
  rw[hd]at hv he;exact hB.2 _ nid all r w lk blks eff hH ha hv he hp
def QAm(pb:List Prop->Bool)(d:Puz)(E:ECt)(v w:List Jn):Tab:=QZ (QZ KK 60 (KI pb (nbU d E))) 89 (QIU 2 (KI pb (joU d 0 E 2 v)) (KI pb (joU d 0 E 1 w)))
theorem QhN(pb:List Prop->Bool)(d:Puz)(E:ECt)(v w:List Jn):Kf (mkE prog (QAm pb d E v w)) (hnd (mkE prog (QAm pb d E v w)) 2) f40 (QX.vals 0 ((d,()):Puz×Unit)) (QX.blks 0 ((d,()):Puz×Unit)) 104 = .need (decide (d.ps.n<=d.ps.n)&&true&&decide (d.ps.n<=1000)) (.br (!d.ok) (.leaf (.tup [.nils,.nils,vj 1]) ([])) (.need (pb ((waa d++([cO=cO]++wad d)))) (.need (pb (([0=0,0=0,(2:Int)=2]++waa d++([cO=cO,0=0]++wad d++[E.1=E.1,E.2=E.2])))) (.need (pb (([0=0,0=0,(1:Int)=1]++waa d++([cO=cO,0=0]++wad d++[E.1=E.1,E.2=E.2])))) (.leaf (.tup [.slz 288 0 v.length cO,.slz 304 0 w.length cO,vj 0]) ([(288,.rowz true 67 (waG) v.length λi=>QA.enc (v.getD i (Jn.mk (0:Int) (0:Int) (0:Int) (0:Int)))),(304,.rowz true 67 (waG) w.length λi=>QA.enc (w.getD i (Jn.mk (0:Int) (0:Int) (0:Int) (0:Int))))])))))):=by kernel_rfl
def QCT(v w:List Jn)(e:Int):AV := .tup [.slz 0 0 v.length (.of 0),.slz 1 0 w.length (.of 0),.int false .i64 e]
def QAF(v w:List Jn):List (Nat×Blk):=[rwJ true 0 v,rwJ true 1 w]
theorem QVN(v w:List Jn)(e:Int):QF 104 [(AV.tup [AV.nils,AV.nils,vj (1:Int)])] ([]) (KW 104 (QCT v w e) (QAF v w))=( some [v.length=(0:Nat),w.length=(0:Nat),(1:Int)=e,v.length=(0:Nat),w.length=(0:Nat)]):=by kernel_rfl
theorem Qhf(v w v' w':List Jn)(e:Int):QF 104 [(AV.tup [AV.slz (288:Nat) (0:Nat) v.length cO,AV.slz (304:Nat) (0:Nat) w.length cO,vj (0:Int)])] ([((288:Nat),Blk.rowz true (67:Nat) [CK.int i64,CK.int i64,CK.int i64,CK.int i64] v.length λi=>QA.enc (v.getD i (Jn.mk (0:Int) (0:Int) (0:Int) (0:Int)))),((304:Nat),Blk.rowz true (67:Nat) [CK.int i64,CK.int i64,CK.int i64,CK.int i64] w.length λi=>QA.enc (w.getD i (Jn.mk (0:Int) (0:Int) (0:Int) (0:Int))))]) (KW 104 (QCT v' w' e) (QAF v' w'))=( some [0=0,v.length=v'.length,cO=cO,0=0,w.length=w'.length,cO=cO,(0:Int)=e,v'.length<=v.length,QB (4:Nat) v'.length (λi=>QA.enc (v.getD i (Jn.mk (0:Int) (0:Int) (0:Int) (0:Int)))) λi=>QA.enc (v'.getD i (Jn.mk (0:Int) (0:Int) (0:Int) (0:Int))),w'.length<=w.length,QB (4:Nat) w'.length (λi=>QA.enc (w.getD i (Jn.mk (0:Int) (0:Int) (0:Int) (0:Int)))) λi=>QA.enc (w'.getD i (Jn.mk (0:Int) (0:Int) (0:Int) (0:Int)))]):=by kernel_rfl
structure OkE (E:ECt) (c:Nat):Prop where
 w:WfE E
 m:OkM E.1 E.2
 l:E.1.length<=c
theorem QZc(k:List Int)(kv v:Value)(cl:Nat)(es:List MapEntry):(JL k kv v cl es).length<=es.length+1:=by
 have hs:∀(es:List MapEntry) (i:Nat),(VM kv v es i).length=es.length:=by
  intro es
  induction es with
  | nil=>intro i;cases i<;>rfl
  | cons e es ih=>intro i;cases i with
   | zero=>rfl
   | succ i=>simp only[VM,List.length_cons,ih]
 unfold JL;split
 .rw[hs];exact Nat.le_succ _
 .simp
theorem QhH{E:ECt}(h:OkE E c)(i s k t:Nat)(n:Int):OkE (QCw i s k t n E) (c+1):=
 ⟨QSs h.w ..,Qdm (λe he=>zm he) h.m,Nat.le_trans (QZc ..) (Nat.succ_le_succ h.l)⟩
theorem QBO{E:ECt}{c':Nat}(h:OkE E c)(hc:c<=c'):OkE E c':=⟨h.w,h.m,Nat.le_trans h.l hc⟩
theorem QWT{d:Puz}{p q:QT}{k s t:Nat}{E:ECt}(h:OkE E c):OkE (stE d p q i k s t E) (c+1):=by
 unfold stE;cases ((i:Int) != (k:Int))&&(meF d p q s t != 0)
 .exact QBO h (Nat.le_succ _)
 .exact QhH h ..
theorem QPi{d:Puz}{p q:QT}{i k s:Nat}{E:ECt}{c:Nat}(h:OkE E c):∀ t,OkE (m4 d p q i k s E t) (c+t)
 | 0=>h
 | t+1=>QWT (QPi h t)
theorem QOY{d:Puz}{p q:QT}{i k:Nat}{E:ECt}{c:Nat}(h:OkE E c):∀ s,OkE (m3 d p q i k E s) (c+4*s)
 | 0=>h
 | s+1=>QBO (QPi (QOY h s) 4) (by omega)
theorem QNN{d:Puz}{p:QT}{i:Nat}{E:ECt}{c:Nat}(h:OkE E c):∀ k,OkE (m2 d p i E k) (c+16*k)
 | 0=>h
 | k+1=>QBO (QOY (QNN h k) 4) (by omega)
theorem QL3(d:Puz):∀ i,OkE (m1 d i) (16*d.ps.n*i)
 | 0=>⟨rfl,⟨List.nodup_nil,λe h=>(by cases h),List.nodup_nil⟩,Nat.zero_le _⟩
 | i+1=>QBO (QNN (QL3 d i) d.ps.n) (by rw[Nat.mul_succ];exact qlr _)
def QI:ECt:=m1 d d.ps.n
theorem Z4(hn:d.ps.n<=1000):OkE (QI d) 16000000:=QBO (QL3 d d.ps.n) (by
 have:=Nat.mul_le_mul (Nat.mul_le_mul (qlr 16) hn) hn;omega)
def qT:List Jn×List Jn×Int:=cond d.ok (KZ (Ks (QI d) 2),KZ (Ks (QI d) 1),0) ([],[],1)
def WG:WF (Puz×Unit):=λ|(d,_)=>(decide (d.ps.n<=1000),QCT (qT d).1 (qT d).2.1 (qT d).2.2,QAF (qT d).1 (qT d).2.1)
def Qc0:FC:=wFC WG
theorem QdQ:WOk (WG (d,())).2.1 (WG (d,())).2.2:=⟨rfl,by simp[WG,QAF,rwJ,Blk.own,Blk.all],rfl⟩
theorem Qbi(hn:d.ps.n<=1000):Qc (QAm QO d (QI d) (KZ (Ks (QI d) 2)) (KZ (Ks (QI d) 1))):=by
 have h:=Z4 d hn;have hl:=Nat.le_trans h.l (show 16000000<=1000000000 by decide)
 exact(JO.add (Zy d (by omega))).add (Qez (QI2 d 0 (QI d) 2 h.w h.m hl) (QI2 d 0 (QI d) 1 h.w h.m hl))
theorem Qa1(hx:(WG (d,())).1=true):QQ prog 40 (wFC (VK WG (d,()))):=by
 have hn:d.ps.n<=1000:=qdt hx;have hT:=Qbi d hn;refine Yi (c:=Qk f40) (E:=mkE prog (QAm QO d (QI d) (KZ (Ks (QI d) 2)) (KZ (Ks (QI d) 1)))) (H:=hnd (mkE prog (QAm QO d (QI d) (KZ (Ks (QI d) 2)) (KZ (Ks (QI d) 1)))) 2) (QP hT) func40 (by kernel_rfl) (by kernel_rfl) (N:=104) (by decide) (d,()) (λG h1 _=>Qw (QP hT) 2 G _ h1) (QdQ d) ?_
 refine Qe (QhN QO d (QI d) (KZ (Ks (QI d) 2)) (KZ (Ks (QI d) 1))) ?_;have hv:qT d=cond d.ok (KZ (Ks (QI d) 2),KZ (Ks (QI d) 1),0) ([],[],1):=rfl;refine QG ?_ ?_;rotate_left;refine QE (λb0=>?_) (λb0=>?_);have b0:d.ok=false:=by simpa using b0
 rw[b0,cond_false]at hv;simp only[WG,hv];refine⟨rfl,rfl,_,QVN [] [] 1,?_⟩
 rotate_left
 iterate 3 (refine QG ?_ ?_;rotate_left)
 have b0:d.ok=true:=by simpa using b0
 rw[b0,cond_true]at hv;simp only[WG,hv];refine⟨rfl,rfl,_,Qhf (KZ (Ks (QI d) 2)) (KZ (Ks (QI d) 1)) (KZ (Ks (QI d) 2)) (KZ (Ks (QI d) 1)) 0,?_⟩
 rotate_left
 all_goals first|((with_reducible show _=true);(first|(refine Q9.2 ?_;repeat' first|exact tv|exact qRr|exact rfl|refine aI ?_ ?_)|(simp;omega)))|(repeat' first|with_reducible refine QN ?_ ?_|exact tv|exact qRr|exact rfl|refine aI ?_ ?_)
theorem Qcw:QQ prog 40 Qc0:=zR (by kernel_rfl) λ|(d,()),hx=>Qa1 d hx
end Go.Proofs.YtekbmehgcofnkaaGreat
namespace Go.SX
open Go Go.RowKit Go.Proofs.YtekbmehgcofnkaaGreat Told
theorem QDH(k:List Int):∀(es:List MapEntry) (i:Nat),(K1 k es i).map (·.2)=(K1 k es 0).map (·.2)
 | [],_=>rfl
 | e::es,i=>by
  simp only[K1];cases Kp e==k with
  | true=>rfl
  | false=>exact(QDH k es (i+1)).trans (QDH k es 1).symm
theorem Y6(k:List Int)(e:MapEntry)(es:List MapEntry):KQ (e::es) k=cond (Kp e==k) (intV e.val) (KQ es k):=by
 unfold KQ;simp only[K1];cases Kp e==k with
 | true=>rfl
 | false=>
  have h:=QDH k es 1;simp only[cond_false];cases h1:K1 k es (0+1)with
  | none=>rw[Nat.zero_add]at h1;rw[h1]at h;cases h0:K1 k es 0 with
   | none=>rfl
   | some q=>rw[h0]at h;cases h
  | some q=>rw[Nat.zero_add]at h1;rw[h1]at h;cases h0:K1 k es 0 with
   | none=>rw[h0]at h;cases h
   | some q'=>
    rw[h0]at h;simp only[Option.map_some,qsI]at h;obtain⟨a,b⟩:=q;obtain⟨a',b'⟩:=q';simp only at h;subst h;rfl
theorem QPT(k:List Int)(e:MapEntry):∀ es:List MapEntry,K1 k es 0=none->KQ (es++[e]) k=cond (Kp e==k) (intV e.val) 0
 | [],_=>by rw[List.nil_append,Y6];rfl
 | x::es,h=>by
  have hx:=QIq h x qmc;rw[List.cons_append,Y6,beq_false_of_ne hx,cond_false];refine QPT k e es ?_;have:=QDH k es 1;simp only[K1,beq_false_of_ne hx]at h;rw[show K1 k es 1=none from h]at this;cases h0:K1 k es 0 with
  | none=>rfl
  | some q=>rw[h0]at this;cases this
theorem QOW(k:List Int)(e:MapEntry)(hk:Kp e≠k):∀ es:List MapEntry,KQ (es++[e]) k=KQ es k
 | []=>by rw[List.nil_append,Y6,beq_false_of_ne hk];rfl
 | x::es=>by rw[List.cons_append,Y6,Y6,QOW k e hk es]
theorem QTJ{k:List Int}{kv v:Value}(hk:∀ e:MapEntry,e.key=kv->Kp e=k)(k':List Int):∀{es:List MapEntry} {i j:Nat} {u:Value},K1 k es i=some (j,u)->KQ (VM kv v es (j-i)) k'=cond (k==k') (intV v) (KQ es k')
 | [],_,_,_,h=>by cases h
 | e::es,i,j,u,h=>by
  simp only[K1]at h;cases hx:Kp e==k with
  | true=>
   rw[hx]at h;simp only[qsI,qpI]at h;obtain⟨rfl,rfl⟩:=h;rw[Nat.sub_self];simp only[VM];rw[Y6,hk _ rfl,Y6,beq_iff_eq.1 hx];cases k==k'<;>rfl
  | false=>
   rw[hx]at h;have h1:=(QBc h).1;have ih:=QTJ hk k' h (v:=v);rw[show j-i=(j-(i+1))+1 by omega]
   simp only[VM];rw[Y6,ih,Y6];cases he:Kp e==k' with
   | false=>rfl
   | true=>
    have:(k==k')=false:=by
     rw[beq_iff_eq.1 he]at hx;rw[beq_eq_false_iff_ne]at hx ⊢;exact λq=>hx q.symm
    rw[this];rfl
theorem QbJ{k:List Int}{kv v:Value}(hk:∀ e:MapEntry,e.key=kv->Kp e=k)(cl:Nat)(es:List MapEntry)(k':List Int):KQ (JL k kv v cl es) k'=cond (k==k') (intV v) (KQ es k'):=by
 unfold JL;cases hf:K1 k es 0 with
 | some q=>
  obtain⟨i,u⟩:=q;have:=QTJ hk k' hf (v:=v);rw[Nat.sub_zero]at this;exact this
 | none=>
  have hkk:=hk { key:=kv,val:=v,born:=cl } rfl;show KQ (es++[_]) k'=_;cases hq:k==k' with
  | true=>
   have:k=k':=beq_iff_eq.1 hq;subst this;rw[QPT k _ es hf,hkk,hq];rfl
  | false=>rw[QOW k' _ (by rw[hkk];exact beq_eq_false_iff_ne.1 hq) es];rfl
theorem QHE:∀{es:List MapEntry} {e:MapEntry},(es.map Kp).Nodup->e∈es->KQ es (Kp e)=intV e.val
 | [],_,_,h=>by cases h
 | x::es,e,hn,h=>by
  rw[List.map_cons,List.nodup_cons]at hn;rw[Y6];rcases List.mem_cons.1 h with rfl|h
  .simp
  .have:(Kp x==Kp e)=false:=by
    rw[beq_eq_false_iff_ne];intro q;exact hn.1 (q ▸ List.mem_map_of_mem h)
   rw[this];exact QHE hn.2 h
theorem QN8:∀{es:List MapEntry} {k:List Int},KQ es k≠0->∃ e∈es,Kp e=k
 | [],k,h=>absurd rfl h
 | x::es,k,h=>by
  rw[Y6]at h;cases hx:Kp x==k with
  | true=>exact⟨x,qmc,beq_iff_eq.1 hx⟩
  | false=>
   rw[hx]at h;obtain⟨e,he,hk⟩:=QN8 h;exact⟨e,List.mem_cons_of_mem _ he,hk⟩
end Go.SX
namespace Go.Proofs.YtekbmehgcofnkaaGreat
open Go.SX Go.SX.Told
variable {i:Nat}(d:Puz)
theorem Qeq{d:Puz}{p q:QT}{k s t:Nat}{E:ECt}(K:List Int):KQ (stE d p q i k s t E).1 K=cond ((((i:Int) != (k:Int))&&(meF d p q s t != 0))&&([(i:Int),(s:Int),(k:Int),(t:Int)]==K)) (meF d p q s t) (KQ E.1 K):=by
 unfold stE;cases ((i:Int) != (k:Int))&&(meF d p q s t != 0)with
 | false=>rfl
 | true=>
  rw[Bool.true_and];exact QbJ (λe he=>zm he) _ _ K
theorem QKf{d:Puz}{p q:QT}{i k s:Nat}{E:ECt}(a b c e:Int):∀ t:Nat,KQ (m4 d p q i k s E t).1 [a,b,c,e]=if (a=i/\b=s/\c=k/\0<=e/\e<t/\a≠c)/\meF d p q s e.toNat≠0 then meF d p q s e.toNat else KQ E.1 [a,b,c,e]
 | 0=>by rw[if_neg (by omega)];rfl
 | t+1=>by
  show KQ (stE d p q i k s t (m4 d p q i k s E t)).1 _=_;rw[Qeq,QKf a b c e t]
  by_cases h:(i:Int)≠k/\meF d p q s t≠0/\a=i/\b=s/\c=k/\e=t
  .obtain⟨h1,h2,rfl,rfl,rfl,rfl⟩:=h;have:((((i:Int) != (k:Int))&&(meF d p q s t != 0))&&([(i:Int),(s:Int),(k:Int),(t:Int)]==[(i:Int),(s:Int),(k:Int),(t:Int)]))=true:=by simp[h2];omega
   rw[this,cond_true,if_pos ⟨by omega,by simpa using h2⟩]
   simp
  .have:((((i:Int) != (k:Int))&&(meF d p q s t != 0))&&([(i:Int),(s:Int),(k:Int),(t:Int)]==[a,b,c,e]))=false:=by
    rw[Bool.eq_false_iff];intro q;simp only[qbA,bne_iff_ne,ne_eq,beq_iff_eq,List.cons.injEq,and_true]at q;exact h ⟨q.1.1,q.1.2,q.2.1.symm,q.2.2.1.symm,q.2.2.2.1.symm,q.2.2.2.2.symm⟩
   rw[this,cond_false]
   by_cases h2:(a=i/\b=s/\c=k/\0<=e/\e<t/\a≠c)/\meF d p q s e.toNat≠0
   .rw[if_pos h2,if_pos ⟨by omega,h2.2⟩]
   .rw[if_neg h2,if_neg];rintro⟨⟨h3,h4,h5,h6,h7,h8⟩,h9⟩
    by_cases he:e=t
    .subst he;exact h ⟨by omega,by simpa using h9,h3,h4,h5,rfl⟩
    .exact h2 ⟨⟨h3,h4,h5,h6,by omega,h8⟩,h9⟩
theorem QTc{d:Puz}{p q:QT}{i k:Nat}{E:ECt}(a b c e:Int):∀ s:Nat,KQ (m3 d p q i k E s).1 [a,b,c,e]=if (a=i/\0<=b/\b<s/\c=k/\0<=e/\e<4/\a≠c)/\meF d p q b.toNat e.toNat≠0 then meF d p q b.toNat e.toNat else KQ E.1 [a,b,c,e]
 | 0=>by rw[if_neg (by omega)];rfl
 | s+1=>by
  show KQ (m4 d p q i k s (m3 d p q i k E s) 4).1 _=_;rw[QKf,QTc a b c e s]
  by_cases hb:b=s
  .subst hb;rw[Int.toNat_natCast]
   by_cases h:(a=i/\(s:Int)=s/\c=k/\0<=e/\e<(4:Nat)/\a≠c)/\meF d p q s e.toNat≠0
   .rw[if_pos h,if_pos ⟨by omega,h.2⟩]
   .rw[if_neg h,if_neg (by omega),if_neg]
    rintro⟨h1,h2⟩;exact h ⟨by omega,h2⟩
  .rw[if_neg (λh=>hb h.1.2.1)]
   by_cases h:(a=i/\0<=b/\b<s/\c=k/\0<=e/\e<4/\a≠c)/\meF d p q b.toNat e.toNat≠0
   .rw[if_pos h,if_pos ⟨by omega,h.2⟩]
   .rw[if_neg h,if_neg];rintro⟨h1,h2⟩;exact h ⟨by omega,h2⟩
theorem QO2{d:Puz}{p:QT}{i:Nat}{E:ECt}(a b c e:Int):∀ k:Nat,KQ (m2 d p i E k).1 [a,b,c,e]=if (a=i/\0<=b/\b<4/\0<=c/\c<k/\0<=e/\e<4/\a≠c)/\meF d p (d.ps.get c.toNat) b.toNat e.toNat≠0 then meF d p (d.ps.get c.toNat) b.toNat e.toNat else KQ E.1 [a,b,c,e]
 | 0=>by rw[if_neg (by omega)];rfl
 | k+1=>by
  show KQ (m3 d p (d.ps.get k) i k (m2 d p i E k) 4).1 _=_;rw[QTc,QO2 a b c e k]
  by_cases hc:c=k
  .subst hc;rw[Int.toNat_natCast]
   by_cases h:(a=i/\0<=b/\b<(4:Nat)/\(k:Int)=k/\0<=e/\e<4/\a≠k)/\meF d p (d.ps.get k) b.toNat e.toNat≠0
   .rw[if_pos h,if_pos ⟨by omega,h.2⟩]
   .rw[if_neg h,if_neg (by omega),if_neg]
    rintro⟨h1,h2⟩;exact h ⟨by omega,h2⟩
  .rw[if_neg (λh=>hc h.1.2.2.2.1)]
   by_cases h:(a=i/\0<=b/\b<4/\0<=c/\c<k/\0<=e/\e<4/\a≠c)/\meF d p (d.ps.get c.toNat) b.toNat e.toNat≠0
   .rw[if_pos h,if_pos ⟨by omega,h.2⟩]
   .rw[if_neg h,if_neg];rintro⟨h1,h2⟩;exact h ⟨by omega,h2⟩
theorem QRl(d:Puz)(a b c e:Int):∀ i:Nat,KQ (m1 d i).1 [a,b,c,e]=if (0<=a/\a<i/\0<=b/\b<4/\0<=c/\c<d.ps.n/\0<=e/\e<4/\a≠c)/\meF d (d.ps.get a.toNat) (d.ps.get c.toNat) b.toNat e.toNat≠0 then meF d (d.ps.get a.toNat) (d.ps.get c.toNat) b.toNat e.toNat else 0
 | 0=>by rw[if_neg (by omega)];rfl
 | i+1=>by
  show KQ (m2 d (d.ps.get i) i (m1 d i) d.ps.n).1 _=_;rw[QO2,QRl d a b c e i]
  by_cases ha:a=i
  .subst ha;rw[Int.toNat_natCast]
   by_cases h:((i:Int)=i/\0<=b/\b<4/\0<=c/\c<d.ps.n/\0<=e/\e<4/\(i:Int)≠c)/\meF d (d.ps.get i) (d.ps.get c.toNat) b.toNat e.toNat≠0
   .rw[if_pos h,if_pos ⟨by omega,h.2⟩]
   .rw[if_neg h,if_neg (by omega),if_neg]
    rintro⟨h1,h2⟩;exact h ⟨by omega,h2⟩
  .rw[if_neg (λh=>ha h.1.1)]
   by_cases h:(0<=a/\a<i/\0<=b/\b<4/\0<=c/\c<d.ps.n/\0<=e/\e<4/\a≠c)/\meF d (d.ps.get a.toNat) (d.ps.get c.toNat) b.toNat e.toNat≠0
   .rw[if_pos h,if_pos ⟨by omega,h.2⟩]
   .rw[if_neg h,if_neg];rintro⟨h1,h2⟩;exact h ⟨by omega,h2⟩
theorem QBf(a b c e:Int):KQ (QI d).1 [a,b,c,e]=if 0<=a/\a<d.ps.n/\0<=b/\b<4/\0<=c/\c<d.ps.n/\0<=e/\e<4/\a≠c then meF d (d.ps.get a.toNat) (d.ps.get c.toNat) b.toNat e.toNat else 0:=by
 rw[QI,QRl]
 by_cases h:0<=a/\a<d.ps.n/\0<=b/\b<4/\0<=c/\c<d.ps.n/\0<=e/\e<4/\a≠c
 .rw[if_pos h]
  by_cases h2:meF d (d.ps.get a.toNat) (d.ps.get c.toNat) b.toNat e.toNat≠0
  .rw[if_pos ⟨h,h2⟩]
  .rw[if_neg (λq=>h2 q.2)];exact(Classical.not_not.1 h2).symm
 .rw[if_neg h,if_neg (λq=>h q.1)]
open Go.SX Go.SX.Told Go.Sort
variable {e:MapEntry}{x:Jn}{c p i:Nat}(d:Puz)(m:Int)
theorem QFF{E:ECt}(h:WfE E)(he:e∈E.1):Kp e=[QS e 0,QS e 1,QS e 2,QS e 3]:=by
 have:=List.all_eq_true.1 (show wf4 .i64 E.1=true from h) e he;rw[qbA]at this;obtain⟨a,b,c,d,hk⟩:=QEE this.1;have hl:=zm hk;unfold QS;rw[hl];rfl
theorem QDq{m:Int}:x∈VY m e↔(m<=intV e.val/\QS e 0<QS e 2)/\x=jO e:=by
 unfold VY
 by_cases h:m<=intV e.val/\QS e 0<QS e 2
 .rw[qde h.1,qde h.2];simp[h]
 .have:(decide (m<=intV e.val)&&decide (QS e 0<QS e 2))=false:=by
   rw[Bool.eq_false_iff];intro q;simp only[qbA,qdE]at q;exact h q
  rw[this];simp[h]
theorem QaD{E:ECt}(h:OkE E c){m:Int}(hm:1<=m)(x:Jn):x∈Ks E m↔m<=KQ E.1 [x.a,x.i,x.b,x.j]/\x.a<x.b:=by
 unfold Ks;rw[List.mem_flatMap];constructor
 .rintro⟨e,he,hx⟩;obtain⟨⟨h1,h2⟩,rfl⟩:=QDq.1 hx;have hk:=QFF h.w he;have hl:=QHE h.m.keys he;rw[hk]at hl;exact⟨by show m<=KQ E.1 [QS e 0,QS e 1,QS e 2,QS e 3];rw[hl];exact h1,h2⟩
 .rintro⟨h1,h2⟩;obtain⟨e,he,hk⟩:=QN8 (es:=E.1) (k:=[x.a,x.i,x.b,x.j]) (by omega)
  have hk4:=QFF h.w he;have hl:=QHE h.m.keys he;rw[hk]at hl;rw[hk]at hk4;simp only[List.cons.injEq,and_true]at hk4;obtain⟨e1,e2,e3,e4⟩:=hk4;refine⟨e,he,QDq.2 ⟨⟨by rw[<-hl];exact h1,by rw[<-e1,<-e3];exact h2⟩,?_⟩⟩
  obtain⟨a,i,b,j⟩:=x;simp only at e1 e2 e3 e4;unfold jO;rw[<-e1,<-e2,<-e3,<-e4]
theorem QaR{E:ECt}(h:OkE E c)(m:Int):(Ks E m).Nodup:=by
 unfold Ks List.Nodup;rw[List.pairwise_flatMap];constructor
 .intro e _;unfold VY;cases decide (m<=intV e.val)&&decide (QS e 0<QS e 2)
  .exact List.Pairwise.nil
  .exact List.pairwise_singleton _ _
 .have hp:E.1.Pairwise λa b=>Kp a≠Kp b:=List.pairwise_map.1 h.m.keys;refine hp.imp_of_mem ?_;intro a b ha hb hab x hx y hy;obtain⟨_,rfl⟩:=QDq.1 hx;obtain⟨_,rfl⟩:=QDq.1 hy;intro q;apply hab;rw[QFF h.w ha,QFF h.w hb];simp only[jO,Jn.mk.injEq]at q;rw[q.1,q.2.1,q.2.2.1,q.2.2.2]
def isJ(p i q j:Nat):Bool:=decide (p<q)&&decide (m<=meF d (d.ps.get p) (d.ps.get q) i j)
def QDh(p i q:Nat):List Jn:=(List.range 4).flatMap λj=>cond (isJ d m p i q j) [⟨p,i,q,j⟩] []
def QEj(p i:Nat):List Jn:=(List.range d.ps.n).flatMap (QDh d m p i)
def QDT(p:Nat):List Jn:=(List.range 4).flatMap (QEj d m p)
def JB:List Jn:=(List.range d.ps.n).flatMap (QDT d m)
theorem QDe{d:Puz}{m:Int}{q:Nat}:x∈QDh d m p i q↔∃ j,j<4/\isJ d m p i q j=true/\x=⟨p,i,q,j⟩:=by
 unfold QDh;rw[List.mem_flatMap];constructor
 .rintro⟨j,hj,hx⟩;cases hb:isJ d m p i q j with
  | false=>rw[hb]at hx;cases hx
  | true=>
   rw[hb]at hx;exact⟨j,List.mem_range.1 hj,hb,by simpa using hx⟩
 .rintro⟨j,hj,hb,rfl⟩;exact⟨j,List.mem_range.2 hj,by rw[hb];exact List.mem_singleton.2 rfl⟩
theorem QFV{d:Puz}{m:Int}:x∈QEj d m p i↔∃ q j,q<d.ps.n/\j<4/\isJ d m p i q j=true/\x=⟨p,i,q,j⟩:=by
 unfold QEj;rw[List.mem_flatMap];constructor
 .rintro⟨q,hq,hx⟩;obtain⟨j,hj,hb,rfl⟩:=QDe.1 hx;exact⟨q,j,List.mem_range.1 hq,hj,hb,rfl⟩
 .rintro⟨q,j,hq,hj,hb,rfl⟩;exact⟨q,List.mem_range.2 hq,QDe.2 ⟨j,hj,hb,rfl⟩⟩
theorem QDK{d:Puz}{m:Int}:x∈QDT d m p↔∃ i q j,i<4/\q<d.ps.n/\j<4/\isJ d m p i q j=true/\x=⟨p,i,q,j⟩:=by
 unfold QDT;rw[List.mem_flatMap];constructor
 .rintro⟨i,hi,hx⟩;obtain⟨q,j,hq,hj,hb,rfl⟩:=QFV.1 hx;exact⟨i,q,j,List.mem_range.1 hi,hq,hj,hb,rfl⟩
 .rintro⟨i,q,j,hi,hq,hj,hb,rfl⟩;exact⟨i,List.mem_range.2 hi,QFV.2 ⟨q,j,hq,hj,hb,rfl⟩⟩
theorem jN{d:Puz}{m:Int}:x∈JB d m↔∃ p i q j,p<d.ps.n/\i<4/\q<d.ps.n/\j<4/\isJ d m p i q j=true/\x=⟨p,i,q,j⟩:=by
 unfold JB;rw[List.mem_flatMap];constructor
 .rintro⟨p,hp,hx⟩;obtain⟨i,q,j,hi,hq,hj,hb,rfl⟩:=QDK.1 hx;exact⟨p,i,q,j,List.mem_range.1 hp,hi,hq,hj,hb,rfl⟩
 .rintro⟨p,i,q,j,hp,hi,hq,hj,hb,rfl⟩;exact⟨p,List.mem_range.2 hp,QDK.2 ⟨i,q,j,hi,hq,hj,hb,rfl⟩⟩
theorem QGH:(JB d m).Pairwise λx y=>Vm x y<0:=by
 unfold JB;rw[List.pairwise_flatMap];refine⟨λp _=>?_,List.pairwise_lt_range.imp λ{p p'} hp x hx y hy=>?_⟩
 .unfold QDT;rw[List.pairwise_flatMap];refine⟨λi _=>?_,List.pairwise_lt_range.imp λ{i i'} hi x hx y hy=>?_⟩
  .unfold QEj;rw[List.pairwise_flatMap];refine⟨λq _=>?_,List.pairwise_lt_range.imp λ{q q'} hq x hx y hy=>?_⟩
   .unfold QDh;rw[List.pairwise_flatMap];refine⟨λj _=>?_,List.pairwise_lt_range.imp λ{j j'} hj x hx y hy=>?_⟩
    .cases isJ d m p i q j
     .exact List.Pairwise.nil
     .exact List.pairwise_singleton _ _
    .cases hb:isJ d m p i q j with
     | false=>rw[hb]at hx;cases hx
     | true=>
      cases hb':isJ d m p i q j' with
      | false=>rw[hb']at hy;cases hy
      | true=>
       rw[hb]at hx;rw[hb']at hy;have hx:x=⟨p,i,q,j⟩:=by simpa using hx
       have hy:y=⟨p,i,q,j'⟩:=by simpa using hy
       subst hx hy;have hj:j<j':=hj;rw[ZA];exact .inr ⟨rfl,.inr ⟨rfl,.inr ⟨rfl,by show(j:Int)<j';omega⟩⟩⟩
   .obtain⟨j,_,_,rfl⟩:=QDe.1 hx;obtain⟨j',_,_,rfl⟩:=QDe.1 hy;have hq:q<q':=hq;rw[ZA];exact .inr ⟨rfl,.inr ⟨rfl,.inl (by show(q:Int)<q';omega)⟩⟩
  .obtain⟨q,j,_,_,_,rfl⟩:=QFV.1 hx;obtain⟨q',j',_,_,_,rfl⟩:=QFV.1 hy;have hi:i<i':=hi;rw[ZA];exact .inr ⟨rfl,.inl (by show(i:Int)<i';omega)⟩
 .obtain⟨i,q,j,_,_,_,_,rfl⟩:=QDK.1 hx;obtain⟨i',q',j',_,_,_,_,rfl⟩:=QDK.1 hy;have hp:p<p':=hp;rw[ZA];simp only;omega
theorem QSl(x:Jn):¬ Vm x x<0:=by rw[ZA];omega
theorem QEe(hn:d.ps.n<=1000){m:Int}(hm:1<=m):KZ (Ks (QI d) m)=JB d m:=by
 have hE:=Z4 d hn;have hnd:(JB d m).Nodup:=(QGH d m).imp λ{x y} h q=>by subst q;exact QSl x h
 have hp:(Ks (QI d) m).Perm (JB d m):=by
  rw[List.perm_ext_iff_of_nodup (QaR hE m) hnd];intro x;rw[QaD hE hm,jN,QBf];constructor
  .rintro⟨h1,h2⟩
   by_cases h:0<=x.a/\x.a<d.ps.n/\0<=x.i/\x.i<4/\0<=x.b/\x.b<d.ps.n/\0<=x.j/\x.j<4/\x.a≠x.b
   .rw[if_pos h]at h1;refine⟨x.a.toNat,x.i.toNat,x.b.toNat,x.j.toNat,by omega,by omega,by omega,by omega,?_,?_⟩
    .unfold isJ;rw[qde h1,qde (by omega)];rfl
    .obtain⟨a,i,b,j⟩:=x;simp only[Jn.mk.injEq]at *;omega
   .rw[if_neg h]at h1;omega
  .rintro⟨p,i,q,j,hp,hi,hq,hj,hb,rfl⟩;simp only[isJ,qbA,qdE]at hb;refine⟨?_,by show(p:Int)<q;omega⟩
   rw[if_pos (by simp only;omega)]
   exact hb.2
 rw[QNW hp];unfold KZ;refine List.mergeSort_of_pairwise ((QGH d m).imp λ{x y} h=>?_);have:¬ Vm y x<0:=by rw[ZA]at h ⊢;omega
 simp[ltOf,this]
