/- - -/
import Derived.Test.YtekbmehgcofnkaaGreatMzb
import Derived.Shelf.SlSortCmp.NoneTotal
open Go.Proofs.Tryz
open Go.IntKind (i64)
set_option maxRecDepth 100000
namespace Go.Proofs.YtekbmehgcofnkaaGreat
open Go Go.RowKit Go.Lib Go.Shelf Go.Sort Go.SX Go.SX.Told
variable {l:List Jn}
theorem QZu{w:World}{b m:Nat}{os:Array Obj}{l':List Jn}{rest:List Value}{ty:TypeId}(h:bk w b=some (.cells (l.flatMap JB++rest).toArray ty (0,0)))(hl:l.length=l'.length):
  bk (sortWorldK JB 4 w b 0 m l'.toArray os) b=some (.cells (l'.flatMap JB++rest).toArray ty (0,0))/\(∀ k,k<w.heap.size->k≠b->bk (sortWorldK JB 4 w b 0 m l'.toArray os) k=bk w k)/\w.heap.size<=(sortWorldK JB 4 w b 0 m l'.toArray os).heap.size:=by
 have hk:∀ x,(JB x).length=4:=λ_=>rfl
 have hf:flatK JB 4 l'.toArray=(l'.flatMap JB).toArray:=by
  apply Array.ext';rw[QL1 JB 4 hk]
 have hlen:(l.flatMap JB).length=(l'.flatMap JB).length:=by rw[qa JB 4 hk,qa JB 4 hk,hl]
 have hb:b<w.heap.size:=by
  unfold bk at h;exact(Array.getElem?_eq_some_iff.1 h).1
 unfold bk at h ⊢;unfold sortWorldK grow putRowK putRow mapBlock Sort.ahead;simp only[hf];refine⟨?_,λk hk1 hk2=>?_,by simp⟩
 .rw[Array.getElem?_append_left (by simpa using hb),Array.getElem?_modify,if_pos rfl,h]
  simp only[Option.map_some,onCells];rw[QK7 _ _ _ hlen]
 .rw[Array.getElem?_append_left (by simpa using hk1),Array.getElem?_modify,if_neg (λe=>hk2 e.symm)]
theorem QdZ{w:World}{b:Nat}{rest:List Value}{ty:TypeId}(h:bk w b=some (.cells (l.flatMap JB++rest).toArray ty (0,0))):HoldsK JB 4 w b 0 l.toArray:=by
 have hk:∀ x,(JB x).length=4:=λ_=>rfl;intro j hj;rw[size_flatK]at hj;have hj:j<l.length*4:=by simpa using hj
 have e:((flatK JB 4 l.toArray)[j]!)=(JB l[j / 4]!)[j % 4]! := by
  rw[get_flatK JB 4 _ j (by simpa using hj)];simp
 refine⟨?_,?_⟩
 .rw[XB h,Nat.zero_add,List.getElem?_append_left (by rw[qa JB 4 hk];exact hj),QEI JB 4 hk l j hj,e]
  rfl
 .unfold World.frozen?;unfold bk at h;rw[h];simp
def QIP:FC:=λargs _ _=>match args with
 | [.slz id 0 n _,.fn (.func f) []]=>([id],λbs=>match Nat.beq f 131,bs with
  | true,[.rowz true ty [.int .i64,.int .i64,.int .i64,.int .i64] n' g]=>some ⟨false,decide (n=n')&&decide (n<4611686018427387904),.tup [],[(id,.rowz true ty [.int .i64,.int .i64,.int .i64,.int .i64] n (ZD n g))]⟩
  | _,_=>none)
 | [.nils,.fn (.func f) []]=>([],λbs=>match Nat.beq f 131,bs with
  | true,[]=>some ⟨false,true,.tup [],[]⟩
  | _,_=>none)
 | _=>([],λ_=>none)
theorem QAo(l:List Jn):(KT l).length=l.length:=by unfold KT;rw[List.length_mergeSort]
theorem Qel:∀ w,(isAgg 67).run prog w = .ok true w:=Tryz.isAgg67
theorem Qab:∀ w,(Go.sizeOf 67).run prog w = .ok 4 w:=Tryz.sizeOf67
theorem Qff:QS prog 153 QIP:=by
 have hnone:∀(p:Option Addr) (cap:Nat) (fv:Value) (w:World),Calls prog 153 #[.slice p 0 cap,fv] w λe w'=>e = .returned (.tuple #[])/\w'=w:=AnyF.slices_SortFunc_none Tryz.sortJn;refine⟨by kernel_rfl,λargs nid all r w lk blks eff hH _ hv he hp=>?_⟩
 unfold QIP at hv he;split at he<;>(try (cases he;done))
 rotate_left
 .rename_i f hx;simp only at he;split at he<;>(try (cases he;done))
  rename_i hf;have hf:f=131:=qnb hf;subst hf;simp only[qsI]at he;subst he;refine(hnone none 0 (.func (.func 131) #[] #[]) w).mono ?_;rintro e w' ⟨rfl,rfl⟩;exact⟨r,rfl,λ_ _=>rfl,λp hp=>(by cases hp),⟨rfl,rfl,rfl,qlr _,qlr _,λ_ _ _=>rfl⟩,λp hp=>(by cases hp),λp hp=>(by cases hp),λp hp=>(by cases hp)⟩
 rename_i id n c f hx;simp only at he;split at he<;>(try (cases he;done))
 rename_i ty n' g hf;have hf:f=131:=qnb hf;subst hf;simp only[qsI]at he;subst he;simp only[qbA,qdE]at hp;obtain⟨hn,hlt⟩:=hp;subst hn;have hlk:lk id=some (.rowz true ty [.int .i64,.int .i64,.int .i64,.int .i64] n g):=by simpa using hv
 have hlk:lk id=some (.rowz true ty ksJ n g):=hlk;obtain⟨h0,h4,hfoot,hnil,hrow,hcells⟩:=(show Ka r id w ty ksJ.length n (QW ksJ g)from hH.rep _ _ hlk);have hout:=hH.out _ _ hlk;have hrow':∀ i,i<n->(QW ksJ (ZD n g) i).length=ksJ.length/\JV (QW ksJ (ZD n g) i)=true:=λi _=>⟨V0 _ _ _,J2 _ _ _⟩;cases hN:(r id).nil with
 | true=>
  have hz:=hnil hN;subst hz;refine(hnone ((r id).base 0) ((r id).room (c.den (r id).cap)) (.func (.func 131) #[] #[]) w).mono ?_;rintro e w' ⟨rfl,rfl⟩;refine⟨r,rfl,λ_ _=>rfl,?_,⟨rfl,rfl,rfl,qlr _,qlr _,λ_ _ _=>rfl⟩,?_,?_,?_⟩
  .intro p hp;rw[List.mem_singleton.1 hp];exact⟨h0,h4,hfoot,hnil,λi hi=>absurd hi (Nat.not_lt_zero _),λq=>by rw[hN]at q;cases q⟩
  .intro p hp hin;rw[List.mem_singleton.1 hp]at hin;rw[hout]at hin;cases hin
  .intro p hp _ _ k hk;rw[List.mem_singleton.1 hp]at hk;rw[List.mem_singleton.1 hp];exact⟨_,hlk,hk⟩
  .intro p hp q _ hin;rw[List.mem_singleton.1 hp]at hin;rw[hout]at hin;cases hin
 | false=>
  obtain⟨hcap,rest,hrest,hbk⟩:=hcells hN;rw[QPj]at hbk
  have hb:(r id).blk<w.heap.size:=by
   unfold bk at hbk;exact(Array.getElem?_eq_some_iff.1 hbk).1
  have eg:∀ args w,(callFunc 131 args).run prog w = .ok (.enter 131 args) w:=enters_of func131 (by kernel_rfl) rfl
  have hd:((List.range n).map (X4 g)).toArray.size=n:=by simp
  have hcon:=AnyQ.slices_SortFunc Tryz.sortJn 4 Qel Qab JB (λ_=>rfl) (λx v hv=>by simp[JB]at hv;rcases hv with rfl|rfl|rfl|rfl<;>rfl) Vp QBZ 131 #[] (r id).blk 0 ((r id).room (c.den (r id).cap)) ((List.range n).map (X4 g)).toArray w eg (QVX _ _ _ _) (QdZ hbk) hb (by rw[hd];exact hlt)
  rw[hd]at hcon
  have ha:AV.denL r [.slz id 0 n c,.fn (.func 131) []]=[.slice (some ⟨(r id).blk,0,none⟩) n ((r id).room (c.den (r id).cap)),.func (.func 131) #[] #[]]:=by
   simp only[AV.denL,AV.den,Loc.base,hN,h0,Nat.zero_mul,Nat.add_zero]
  rw[ha];refine hcon.mono ?_;rintro e w' ⟨rfl,d',m,os,hperm,hsort,rfl⟩;have hu:=sorted_unique_holds QBZ QLv ((List.range n).map (X4 g)).toArray d' (by rw[hd];exact hperm) (by rw[hd];exact hsort)
  have hd':d'=(KT ((List.range n).map (X4 g))).toArray:=Array.ext' (by rw[hu];rfl)
  subst hd';obtain⟨w1,w2,w3⟩:=QZu (m:=m) (os:=os) hbk (QAo _).symm;refine⟨r,rfl,λ_ _=>rfl,?_,⟨rfl,rfl,rfl,w3,Nat.le_add_right _ _,λk hk hc=>w2 k hk λe=>hc ⟨_,List.mem_singleton.2 rfl,hout,_,hlk,(hfoot k).2 ⟨hN,e⟩⟩⟩,?_,?_,?_⟩
  .intro p hp;rw[List.mem_singleton.1 hp];refine⟨h0,h4,hfoot,hnil,hrow',λ_=>⟨hcap,rest,hrest,?_⟩⟩;show bk _ _=some (.cells (AV.denL r (Q5 n (QW ksJ (ZD n g))).flatten++rest).toArray ty (0,0));rw[Qci];exact w1
  .intro p hp hin;rw[List.mem_singleton.1 hp]at hin;rw[hout]at hin;cases hin
  .intro p hp _ _ k hk;rw[List.mem_singleton.1 hp]at hk;rw[List.mem_singleton.1 hp];exact⟨_,hlk,hk⟩
  .intro p hp q _ hin;rw[List.mem_singleton.1 hp]at hin;rw[hout]at hin;cases hin
def Yi:Tab:=Qa QT 153 QIP
theorem QCc:Qd Yi:=Qf.add Qff
end Go.Proofs.YtekbmehgcofnkaaGreat
namespace Go.SX
open Go Go.RowKit Go.Proofs.YtekbmehgcofnkaaGreat
namespace Told
def natsG(g:Nat->Value):List Nat:=(List.range (nxI g)).map λi=>nxI λ_=>g (i+1)
end Told
theorem QVO(l:List Nat):∃ g,Told.natsG g=l:=by
 refine⟨λk=>match k with
  | 0 => .int .i64 l.length
  | i+1 => .int .i64 ((l.getD i 0:Nat):Int),?_⟩
 have h0:∀ n:Nat,Told.nxI (λ_=>Value.int .i64 (n:Int))=n:=λn=>by simp[Told.nxI,Told.intV]
 apply List.ext_getElem?;intro i;unfold Told.natsG
 have e:Told.nxI (λk=>match k with
  | 0=>Value.int .i64 l.length
  | i+1 => .int .i64 ((l.getD i 0:Nat):Int))=l.length:=by simp[Told.nxI,Told.intV]
 rw[e,List.getElem?_map]
 by_cases h:i<l.length
 .rw[List.getElem?_range h];simp only[Option.map_some,h0];rw[List.getElem?_eq_getElem h,JL h]
 .rw[List.getElem?_eq_none (by simpa using h),List.getElem?_eq_none (by omega)];rfl
def QFu(n0:Nat)(ids:List Nat)(J0:JSt)(X:(Nat->Value)->List (Prop×Ex×JSt))(st:St)(K:Ex->St->QC):QC:=
 match Nat.beq st.tm.length J0.len&&V9 st.hp with
 | true=>(match QE n0 ((J0.live.map (·.1)).map (QJ st.tm)) (Kq ids ((J0.live.map (·.1)).map (QJ st.tm)) st.hp) J0 with
  | some ps=>QAs ps (.all λg=>QA4 K (X g))
  | none => .fail "a loop's beginning")
 | false => .fail "a loop's slots"
theorem QdB{σ:Type}{I:σ->JSt}{pre:σ->Prop}{μ:σ->Nat}{R:σ->Ex->JSt->Prop}{n0:Nat}{ls:Ex->List Nat}{ids ids':List Nat}{E:Env}(hE:E.Sound){H:σ->Hnd}{G:Ctx}(hG:G.n<=n0){body:Code}(hH:∀ s,pre s->Qx E G (H s) body)(hn:∀ s,pre s->n0<=(I s).nid)(hR:∀ s e J,R s e J->n0<=J.nid)(hr:J3 I pre μ R n0 ls ids E H body){s0:σ}(hp:pre s0){X:(Nat->Value)->List (Prop×Ex×JSt)}(hX:∀ e J,R s0 e J->∃ g,∃ x∈X g,x.1/\x.2.1=e/\x.2.2=J):
  J8 E G (.loop body) (QFu n0 ids' (I s0) X):=by
 intro st K T Q a w hn' h hrep hQ;unfold QFu at h;split at h
 rotate_left
 .exact h.elim
 rename_i hl;split at h
 rotate_left
 .exact h.elim
 rename_i ps hps;simp only[qbA]at hl;have hlen:=qnb hl.1;obtain⟨ha,hx⟩:=H5 h;have hnear:=Rep.near (h':=Kq ids' (((I s0).live.map (·.1)).map (QJ st.tm)) st.hp) (λid b hb=>Zq hb) hl.2 hrep;have hso:JT n0 ((I s0).live.map (·.1)) st.tm.length (((I s0).live.map (·.1)).map (QJ st.tm)) (Kq ids' (((I s0).live.map (·.1)).map (QJ st.tm)) st.hp) (I s0):={ slots:=rfl,len:=hlen,eqs:=⟨ps,hps,ha⟩ };obtain⟨g,hr'⟩:=Rep.subW hnear hso hG;refine wpIn_loop_rounds (μ s0+1) (QG8 hE hG hH hn hR hr _ s0 g a w (Nat.lt_succ_self _) hp hr' ?_);intro e J g' a' w' hRe hnJ hrJ
 obtain⟨g2,x,h1,h2,h3,h4⟩:=hX e J hRe;have:=QAW (hx g2) x h1 h2 g';rw[h3,h4]at this;exact hQ e (J.inst g') a' w' (Nat.le_trans hG hnJ) this hrJ
end Go.SX
namespace Go.Proofs.YtekbmehgcofnkaaGreat
open Go.SX Go.SX.Told
def jP(e:MapEntry):Jn:=⟨QR e 0,QR e 1,QR e 2,QR e 3⟩
variable (E:ECt)(m:Int)(o:List Jn)(S S':List Nat)(g0:Nat->Value)
def VY(e:MapEntry):List Jn:=cond (decide (m<=intV e.val)&&decide (QR e 0<QR e 2)) [jP e] []
def WL(b:Nat):List Jn:=match E.1.find? (·.born==b)with
 | some e=>VY m e
 | none=>[]
def Qt:List Jn:=S.flatMap (WL E m)
def rwJ(own:Bool)(id:Nat)(o:List Jn):Nat×Blk:=(id,.rowz own 67 [.int .i64,.int .i64,.int .i64,.int .i64] o.length λi=>QA.enc (o.getD i ⟨0,0,0,0⟩))
def jnJ(o:List Jn):JSt:=⟨48,[(1,.int false .i64 m),(5,.slz 256 0 o.length (.of 0)),(12,.ptr 264 201 0)],[(264,.itm [.map 201] 150 E.2 S E.2),(201,.mp E.1 E.2),rwJ true 256 o],272⟩
def jnE:JSt:=⟨48,[(5,.slz 256 0 o.length (.of 0))],[(201,.mp E.1 E.2),rwJ true 256 o],272⟩
def GE:JSt:=⟨48,[(1,.int false .i64 m),(5,.nils),(12,.ptr 264 201 0)],[(264,.itm [.map 201] 150 E.2 S E.2),(201,.mp E.1 E.2)],272⟩
def QDr:JSt:=⟨48,[(5,.nils)],[(201,.mp E.1 E.2)],272⟩
def QH7:Ex->List Nat
 | .normal=>[1,5,12]
 | .exit _=>[5]
 | .ret=>[]
abbrev QHZ:List CK:=
  (waZ)
noncomputable abbrev QJE:Nat×Blk:=
  (256,.rowz true 67 QHZ o.length λi=>QA.enc (o.getD i (Jn.mk (0:Int) (0:Int) (0:Int) (0:Int))))
noncomputable abbrev QSJ:List AV:=
  [.nilp,.ptr 48 0 0,vi m,.slz 256 0 o.length cO,.ptr 264 201 0]
noncomputable abbrev waP(E:ECt)(S:List Nat)(g0:Nat->Value):List AV:=[vi (QR (QM E.1 (S++[(E.1.getD (nxI g0) noE).3])) 0),vi (QR (QM E.1 (S++[(E.1.getD (nxI g0) noE).3])) 1),vi (QR (QM E.1 (S ++ [(E.1.getD (nxI g0) noE).3])) 2),vi (QR (QM E.1 (S++[(E.1.getD (nxI g0) noE).3])) 3)]
theorem QUZ(o:List Jn)(g:Nat->Value):exec (mkF prog Yi) (hnd (mkF prog Yi) 1) (QI f89 0) (JSt.inst (jnJ E m S o) g) (Q6 [201] QH7) = .ask (QAt E.1 E.2 E.2) (.both (.asm (ZW E.1 S) (.leaf (.tup [.ptr 0 0 0,.ptr 48 0 0,.slz 256 0 o.length cO]) ([(201,.mp E.1 E.2),(QJE o)]))) (.all (λ(g0:Nat->Value)=>.asm (GU E.1 S (nxI g0)) (.need (decide (E.2=E.2)&&YN E.1 (S++[(E.1.getD (nxI g0) noE).3])&&wf4 i64 E.1) (.br (decide (intV (QM E.1 (S++[(E.1.getD (nxI g0) noE).3])).2≥m)) (.br (decide (QR (QM E.1 (S++[(E.1.getD (nxI g0) noE).3])) 0<QR (QM E.1 (S++[(E.1.getD (nxI g0) noE).3])) 2)) (.need (decide (o.length<=o.length)&&(true&&decide ((o.length+1+(o.length+1) / 4+192)*32<=281474976710656/\o.length+1<=9223372036854775807))) (.leaf (.tup [.nilp,.ptr 48 0 0,vi m,.slz 552 0 (o.length+1) cO, .ptr 264 201 0]) ([(201,.mp E.1 E.2),(552,.rowz true 67 QHZ (o.length+1) (Q9 o.length (λi=>QA.enc (o.getD i (Jn.mk (0:Int) (0:Int) (0:Int) (0:Int)))) (KI [[vi (QR (QM E.1 (S++[(E.1.getD (nxI g0) noE).3])) 0),vi (QR (QM E.1 (S++[(E.1.getD (nxI g0) noE).3])) 1),vi (QR (QM E.1 (S ++ [(E.1.getD (nxI g0) noE).3])) 2),vi (QR (QM E.1 (S++[(E.1.getD (nxI g0) noE).3])) 3)]] 0))),(264,.itm [.map 201] 150 E.2 (S++[(E.fst.getD (nxI g0) noE).born]) E.2)]))) (.leaf (.tup (QSJ m o)) ([(201,.mp E.1 E.2),(QJE o),(264,.itm [.map 201] 150 E.2 (S++[(E.fst.getD (nxI g0) noE).born]) E.2)]))) (.leaf (.tup (QSJ m o)) ([(201,.mp E.1 E.2),(QJE o),(264,.itm [.map 201] 150 E.2 (S++[(E.fst.getD (nxI g0) noE).born]) E.2)]))))))):=by kernel_rfl
noncomputable abbrev waX(o:List Jn)(o':List Jn):List Prop:=[o'.length<=o.length,QB (4:Nat) o'.length (λi=>QA.enc (o.getD i (Jn.mk (0:Int) (0:Int) (0:Int) (0:Int)))) λi=>QA.enc (o'.getD i (Jn.mk (0:Int) (0:Int) (0:Int) (0:Int)))]
theorem QgU(o o':List Jn):QE 216 [AV.slz (256:Nat) (0:Nat) o.length cO] ([((201:Nat),Blk.mp E.1 E.2),((256:Nat),Blk.rowz true (67:Nat) [CK.int i64,CK.int i64,CK.int i64,CK.int i64] o.length λi=>QA.enc (o.getD i (Jn.mk (0:Int) (0:Int) (0:Int) (0:Int))))]) (jnE E o')=( some [0=0,o.length=o'.length,cO=cO,E.1=E.1,E.2=E.2,o'.length<=o.length,QB (4:Nat) o'.length (λi=>QA.enc (o.getD i (Jn.mk (0:Int) (0:Int) (0:Int) (0:Int)))) λi=>QA.enc (o'.getD i (Jn.mk (0:Int) (0:Int) (0:Int) (0:Int)))]):=by kernel_rfl
noncomputable abbrev QRy:List AV:=
  (waP E S g0)
noncomputable abbrev wbn(E:ECt)(S:List Nat)(S':List Nat)(g0:Nat->Value):List Prop:=[E.2=E.2,S++[(E.1.getD (nxI g0) noE).3]=S',E.2=E.2,E.1=E.1,E.2=E.2]
theorem QcV(o o':List Jn)(g0:Nat->Value):QE 216 [vi m,.slz 552 0 (o.length+1) cO,.ptr 264 201 0] ([(201,.mp E.1 E.2),(552,.rowz true 67 QHZ (o.length+1) (Q9 o.length (λi=>QA.enc (o.getD i (Jn.mk (0:Int) (0:Int) (0:Int) (0:Int)))) (KI [(QRy E S g0)] 0))),(264,.itm [.map 201] 150 E.2 (S++[(E.fst.getD (nxI g0) noE).born]) E.2)]) (jnJ E m S' o')=(some [m=m,0=0,o.length+1=o'.length,cO=cO,201=201,0=0,E.2=E.2,S++[(E.1.getD (nxI g0) noE).3]=S',E.2=E.2,E.1=E.1,E.2=E.2,o'.length<=o.length+1,QB 4 o'.length (Q9 o.length (λi=>QA.enc (o.getD i (Jn.mk (0:Int) (0:Int) (0:Int) (0:Int)))) (KI [(QRy E S g0)] 0)) λi=>QA.enc (o'.getD i (Jn.mk (0:Int) (0:Int) (0:Int) (0:Int)))]):=by kernel_rfl
theorem QWg(o o':List Jn)(g0:Nat->Value):QE 216 [vi m,AV.slz (256:Nat) (0:Nat) o.length cO,AV.ptr (264:Nat) (201:Nat) (0:Nat)] ([((201:Nat),Blk.mp E.1 E.2),((256:Nat),Blk.rowz true (67:Nat) [CK.int i64,CK.int i64,CK.int i64,CK.int i64] o.length λi=>QA.enc (o.getD i (Jn.mk (0:Int) (0:Int) (0:Int) (0:Int)))),((264:Nat),Blk.itm [AV.map (201:Nat)] (150:Nat) E.2 (S++[(E.fst.getD (nxI g0) noE).born]) E.2)]) (jnJ E m S' o')=( some [m=m,0=0,o.length=o'.length,cO=cO,(201:Nat)=(201:Nat),0=0,E.2=E.2,S++[(E.1.getD (nxI g0) noE).3]=S',E.2=E.2,E.1=E.1,E.2=E.2,o'.length<=o.length,QB (4:Nat) o'.length (λi=>QA.enc (o.getD i (Jn.mk (0:Int) (0:Int) (0:Int) (0:Int)))) λi=>QA.enc (o'.getD i (Jn.mk (0:Int) (0:Int) (0:Int) (0:Int)))]):=by kernel_rfl
theorem QV4(o o':List Jn)(g0:Nat->Value):QE 216 [vi m,AV.slz (256:Nat) (0:Nat) o.length cO,AV.ptr (264:Nat) (201:Nat) (0:Nat)] ([((201:Nat),Blk.mp E.1 E.2),((256:Nat),Blk.rowz true (67:Nat) [CK.int i64,CK.int i64,CK.int i64,CK.int i64] o.length λi=>QA.enc (o.getD i (Jn.mk (0:Int) (0:Int) (0:Int) (0:Int)))),((264:Nat),Blk.itm [AV.map (201:Nat)] (150:Nat) E.2 (S++[(E.fst.getD (nxI g0) noE).born]) E.2)]) (jnJ E m S' o')=( some [m=m,0=0,o.length=o'.length,cO=cO,(201:Nat)=(201:Nat),0=0,E.2=E.2,S++[(E.1.getD (nxI g0) noE).3]=S',E.2=E.2,E.1=E.1,E.2=E.2,o'.length<=o.length,QB (4:Nat) o'.length (λi=>QA.enc (o.getD i (Jn.mk (0:Int) (0:Int) (0:Int) (0:Int)))) λi=>QA.enc (o'.getD i (Jn.mk (0:Int) (0:Int) (0:Int) (0:Int)))]):=by kernel_rfl
theorem Qan(g:Nat->Value):exec (mkF prog Yi) (hnd (mkF prog Yi) 1) (QI f89 0) (JSt.inst (GE E m S) g) (Q6 [201] QH7) = .ask (QAt E.1 E.2 E.2) (.both (.asm (ZW E.1 S) (.leaf (.tup [.ptr 0 0 0,.ptr 48 0 0,.nils]) ([(201,.mp E.1 E.2)]))) (.all (λ(g0:Nat->Value)=>.asm (GU E.1 S (nxI g0)) (.need (decide (E.2=E.2)&&YN E.1 (S ++ [(E.1.getD (nxI g0) noE).3])&&wf4 i64 E.1) (.br (decide (intV (QM E.1 (S++[(E.1.getD (nxI g0) noE).3])).2≥m)) (.br (decide (QR (QM E.1 (S++[(E.1.getD (nxI g0) noE).3])) 0<QR (QM E.1 (S++[(E.1.getD (nxI g0) noE).3])) 2)) (.leaf (.tup [.nilp,.ptr 48 0 0,vi m,.slice true 552 0 1 cO,.ptr 264 201 0]) ([(201, .mp E.1 E.2),(552,.rowl 67 4 [[vi (QR (QM E.1 (S++[(E.1.getD (nxI g0) noE).3])) 0),vi (QR (QM E.1 (S++[(E.1.getD (nxI g0) noE).3])) 1),vi (QR (QM E.1 (S++[(E.1.getD (nxI g0) noE).3])) 2),vi (QR (QM E.1 (S++[(E.1.getD (nxI g0) noE).3])) 3)]]),(264,.itm [.map 201] 150 E.2 (S ++ [(E.fst.getD (nxI g0) noE).born]) E.2)])) (.leaf (.tup [.nilp,.ptr 48 0 0,vi m,.nils,.ptr 264 201 0]) ([(201,.mp E.1 E.2),(264,.itm [.map 201] 150 E.2 (S ++ [(E.fst.getD (nxI g0) noE).born]) E.2)]))) (.leaf (.tup [.nilp,.ptr 48 0 0,vi m,.nils,.ptr 264 201 0]) ([(201,.mp E.1 E.2),(264,.itm [.map 201] 150 E.2 (S ++ [(E.fst.getD (nxI g0) noE).born]) E.2)]))))))):=by kernel_rfl
theorem QUc:QE 216 [AV.nils] ([((201:Nat),Blk.mp E.1 E.2)]) (QDr E)=( some [E.1=E.1,E.2=E.2]):=by kernel_rfl
noncomputable abbrev wbl(E:ECt)(S:List Nat)(g0:Nat->Value):List AV:=[vi (QR (QM E.1 (S++[(E.1.getD (nxI g0) noE).3])) (0:Nat)),vi (QR (QM E.1 (S++[(E.1.getD (nxI g0) noE).3])) (1:Nat)),vi (QR (QM E.1 (S++[(E.1.getD (nxI g0) noE).3])) (2:Nat)),vi (QR (QM E.1 (S++[(E.1.getD (nxI g0) noE).3])) (3:Nat))]
theorem QWy(o':List Jn)(g0:Nat->Value):QE 216 [vi m,AV.slice true (552:Nat) (0:Nat) (1:Nat) cO,AV.ptr (264:Nat) (201:Nat) (0:Nat)] ([((201:Nat),Blk.mp E.1 E.2),((552:Nat),Blk.rowl (67:Nat) (4:Nat) [[vi (QR (QM E.1 (S++[(E.1.getD (nxI g0) noE).3])) (0:Nat)),vi (QR (QM E.1 (S++[(E.1.getD (nxI g0) noE).3])) (1:Nat)),vi (QR (QM E.1 (S++[(E.1.getD (nxI g0) noE).3])) (2:Nat)),vi (QR (QM E.1 (S++[(E.1.getD (nxI g0) noE).3])) (3:Nat))]]),((264:Nat),Blk.itm [AV.map (201:Nat)] (150:Nat) E.2 (S++[(E.fst.getD (nxI g0) noE).born]) E.2)]) (jnJ E m S' o')=( some [m=m,0=0,(1:Nat)=o'.length,cO=cO,(201:Nat)=(201:Nat),0=0,E.2=E.2,S++[(E.1.getD (nxI g0) noE).3]=S',E.2=E.2,E.1=E.1,E.2=E.2,jD [CK.int i64,CK.int i64,CK.int i64,CK.int i64] [[vi (QR (QM E.1 (S ++ [(E.1.getD (nxI g0) noE).3])) (0:Nat)),vi (QR (QM E.1 (S++[(E.1.getD (nxI g0) noE).3])) (1:Nat)),vi (QR (QM E.1 (S ++ [(E.1.getD (nxI g0) noE).3])) (2:Nat)),vi (QR (QM E.1 (S++[(E.1.getD (nxI g0) noE).3])) (3:Nat))]] o'.length λi=>QA.enc (o'.getD i (Jn.mk (0:Int) (0:Int) (0:Int) (0:Int)))]):=by kernel_rfl
theorem Qdb:QE 216 [vi m,AV.nils,AV.ptr (264:Nat) (201:Nat) (0:Nat)] ([((201:Nat),Blk.mp E.1 E.2),((264:Nat),Blk.itm [AV.map (201:Nat)] (150:Nat) E.2 (S++[(E.fst.getD (nxI g0) noE).born]) E.2)]) (GE E m S')=( some [m=m,(201:Nat)=(201:Nat),0=0,E.2=E.2,S++[(E.1.getD (nxI g0) noE).3]=S',E.2=E.2,E.1=E.1,E.2=E.2]):=by kernel_rfl
theorem QgH:QE 216 [vi m,AV.nils,AV.ptr (264:Nat) (201:Nat) (0:Nat)] ([((201:Nat),Blk.mp E.1 E.2),((264:Nat),Blk.itm [AV.map (201:Nat)] (150:Nat) E.2 (S++[(E.fst.getD (nxI g0) noE).born]) E.2)]) (GE E m S')=( some [m=m,(201:Nat)=(201:Nat),0=0,E.2=E.2,S++[(E.1.getD (nxI g0) noE).3]=S',E.2=E.2,E.1=E.1,E.2=E.2]):=by kernel_rfl
end Go.Proofs.YtekbmehgcofnkaaGreat
namespace Go.SX
open Go Go.RowKit Go.Proofs.YtekbmehgcofnkaaGreat Told
structure OkM (es:List MapEntry) (cl:Nat):Prop where
 born:(es.map (·.born)).Nodup
 low:∀ e∈es,e.born<cl
 keys:(es.map Ke).Nodup
theorem QGp{k:List Int}:∀{es:List MapEntry} {i:Nat},Kv k es i=none->∀ e∈es,Ke e≠k
 | [],_,_,e,h=>by cases h
 | x::es,i,h,e,he=>by
  simp only[Kv]at h;cases hx:Ke x==k with
  | true=>rw[hx]at h;cases h
  | false=>
   rw[hx]at h;rcases List.mem_cons.1 he with rfl|he
   .simpa using hx
   .exact QGp h e he
theorem QSN(kv v:Value):∀(es:List MapEntry) (i:Nat),(VO kv v es i).map (·.born)=es.map (·.born)
 | [],i=>by cases i<;>rfl
 | e::es,0=>rfl
 | e::es,i+1=>by simp only[VO,List.map_cons,QSN kv v es i]
theorem QL6{k:List Int}{kv v:Value}(hk:∀ e:MapEntry,e.key=kv->Ke e=k):∀{es:List MapEntry} {i j:Nat} {u:Value},Kv k es i=some (j,u)->(VO kv v es (j-i)).map Ke=es.map Ke
 | [],_,_,_,h=>by cases h
 | e::es,i,j,u,h=>by
  simp only[Kv]at h;cases hx:Ke e==k with
  | true=>
   rw[hx]at h;simp only[qsI,qpI]at h;obtain⟨rfl,rfl⟩:=h;rw[Nat.sub_self];simp only[VO,List.map_cons];rw[hk _ rfl,beq_iff_eq.1 hx]
  | false=>
   rw[hx]at h;have h1:=(QBn h).1;have:=QL6 hk h (v:=v);rw[show j-i=(j-(i+1))+1 by omega]
   simp only[VO,List.map_cons,this]
variable {es:List MapEntry}{e:MapEntry}
theorem Qhi{k:List Int}{kv v:Value}(hk:∀ e:MapEntry,e.key=kv->Ke e=k){cl:Nat}(h:OkM es cl):OkM (JH k kv v cl es) (clL k cl es):=by
 unfold JH clL;cases hf:Kv k es 0 with
 | some q=>
  obtain⟨i,u⟩:=q;have hb:=QSN kv v es i;refine⟨by rw[hb];exact h.born,λe he=>?_,?_⟩
  .have:e.born∈(VO kv v es i).map (·.born):=List.mem_map_of_mem he;rw[hb]at this;obtain⟨e',he',hbe⟩:=List.mem_map.1 this;rw[<-hbe];exact h.low e' he'
  .have:=QL6 hk hf (v:=v);rw[Nat.sub_zero]at this;show((VO kv v es i).map Ke).Nodup;rw[this];exact h.keys
 | none=>
  refine⟨?_,λe he=>?_,?_⟩
  .show((es++[({ key:=kv,val:=v,born:=cl }:MapEntry)]).map (·.born)).Nodup;rw[List.map_append,List.nodup_append];refine⟨h.born,by simp,λa ha b hb=>?_⟩
   obtain⟨e,he,rfl⟩:=List.mem_map.1 ha;have:b=cl:=by simpa using hb
   have:=h.low e he;omega
  .rcases List.mem_append.1 he with he|he
   .exact Nat.lt_succ_of_lt (h.low e he)
   .rw[List.mem_singleton.1 he];exact Nat.lt_succ_self _
  .show((es++[({ key:=kv,val:=v,born:=cl }:MapEntry)]).map Ke).Nodup;rw[List.map_append,List.nodup_append];refine⟨h.keys,by simp,λa ha b hb=>?_⟩
   obtain⟨e,he,rfl⟩:=List.mem_map.1 ha
   have hb:b=k:=by
    have:b=Ke { key:=kv,val:=v,born:=cl }:=by simpa using hb
    rw[this];exact hk _ rfl
   rw[hb];exact QGp hf e he
theorem vG:∀{es:List MapEntry} {e:MapEntry},(es.map (·.born)).Nodup->e∈es->es.find? (·.born==e.born)=some e
 | [],_,_,h=>by cases h
 | x::es,e,hn,h=>by
  rw[List.map_cons,List.nodup_cons]at hn;rw[List.find?_cons];rcases List.mem_cons.1 h with rfl|h
  .simp
  .have:(x.born==e.born)=false:=by
    rw[beq_eq_false_iff_ne];intro q;exact hn.1 (q ▸ List.mem_map_of_mem h)
   rw[this];exact vG hn.2 h
theorem QMq{j:Nat}(h:j<es.length):es.getD j noE∈es:=by
 rw[JL h];exact List.getElem_mem h
structure XR (es:List MapEntry) (S:List Nat):Prop where
 nd:S.Nodup
 sub:∀ b∈S,b∈es.map (·.born)
theorem QDY{S:List Nat}(h:XR es S):S.length<=es.length:=by
 have:=h.nd.length_le_of_subset h.sub;simpa using this
theorem QTO{S:List Nat}(h:XR es S)(he:e∈es)(hn:e.born ∉ S):XR es (S++[e.born]):=by
 refine⟨?_,λb hb=>?_⟩
 .rw[List.nodup_append];refine⟨h.nd,by simp,λa ha b hb=>?_⟩
  have:b=e.born:=by simpa using hb
  subst this;intro q;subst q;exact hn ha
 .rcases List.mem_append.1 hb with hb|hb
  .exact h.sub b hb
  .rw[List.mem_singleton.1 hb];exact List.mem_map_of_mem he
theorem QOS(hb:(es.map (·.born)).Nodup)(S:List Nat)(he:e∈es):QM es (S++[e.born])=e/\YN es (S++[e.born])=true:=by
 have hl:(S++[e.born]).getLast? = some e.born:=by simp
 unfold QM YN;rw[hl];simp only;rw[vG hb he];refine⟨rfl,?_⟩;rw[List.any_eq_true];exact⟨e,he,by simp⟩
theorem QhS{S:List Nat}(hb:(es.map (·.born)).Nodup)(h:XR es S)(ha:ZW es S):S.Perm (es.map (·.born)):=by
 rw[List.perm_ext_iff_of_nodup h.nd hb];intro a;refine⟨h.sub a,λq=>?_⟩;obtain⟨e,he,rfl⟩:=List.mem_map.1 q;exact ha e he
end Go.SX
namespace Go.Proofs.YtekbmehgcofnkaaGreat
open Go.SX Go.SX.Told
variable {e:MapEntry}(d:Puz)(E:ECt)(m:Int)(o:List Jn)(S:List Nat)
theorem Qhm{E:ECt}(hb:(E.1.map (·.born)).Nodup)(m:Int)(S:List Nat)(he:e∈E.1):Qt E m (S++[e.born])=Qt E m S++VY m e:=by
 unfold Qt;rw[List.flatMap_append];congr 1;show WL E m e.born++[]=_;rw[List.append_nil];unfold WL;rw[vG hb he]
theorem QNm(e:MapEntry):(VY m e).length<=1:=by
 unfold VY;cases decide (m<=intV e.val)&&decide (QR e 0<QR e 2)<;>simp
theorem QJh(E:ECt)(m:Int):∀ S:List Nat,(Qt E m S).length<=S.length
 | []=>qlr _
 | b::S=>by
  have h:=QJh E m S
  have h1:(WL E m b).length<=1:=by
   unfold WL;split
   .exact QNm _ _
   .exact Nat.zero_le _
  show(WL E m b++Qt E m S).length<=_;rw[List.length_append,List.length_cons];omega
theorem QRQ(x:Jn):QB 4 (o.length+1) (Q9 o.length (λi=>QA.enc (o.getD i ⟨0,0,0,0⟩)) (KI [[.int false .i64 x.a,.int false .i64 x.i,.int false .i64 x.b,.int false .i64 x.j]] 0)) λi=>QA.enc ((o++[x]).getD i ⟨0,0,0,0⟩):=by
 intro i hi
 by_cases h:i<o.length
 .have e:(o++[x]).getD i ⟨0,0,0,0⟩=o.getD i ⟨0,0,0,0⟩:=by
   rw[List.getD_eq_getElem?_getD,List.getD_eq_getElem?_getD,List.getElem?_append_left h]
  show eqF 4 0 _ (QA.enc ((o++[x]).getD _ ⟨0,0,0,0⟩));rw[e];refine⟨?_,?_,?_,?_,trivial⟩<;>(rw[XP,if_pos h])
 .have hi:i=o.length:=by omega
  subst hi
  have e:(o++[x]).getD o.length ⟨0,0,0,0⟩=x:=by
   rw[List.getD_eq_getElem?_getD,List.getElem?_append_right (qlr _)];simp
  show eqF 4 0 _ (QA.enc ((o++[x]).getD _ ⟨0,0,0,0⟩));rw[e];refine⟨?_,?_,?_,?_,trivial⟩<;>(rw[XP,if_neg h,Nat.sub_self];rfl)
def jnI:JSt:=cond (Qt E m S).isEmpty (GE E m S) (jnJ E m S (Qt E m S))
def jnD:JSt:=cond o.isEmpty (QDr E) (jnE E o)
def jnR(_:List Nat)(e:Ex)(J:JSt):Prop:=e = .exit 0/\∃ T,XR E.1 T/\ZW E.1 T/\J=jnD E (Qt E m T)
theorem H3{E:ECt}{m:Int}{S:List Nat}(h:(Qt E m S).isEmpty=false):jnI E m S=jnJ E m S (Qt E m S):=by unfold jnI;rw[h];rfl
theorem QGc{E:ECt}{m:Int}{S:List Nat}(h:(Qt E m S).isEmpty=true):jnI E m S=GE E m S:=by unfold jnI;rw[h];rfl
set_option maxHeartbeats 1000000 in
theorem Qfx(hw:WfE E)(hE:OkM E.1 E.2)(hl:E.1.length<=1000000000):J3 (jnI E m) (XR E.1) (λS=>E.1.length-S.length) (jnR E m) 216 QH7 [201] (mkF prog Yi) (λ_=>hnd (mkF prog Yi) 1) (QI f89 0):=by
 refine⟨λS g hS=>?_⟩;have hS:XR E.1 S:=hS;have hw:wf4 .i64 E.1=true:=hw;have hS1:=QDY hS;have hS2:=QJh E m S
 have fact:∀ g0:Nat->Value,GU E.1 S (nxI g0)->∃ e,e=E.1.getD (nxI g0) noE/\e∈E.1/\QM E.1 (S++[e.born])=e/\YN E.1 (S++[e.born])=true/\XR E.1 (S++[e.born])/\S.length+1<=E.1.length/\Qt E m (S++[e.born])=Qt E m S++VY m e/\E.1.length-(S++[e.born]).length<E.1.length-S.length:=by
  rintro g0 ⟨hj,hn⟩;have hm:=QMq hj;obtain⟨hc,hh⟩:=QOS hE.born S hm;have hS':=QTO hS hm hn;have hlen:=QDY hS';rw[List.length_append,List.length_singleton]at hlen;exact⟨_,rfl,hm,hc,hh,hS',hlen,Qhm hE.born m S hm,by rw[List.length_append,List.length_singleton];omega⟩
 have yes:∀ e:MapEntry,decide (intV e.2≥m)=true->decide (QR e 0<QR e 2)=true->VY m e=[jP e]:=λe h1 h2=>by
  unfold VY;rw[show decide (m<=intV e.val)=true from h1,h2];rfl
 have no1:∀ e:MapEntry,decide (intV e.2≥m)=false->VY m e=[]:=λe h1=>by
  unfold VY;rw[show decide (m<=intV e.val)=false from h1];rfl
 have no2:∀ e:MapEntry,decide (QR e 0<QR e 2)=false->VY m e=[]:=λe h2=>by
  unfold VY;rw[h2,Bool.and_false];rfl
 cases hem:(Qt E m S).isEmpty with
 | true=>
  rw[QGc hem];have hnil:Qt E m S=[]:=List.isEmpty_iff.1 hem;refine Qg (Qan E m S g) ?_;refine Qq ⟨hE.low,qlr _⟩ (Kf (Qh λha=>?_) (Qj λg0=>Qh λho=>?_))
  .refine⟨_,⟨rfl,S,hS,ha,rfl⟩,?_⟩;rw[show jnD E (Qt E m S)=QDr E by unfold jnD;rw[hem];rfl]
   refine⟨rfl,rfl,_,QUc E,?_⟩
   repeat' first|with_reducible refine QP ?_ ?_|exact tv|exact Nat.le_refl _|refine aI ?_ ?_
  .obtain⟨e,he,hm,hc,hh,hS',hlen,hJ,hmu⟩:=fact g0 ho;subst he;rw[hnil,List.nil_append]at hJ;have hc':QM E.1 (S++[(E.1.getD (nxI g0) noE).3])=E.1.getD (nxI g0) noE:=hc;refine QG (by rw[show YN E.1 (S++[(E.1.getD (nxI g0) noE).3])=true from hh,hw];simp) ?_
   refine QF (λh1=>QF (λh2=>?_) (λh2=>?_)) (λh1=>?_)
   .rw[yes _ (hc' ▸ h1) (hc' ▸ h2)]at hJ;refine⟨S++[(E.1.getD (nxI g0) noE).born],hS',hmu,λ_ _ r=>r,?_⟩;rw[H3 (by rw[hJ];rfl),hJ]
    refine⟨rfl,rfl,_,QWy E m S _ _ g0,?_⟩
    repeat' first|with_reducible refine QP ?_ ?_|exact tv|exact Nat.le_refl _|exact rfl|(intro i hi x hx r;obtain rfl:i=0:=(by simpa using hi);simp only[List.getElem?_cons_zero,qsI]at hx;subst hx;rw[hc'];rfl)|refine aI ?_ ?_
   .rw[no2 _ (hc' ▸ h2)]at hJ;refine⟨S++[(E.1.getD (nxI g0) noE).born],hS',hmu,λ_ _ r=>r,?_⟩;rw[QGc (by rw[hJ];rfl)]
    refine⟨rfl,rfl,_,Qdb E m S _ g0,?_⟩
    repeat' first|with_reducible refine QP ?_ ?_|exact tv|exact Nat.le_refl _|refine aI ?_ ?_
   .rw[no1 _ (hc' ▸ h1)]at hJ;refine⟨S++[(E.1.getD (nxI g0) noE).born],hS',hmu,λ_ _ r=>r,?_⟩;rw[QGc (by rw[hJ];rfl)]
    refine⟨rfl,rfl,_,QgH E m S _ g0,?_⟩
    repeat' first|with_reducible refine QP ?_ ?_|exact tv|exact Nat.le_refl _|refine aI ?_ ?_
 | false=>
  rw[H3 hem];refine Qg (QUZ E m S (Qt E m S) g) ?_;refine Qq ⟨hE.low,qlr _⟩ (Kf (Qh λha=>?_) (Qj λg0=>Qh λho=>?_))
  .refine⟨_,⟨rfl,S,hS,ha,rfl⟩,?_⟩;rw[show jnD E (Qt E m S)=jnE E (Qt E m S) by unfold jnD;rw[hem];rfl]
   refine⟨rfl,rfl,_,QgU E (Qt E m S) (Qt E m S),?_⟩
   repeat' first|with_reducible refine QP ?_ ?_|exact tv|exact Nat.le_refl _|exact qRr|refine aI ?_ ?_
  .obtain⟨e,he,hm,hc,hh,hS',hlen,hJ,hmu⟩:=fact g0 ho;subst he;have hc':QM E.1 (S++[(E.1.getD (nxI g0) noE).3])=E.1.getD (nxI g0) noE:=hc
   have hne:(Qt E m (S++[(E.1.getD (nxI g0) noE).born])).isEmpty=false:=by
    rw[hJ];cases h:Qt E m S with
    | nil=>rw[h]at hem;cases hem
    | cons a l=>rfl
   refine QG (by rw[show YN E.1 (S++[(E.1.getD (nxI g0) noE).3])=true from hh,hw];simp) ?_
   refine QF (λh1=>QF (λh2=>QG (by simp;omega) ?_) (λh2=>?_)) (λh1=>?_)
   .rw[yes _ (hc' ▸ h1) (hc' ▸ h2)]at hJ;have hl1:(Qt E m S).length+1=(Qt E m (S++[(E.1.getD (nxI g0) noE).born])).length:=by rw[hJ];simp
    have hr:=QRQ (Qt E m S) (jP (QM E.1 (S++[(E.1.getD (nxI g0) noE).3])));rw[show Qt E m S++[jP (QM E.1 (S++[(E.1.getD (nxI g0) noE).3]))]=Qt E m (S++[(E.1.getD (nxI g0) noE).born]) by rw[hc',hJ],hl1]at hr
    refine⟨S++[(E.1.getD (nxI g0) noE).born],hS',hmu,λ_ _ r=>r,?_⟩;rw[H3 hne];refine⟨rfl,rfl,_,QcV E m S _ (Qt E m S) _ g0,?_⟩
    repeat' first|with_reducible refine QP ?_ ?_|exact tv|exact Nat.le_refl _|exact qRr|exact hl1|exact Nat.le_of_eq hl1|exact Nat.le_of_eq hl1.symm|exact hr|refine aI ?_ ?_
   .rw[no2 _ (hc' ▸ h2),List.append_nil]at hJ;refine⟨S++[(E.1.getD (nxI g0) noE).born],hS',hmu,λ_ _ r=>r,?_⟩;rw[H3 hne,hJ];refine⟨rfl,rfl,_,QWg E m S _ (Qt E m S) _ g0,?_⟩
    repeat' first|with_reducible refine QP ?_ ?_|exact tv|exact Nat.le_refl _|exact qRr|refine aI ?_ ?_
   .rw[no1 _ (hc' ▸ h1),List.append_nil]at hJ;refine⟨S++[(E.1.getD (nxI g0) noE).born],hS',hmu,λ_ _ r=>r,?_⟩;rw[H3 hne,hJ];refine⟨rfl,rfl,_,QV4 E m S _ (Qt E m S) _ g0,?_⟩
    repeat' first|with_reducible refine QP ?_ ?_|exact tv|exact Nat.le_refl _|exact qRr|refine aI ?_ ?_
def QB5:Prop:=XR E.1 S/\ZW E.1 S
abbrev joH(P:Program)(E:ECt)(m:Int):Hnd:={ hnd (mkF P Yi) 3 with loop:=λ_=>QFu 216 [201] (GE E m []) λg=>[(QB5 E (natsG g)/\Qt E m (natsG g)=[],.exit 0,QDr E),(QB5 E (natsG g)/\0<(Qt E m (natsG g)).length,.exit 0,jnE E (Qt E m (natsG g)))] }
def joU(n:Nat)(E:ECt)(m:Int)(v:List Jn):UC:=⟨208,⟨2,[(0,.ptr 200 0 0),(1,.int false .i64 m)],brR d n++[(201,.mp E.1 E.2)],216⟩,λk=>.slz k 0 v.length (.of 0),λk=>[(201,.mp E.1 E.2),rwJ true k v]⟩
theorem QcY(n:Nat)(E:ECt)(m:Int)(v:List Jn):VQ (mkF prog Yi) (joH prog E m) f89 (joU d n E m v) = .ak [m=m,201=201,0=0,E.2=E.2,([]:List Nat)=[],E.2=E.2,E.1=E.1,E.2=E.2] (.all (λ(g0:Nat->Value)=>.both (.asm (QB5 E (natsG g0)/\Qt E m (natsG g0)=[]) (.all (λ(g1:Nat->Value)=>.need (true) (.leaf (.nils) ([(201,.mp E.1 E.2)]))))) (.asm (QB5 E (natsG g0)/\0<(Qt E m (natsG g0)).length) (.all (λ(g2:Nat->Value)=>.need (decide (0<(Qt E m (natsG g0)).length/\(Qt E m (natsG g0)).length<=(Qt E m (natsG g0)).length)) (.need (true&&(decide ((Qt E m (natsG g0)).length<=(Qt E m (natsG g0)).length)&&decide ((0+(Qt E m (natsG g0)).length+(0+(Qt E m (natsG g0)).length) / 4+192)*32<=281474976710656/\0+(Qt E m (natsG g0)).length<=9223372036854775807))) (.need (decide (0+(Qt E m (natsG g0)).length=0+(Qt E m (natsG g0)).length)&&decide (0+(Qt E m (natsG g0)).length<4611686018427387904)) (.leaf (.slz 336 0 (0+(Qt E m (natsG g0)).length) cO) ([(201,.mp E.1 E.2),(336,.rowz true 67 (waZ) (0+(Qt E m (natsG g0)).length) (ZD (0+(Qt E m (natsG g0)).length) (Q9 0 (λx x_1=>(0:Int)) λi=>QA.enc ((Qt E m (natsG g0)).getD i (Jn.mk (0:Int) (0:Int) (0:Int) (0:Int))))))]))))))))):=by kernel_rfl
theorem QeX(n:Nat)(E:ECt)(m:Int)(v:List Jn):QE 216 [(AV.nils)] ([((201:Nat),Blk.mp E.1 E.2)]) (KR (joU d n E m v))=( some [v.length=(0:Nat),E.1=E.1,E.2=E.2,v.length=(0:Nat)]):=by kernel_rfl
theorem QdK(n:Nat)(E:ECt)(m:Int)(v:List Jn)(g0:Nat->Value):QE 216 [(AV.slz (336:Nat) (0:Nat) ((0:Nat)+(Qt E m (natsG g0)).length) cO)] ([((201:Nat),Blk.mp E.1 E.2),((336:Nat),Blk.rowz true (67:Nat) [CK.int i64,CK.int i64,CK.int i64,CK.int i64] ((0:Nat)+(Qt E m (natsG g0)).length) (ZD ((0:Nat)+(Qt E m (natsG g0)).length) (Q9 (0:Nat) (λx x_1=>(0:Int)) λi=>QA.enc ((Qt E m (natsG g0)).getD i (Jn.mk (0:Int) (0:Int) (0:Int) (0:Int))))))]) (KR (joU d n E m v))=( some [0=0,(0:Nat)+(Qt E m (natsG g0)).length=v.length,cO=cO,E.1=E.1,E.2=E.2,v.length<=(0:Nat)+(Qt E m (natsG g0)).length,QB (4:Nat) v.length (ZD ((0:Nat)+(Qt E m (natsG g0)).length) (Q9 (0:Nat) (λx x_1=>(0:Int)) λi=>QA.enc ((Qt E m (natsG g0)).getD i (Jn.mk (0:Int) (0:Int) (0:Int) (0:Int))))) λi=>QA.enc (v.getD i (Jn.mk (0:Int) (0:Int) (0:Int) (0:Int)))]):=by kernel_rfl
open Go.SX Go.SX.Told Go.Sort
variable {l:List Jn}{c:Nat}(d:Puz)(E:ECt)(m:Int)(o:List Jn)
def Km:List Jn:=E.1.flatMap (VY m)
theorem QMT{E:ECt}(hb:(E.1.map (·.born)).Nodup)(m:Int){S:List Nat}(h:QB5 E S):(Qt E m S).Perm (Km E m):=by
 have h1:=(QhS hb h.1 h.2).flatMap_right (WL E m);refine h1.trans (List.Perm.of_eq ?_);unfold Km;rw[List.flatMap_map]
 have:∀ l:List MapEntry,(∀ e∈l,e∈E.1)->l.flatMap (λe=>WL E m e.born)=l.flatMap (VY m):=by
  intro l
  induction l with
  | nil=>intro _;rfl
  | cons e l ih=>
   intro hl;rw[List.flatMap_cons,List.flatMap_cons,ih λx hx=>hl x (List.mem_cons_of_mem _ hx)];congr 1;unfold WL;rw[vG hb (hl e qmc)]
 exact this _ λ_ h=>h
def leJ(x y:Jn):Bool := !(ltOf Vp) y x
theorem QMx(a b c:Jn)(h1:leJ a b=true)(h2:leJ b c=true):leJ a c=true:=by
 unfold leJ at *;rw[Bool.not_eq_true']at *;exact QBZ.ntrans c b a h2 h1
theorem QLP(a b:Jn):(leJ a b||leJ b a)=true:=by
 unfold leJ;cases h:ltOf Vp b a with
 | false=>rfl
 | true=>
  cases h2:ltOf Vp a b with
  | false=>rfl
  | true=>
   have:=QBZ.trans _ _ _ h h2;rw[QBZ.irrefl]at this;cases this
theorem QT3{l':List Jn}(h:l.Perm l'):KT l=KT l':=by
 unfold KT;refine List.Perm.eq_of_pairwise (le:=λa b=>leJ a b=true) ?_ (List.pairwise_mergeSort (le:=leJ) QMx QLP l) (List.pairwise_mergeSort (le:=leJ) QMx QLP l') (((List.mergeSort_perm l _).trans h).trans (List.mergeSort_perm l' _).symm);intro a b _ _ h1 h2;unfold leJ at h1 h2;rw[Bool.not_eq_true']at h1 h2;exact QLv a b h2 h1
theorem QbV:(List.range (0+o.length)).map (X4 (Q9 0 (λ_ _=>0) λi=>QA.enc (o.getD i ⟨0,0,0,0⟩)))=o:=by
 apply List.ext_getElem
 .simp
 .intro i h1 h2;rw[List.getElem_map,List.getElem_range]
  have e:∀ j,Q9 0 (λ_ _=>0) (λi=>QA.enc (o.getD i ⟨0,0,0,0⟩)) i j=QA.enc (o.getD i (⟨0,0,0,0⟩:Jn)) j:=λj=>by
   rw[XP,if_neg (by omega),Nat.sub_zero]
  unfold X4;rw[e,e,e,e,JL h2];rfl
theorem KZ(N M k nid:Nat)(h:N<=M):Je N M nid (M+k)=nid+k:=by
 have:Nat.blt (M+k) N=false:=QAJ (by omega)
 simp only[Je,this];omega
theorem QhP(hw:WfE E)(hE:OkM E.1 E.2)(hl:E.1.length<=1000000000)(G:Ctx)(hrd:G.rd=none)(hG:G.n<=216):Qx (mkF prog Yi) G (joH prog E m) (Ql f89):=by
 refine KO (body:=QI f89 0) (K3 QCc) hrd (by kernel_rfl) ?_
 refine QdB (I:=jnI E m) (n0:=216) (K3 QCc) hG (λS _=>Qw (K3 QCc) 1 G _ hrd) (λS _=>?_) ?_ (Qfx E m hw hE hl) (s0:=[]) ⟨List.nodup_nil,λb h=>(by cases h)⟩ ?_
 .unfold jnI;cases (Qt E m S).isEmpty<;>exact(by decide:216<=272)
 .rintro s e J ⟨_,T,_,_,rfl⟩;unfold jnD;cases (Qt E m T).isEmpty<;>exact(by decide:216<=272)
 .rintro e J ⟨rfl,T,h1,h2,rfl⟩;obtain⟨g,hg⟩:=QVO T;refine⟨g,?_⟩;unfold jnD;rw[hg];cases h:(Qt E m T).isEmpty with
  | true=>exact⟨_,qmc,⟨⟨h1,h2⟩,List.isEmpty_iff.1 h⟩,rfl,rfl⟩
  | false=>
   refine⟨_,List.mem_cons_of_mem _ qmc,⟨⟨h1,h2⟩,?_⟩,rfl,rfl⟩;cases hh:Qt E m T with
   | nil=>rw[hh]at h;cases h
   | cons a l=>exact Nat.succ_pos _
theorem QcL(n:Nat)(E:ECt)(m:Int)(v:List Jn):(joU d n E m v).Ok:=by
 refine⟨(by decide:208<=216),rfl,rfl,?_,rfl,λnid h=>?_,λnid h=>?_⟩
 .intro q hq;simp only[UC.po,joU,rwJ,List.mem_cons,List.not_mem_nil,or_false]at hq;rcases hq with rfl|rfl
  .exact⟨rfl,rfl,rfl,λ_=>rfl⟩
  .exact⟨rfl,rfl,rfl,λh=>absurd (show 216<208 from h) (by decide)⟩
 .have e0:=KZ 208 216 0 nid (by decide)
  simp only[UC.va,joU,AV.mapId,Nat.add_zero]at e0 ⊢;rw[e0]
 .have e0:=KZ 208 216 0 nid (by decide)
  simp only[UC.po,joU,rwJ,List.map_cons,List.map_nil,Blk.mapId,Nat.add_zero]at e0 ⊢;rw[e0];rfl
theorem QIK(n:Nat)(E:ECt)(m:Int)(hw:WfE E)(hE:OkM E.1 E.2)(hl:E.1.length<=1000000000):QS prog 89 (uFC (joU d n E m (KT (Km E m)))):=by
 refine Ky (E:=mkF prog Yi) (K3 QCc) func89 (by kernel_rfl) (by kernel_rfl) (QcL ..) (λG h1 h2=>QhP E m hw hE hl G h1 (by rw[h2];exact qlr _)) ⟨?_⟩
 refine Qg (QcY d n E m (KT (Km E m))) ?_
 repeat' first|refine Qq (p:=_=_) rfl ?_
 refine Qj λg0=>Kf (Qh λha=>Qj λ_=>QG rfl ?_) (Qh λha=>Qj λ_=>?_)
 .have hp:=QMT hE.born m ha.1;rw[ha.2]at hp;have hnil:=List.Perm.eq_nil hp.symm;refine⟨rfl,rfl,_,QeX d n E m (KT (Km E m)),?_⟩;rw[hnil]
  repeat' first|exact QAo _|exact(QAo _).symm|exact tv|exact rfl|refine aI ?_ ?_
 .have hp:=QMT hE.born m ha.1;have hs:=QT3 hp;have h1:=QDY ha.1.1;have h2:=QJh E m (natsG g0);have hlen:0+(Qt E m (natsG g0)).length=(KT (Km E m)).length:=by rw[<-hs,QAo,Nat.zero_add]
  have hr:∀ k,QB 4 k (ZD (0+(Qt E m (natsG g0)).length) (Q9 0 (λ_ _=>0) λi=>QA.enc ((Qt E m (natsG g0)).getD i ⟨0,0,0,0⟩))) λi=>QA.enc ((KT (Km E m)).getD i ⟨0,0,0,0⟩):=by
   intro k i _;show eqF 4 0 (QA.enc ((KT _).getD i (⟨0,0,0,0⟩:Jn))) _;rw[QbV,hs];exact⟨rfl,rfl,rfl,rfl,trivial⟩
  have hpos:=ha.2;refine QG (by simp;omega) (QG (by simp;omega) (QG (by simp;omega) ?_))
  refine⟨rfl,rfl,_,QdK d n E m (KT (Km E m)) g0,?_⟩
  repeat' first|exact tv|exact hlen|exact Nat.le_of_eq hlen|exact Nat.le_of_eq hlen.symm|exact hr _|exact rfl|refine aI ?_ ?_
def QH0(k:Int)(A B:FC):FC:=λargs nid all=>match args with
 | [_,.int _ _ m]=>(match decide (m=k)with
  | true=>A args nid all
  | false=>B args nid all)
 | _=>([],λ_=>none)
theorem QWu{P:Program}{f:FuncId}{k:Int}{A B:FC}(hA:QS P f A)(hB:QS P f B):QS P f (QH0 k A B):=by
 refine⟨hA.1,λargs nid all r w lk blks eff hH ha hv he hp=>?_⟩;unfold QH0 at hv he;split at he<;>(try (cases he;done))
 rename_i m;simp only at hv;cases hd:decide (m=k)with
 | true=>
  rw[hd]at hv he;exact hA.2 _ nid all r w lk blks eff hH ha hv he hp
 | false=>
  rw[hd]at hv he;exact hB.2 _ nid all r w lk blks eff hH ha hv he hp
def QBH(pb:List Prop->Bool)(d:Puz)(E:ECt)(v w:List Jn):Tab:=Qa (Qa KJ 60 (KG pb (nbU d E))) 89 (QH0 2 (KG pb (joU d 0 E 2 v)) (KG pb (joU d 0 E 1 w)))
theorem Qa3(pb:List Prop->Bool)(d:Puz)(E:ECt)(v w:List Jn):Kn (mkE prog (QBH pb d E v w)) (hnd (mkE prog (QBH pb d E v w)) 2) f40 (Qe.vals 0 ((d,()):Puz×Unit)) (Qe.blks 0 ((d,()):Puz×Unit)) 104 = .need (decide (d.ps.n<=d.ps.n)&&true&&decide (d.ps.n<=1000)) (.br (!d.ok) (.leaf (.tup [.nils,.nils,vj 1]) ([])) (.need (pb ((wab d++([cO=cO]++wae d)))) (.need (pb (([0=0,0=0,(2:Int)=2]++wab d++([cO=cO,0=0]++wae d++[E.1=E.1,E.2=E.2])))) (.need (pb (([0=0,0=0,(1:Int)=1]++wab d++([cO=cO,0=0]++wae d++[E.1=E.1,E.2=E.2])))) (.leaf (.tup [.slz 288 0 v.length cO,.slz 304 0 w.length cO,vj 0]) ([(288,.rowz true 67 (waZ) v.length λi=>QA.enc (v.getD i (Jn.mk (0:Int) (0:Int) (0:Int) (0:Int)))),(304,.rowz true 67 (waZ) w.length λi=>QA.enc (w.getD i (Jn.mk (0:Int) (0:Int) (0:Int) (0:Int))))])))))):=by kernel_rfl
def QDS(v w:List Jn)(e:Int):AV := .tup [.slz 0 0 v.length (.of 0),.slz 1 0 w.length (.of 0),.int false .i64 e]
def QAX(v w:List Jn):List (Nat×Blk):=[rwJ true 0 v,rwJ true 1 w]
theorem QdI(v w:List Jn)(e:Int):QE 104 [(AV.tup [AV.nils,AV.nils,vj (1:Int)])] ([]) (KN 104 (QDS v w e) (QAX v w))=( some [v.length=(0:Nat),w.length=(0:Nat),(1:Int)=e,v.length=(0:Nat),w.length=(0:Nat)]):=by kernel_rfl
theorem QXM(v w v' w':List Jn)(e:Int):QE 104 [(AV.tup [AV.slz (288:Nat) (0:Nat) v.length cO,AV.slz (304:Nat) (0:Nat) w.length cO,vj (0:Int)])] ([((288:Nat),Blk.rowz true (67:Nat) [CK.int i64,CK.int i64,CK.int i64,CK.int i64] v.length λi=>QA.enc (v.getD i (Jn.mk (0:Int) (0:Int) (0:Int) (0:Int)))),((304:Nat),Blk.rowz true (67:Nat) [CK.int i64,CK.int i64,CK.int i64,CK.int i64] w.length λi=>QA.enc (w.getD i (Jn.mk (0:Int) (0:Int) (0:Int) (0:Int))))]) (KN 104 (QDS v' w' e) (QAX v' w'))=( some [0=0,v.length=v'.length,cO=cO,0=0,w.length=w'.length,cO=cO,(0:Int)=e,v'.length<=v.length,QB (4:Nat) v'.length (λi=>QA.enc (v.getD i (Jn.mk (0:Int) (0:Int) (0:Int) (0:Int)))) λi=>QA.enc (v'.getD i (Jn.mk (0:Int) (0:Int) (0:Int) (0:Int))),w'.length<=w.length,QB (4:Nat) w'.length (λi=>QA.enc (w.getD i (Jn.mk (0:Int) (0:Int) (0:Int) (0:Int)))) λi=>QA.enc (w'.getD i (Jn.mk (0:Int) (0:Int) (0:Int) (0:Int)))]):=by kernel_rfl
structure OkE (E:ECt) (c:Nat):Prop where
 w:WfE E
 m:OkM E.1 E.2
 l:E.1.length<=c
theorem Qat(k:List Int)(kv v:Value)(cl:Nat)(es:List MapEntry):(JH k kv v cl es).length<=es.length+1:=by
 have hs:∀(es:List MapEntry) (i:Nat),(VO kv v es i).length=es.length:=by
  intro es
  induction es with
  | nil=>intro i;cases i<;>rfl
  | cons e es ih=>intro i;cases i with
   | zero=>rfl
   | succ i=>simp only[VO,List.length_cons,ih]
 unfold JH;split
 .rw[hs];exact Nat.le_succ _
 .simp
theorem QcX{E:ECt}(h:OkE E c)(i s k t:Nat)(n:Int):OkE (QDH i s k t n E) (c+1):=
 ⟨QMk h.w ..,Qhi (λe he=>GK he) h.m,Nat.le_trans (Qat ..) (Nat.succ_le_succ h.l)⟩
theorem QBW{E:ECt}{c':Nat}(h:OkE E c)(hc:c<=c'):OkE E c':=⟨h.w,h.m,Nat.le_trans h.l hc⟩
theorem Qeu{d:Puz}{p q:QX}{i k s t:Nat}{E:ECt}(h:OkE E c):OkE (stE d p q i k s t E) (c+1):=by
 unfold stE;cases ((i:Int) != (k:Int))&&(meF d p q s t != 0)
 .exact QBW h (Nat.le_succ _)
 .exact QcX h ..
theorem QLy{d:Puz}{p q:QX}{i k s:Nat}{E:ECt}{c:Nat}(h:OkE E c):∀ t,OkE (m4 d p q i k s E t) (c+t)
 | 0=>h
 | t+1=>Qeu (QLy h t)
theorem QMV{d:Puz}{p q:QX}{i k:Nat}{E:ECt}{c:Nat}(h:OkE E c):∀ s,OkE (m3 d p q i k E s) (c+4*s)
 | 0=>h
 | s+1=>QBW (QLy (QMV h s) 4) (by omega)
theorem QPT{d:Puz}{p:QX}{i:Nat}{E:ECt}{c:Nat}(h:OkE E c):∀ k,OkE (m2 d p i E k) (c+16*k)
 | 0=>h
 | k+1=>QBW (QMV (QPT h k) 4) (by omega)
theorem QN6(d:Puz):∀ i,OkE (m1 d i) (16*d.ps.n*i)
 | 0=>⟨rfl,⟨List.nodup_nil,λe h=>(by cases h),List.nodup_nil⟩,Nat.zero_le _⟩
 | i+1=>QBW (QPT (QN6 d i) d.ps.n) (by rw[Nat.mul_succ];exact qlr _)
def QK:ECt:=m1 d d.ps.n
theorem Zo(hn:d.ps.n<=1000):OkE (QK d) 16000000:=QBW (QN6 d d.ps.n) (by
 have:=Nat.mul_le_mul (Nat.mul_le_mul (qlr 16) hn) hn;omega)
def W6:List Jn×List Jn×Int:=cond d.ok (KT (Km (QK d) 2),KT (Km (QK d) 1),0) ([],[],1)
def Zg:WF (Puz×Unit):=λ|(d,_)=>(decide (d.ps.n<=1000),QDS (W6 d).1 (W6 d).2.1 (W6 d).2.2,QAX (W6 d).1 (W6 d).2.1)
def QWd:FC:=wFC Zg
theorem Qdk:WOk (Zg (d,())).2.1 (Zg (d,())).2.2:=⟨rfl,by simp[Zg,QAX,rwJ,Blk.own,Blk.all],rfl⟩
theorem QUq(hn:d.ps.n<=1000):Qd (QBH QQ d (QK d) (KT (Km (QK d) 2)) (KT (Km (QK d) 1))):=by
 have h:=Zo d hn;have hl:=Nat.le_trans h.l (show 16000000<=1000000000 by decide)
 exact(JN.add (WI d (by omega))).add (QWu (QIK d 0 (QK d) 2 h.w h.m hl) (QIK d 0 (QK d) 1 h.w h.m hl))
theorem QZk(hx:(Zg (d,())).1=true):QS prog 40 (wFC (VW Zg (d,()))):=by
 have hn:d.ps.n<=1000:=qdt hx;have hT:=QUq d hn;refine Yh (c:=Ql f40) (E:=mkE prog (QBH QQ d (QK d) (KT (Km (QK d) 2)) (KT (Km (QK d) 1)))) (H:=hnd (mkE prog (QBH QQ d (QK d) (KT (Km (QK d) 2)) (KT (Km (QK d) 1)))) 2) (QO hT) func40 (by kernel_rfl) (by kernel_rfl) (N:=104) (by decide) (d,()) (λG h1 _=>Qw (QO hT) 2 G _ h1) (Qdk d) ?_
 refine Qg (Qa3 QQ d (QK d) (KT (Km (QK d) 2)) (KT (Km (QK d) 1))) ?_;have hv:W6 d=cond d.ok (KT (Km (QK d) 2),KT (Km (QK d) 1),0) ([],[],1):=rfl;refine QG ?_ ?_;rotate_left;refine QF (λb0=>?_) (λb0=>?_);have b0:d.ok=false:=by simpa using b0
 rw[b0,cond_false]at hv;simp only[Zg,hv];refine⟨rfl,rfl,_,QdI [] [] 1,?_⟩
 rotate_left
 iterate 3 (refine QG ?_ ?_;rotate_left)
 have b0:d.ok=true:=by simpa using b0
 rw[b0,cond_true]at hv;simp only[Zg,hv];refine⟨rfl,rfl,_,QXM (KT (Km (QK d) 2)) (KT (Km (QK d) 1)) (KT (Km (QK d) 2)) (KT (Km (QK d) 1)) 0,?_⟩
 rotate_left
 all_goals first|((with_reducible show _=true);(first|(refine KA.2 ?_;repeat' first|exact tv|exact qRr|exact rfl|refine aI ?_ ?_)|(simp;omega)))|(repeat' first|with_reducible refine QP ?_ ?_|exact tv|exact qRr|exact rfl|refine aI ?_ ?_)
theorem Qaw:QS prog 40 QWd:=zH (by kernel_rfl) λ|(d,()),hx=>QZk d hx
