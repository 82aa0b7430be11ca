/- - -/
import Derived.Test.YtekbmehgcofnkaaGreatKza
import Derived.Shelf.SlSortCmp.NoneTotal
set_option linter.all false
noncomputable section
open Go.Proofs.Tryz
open Go.IntKind (i64)
set_option maxRecDepth 100000
namespace Go.Proofs.YtekbmehgcofnkaaGreat
open Go Go.RowKit Go.Lib Go.Shelf Go.Sort Go.SX Go.SX.Told
variable {l:List Jn}
theorem QWs{w:World}{b m:Nat}{os:Array Obj}{l':List Jn}{rest:List Value}{ty:TypeId}(h:bk w b=some (.cells (l.flatMap K3++rest).toArray ty (0,0)))(hl:l.length=l'.length):
  bk (sortWorldK K3 4 w b 0 m l'.toArray os) b=some (.cells (l'.flatMap K3++rest).toArray ty (0,0))/\(∀ k,k<w.heap.size->k≠b->bk (sortWorldK K3 4 w b 0 m l'.toArray os) k=bk w k)/\w.heap.size<=(sortWorldK K3 4 w b 0 m l'.toArray os).heap.size:=by
 have hk:∀ x,(K3 x).length=4:=λ_=>rfl
 have hf:flatK K3 4 l'.toArray=(l'.flatMap K3).toArray:=by
  apply Array.ext';rw[QOH K3 4 hk]
 have hlen:(l.flatMap K3).length=(l'.flatMap K3).length:=by rw[W2 K3 4 hk,W2 K3 4 hk,hl]
 have hb:b<w.heap.size:=by
  unfold bk at h;exact(Array.getElem?_eq_some_iff.1 h).1
 unfold bk at h ⊢;unfold sortWorldK grow putRowK putRow mapBlock Sort.ahead;simp only[hf];refine⟨?_,λk hk1 hk2=>?_,by simp⟩
 .rw[Array.getElem?_append_left (by simpa using hb),Array.getElem?_modify,if_pos rfl,h]
  simp only[Option.map_some,onCells];rw[QMb _ _ _ hlen]
 .rw[Array.getElem?_append_left (by simpa using hk1),Array.getElem?_modify,if_neg (λe=>hk2 e.symm)]
theorem Qbm{w:World}{b:Nat}{rest:List Value}{ty:TypeId}(h:bk w b=some (.cells (l.flatMap K3++rest).toArray ty (0,0))):HoldsK K3 4 w b 0 l.toArray:=by
 have hk:∀ x,(K3 x).length=4:=λ_=>rfl;intro j hj;rw[size_flatK]at hj;have hj:j<l.length*4:=by simpa using hj
 have e:((flatK K3 4 l.toArray)[j]!)=(K3 l[j / 4]!)[j % 4]! := by
  rw[get_flatK K3 4 _ j (by simpa using hj)];simp
 refine⟨?_,?_⟩
 .rw[X7 h,Nat.zero_add,List.getElem?_append_left (by rw[W2 K3 4 hk];exact hj),QDB K3 4 hk l j hj,e]
  rfl
 .unfold World.frozen?;unfold bk at h;rw[h];simp
def QFZ:FC:=λargs _ _=>match args with
 | [.slz id 0 n _,.fn (.func f) []]=>([id],λbs=>match Nat.beq f 131,bs with
  | true,[.rowz true ty [.int .i64,.int .i64,.int .i64,.int .i64] n' g]=>some ⟨false,decide (n=n')&&decide (n<4611686018427387904),.tup [],[(id,.rowz true ty [.int .i64,.int .i64,.int .i64,.int .i64] n (Y2 n g))]⟩
  | _,_=>none)
 | [.nils,.fn (.func f) []]=>([],λbs=>match Nat.beq f 131,bs with
  | true,[]=>some ⟨false,true,.tup [],[]⟩
  | _,_=>none)
 | _=>([],λ_=>none)
theorem QBA(l:List Jn):(KN l).length=l.length:=by unfold KN;rw[List.length_mergeSort]
theorem Qbn:∀ w,(isAgg 67).run prog w = .ok true w:=Tryz.isAgg67
theorem QSy:∀ w,(Go.sizeOf 67).run prog w = .ok 4 w:=Tryz.sizeOf67
theorem QbP:QR prog 153 QFZ:=by
 have hnone:∀(p:Option Addr) (cap:Nat) (fv:Value) (w:World),Calls prog 153 #[.slice p 0 cap,fv] w λe w'=>e = .returned (.tuple #[])/\w'=w:=AnyF.slices_SortFunc_none Tryz.sortJn;refine⟨by kernel_rfl,λargs nid all r w lk blks eff hH _ hv he hp=>?_⟩
 unfold QFZ at hv he;split at he<;>(try (cases he;done))
 rotate_left
 .rename_i f hx;simp only at he;split at he<;>(try (cases he;done))
  rename_i hf;have hf:f=131:=qnb hf;subst hf;simp only[qsI]at he;subst he;refine(hnone none 0 (.func (.func 131) #[] #[]) w).mono ?_;rintro e w' ⟨rfl,rfl⟩;exact⟨r,rfl,λ_ _=>rfl,λp hp=>(by cases hp),⟨rfl,rfl,rfl,qlr _,qlr _,λ_ _ _=>rfl⟩,λp hp=>(by cases hp),λp hp=>(by cases hp),λp hp=>(by cases hp)⟩
 rename_i id n c f hx;simp only at he;split at he<;>(try (cases he;done))
 rename_i ty n' g hf;have hf:f=131:=qnb hf;subst hf;simp only[qsI]at he;subst he;simp only[qbA,qdE]at hp;obtain⟨hn,hlt⟩:=hp;subst hn;have hlk:lk id=some (.rowz true ty [.int .i64,.int .i64,.int .i64,.int .i64] n g):=by simpa using hv
 have hlk:lk id=some (.rowz true ty ksJ n g):=hlk;obtain⟨h0,h4,hfoot,hnil,hrow,hcells⟩:=(show Kh r id w ty ksJ.length n (QW ksJ g)from hH.rep _ _ hlk);have hout:=hH.out _ _ hlk;have hrow':∀ i,i<n->(QW ksJ (Y2 n g) i).length=ksJ.length/\JX (QW ksJ (Y2 n g) i)=true:=λi _=>⟨V3 _ _ _,Jy _ _ _⟩;cases hN:(r id).nil with
 | true=>
  have hz:=hnil hN;subst hz;refine(hnone ((r id).base 0) ((r id).room (c.den (r id).cap)) (.func (.func 131) #[] #[]) w).mono ?_;rintro e w' ⟨rfl,rfl⟩;refine⟨r,rfl,λ_ _=>rfl,?_,⟨rfl,rfl,rfl,qlr _,qlr _,λ_ _ _=>rfl⟩,?_,?_,?_⟩
  .intro p hp;rw[List.mem_singleton.1 hp];exact⟨h0,h4,hfoot,hnil,λi hi=>absurd hi (Nat.not_lt_zero _),λq=>by rw[hN]at q;cases q⟩
  .intro p hp hin;rw[List.mem_singleton.1 hp]at hin;rw[hout]at hin;cases hin
  .intro p hp _ _ k hk;rw[List.mem_singleton.1 hp]at hk;rw[List.mem_singleton.1 hp];exact⟨_,hlk,hk⟩
  .intro p hp q _ hin;rw[List.mem_singleton.1 hp]at hin;rw[hout]at hin;cases hin
 | false=>
  obtain⟨hcap,rest,hrest,hbk⟩:=hcells hN;rw[QJU]at hbk
  have hb:(r id).blk<w.heap.size:=by
   unfold bk at hbk;exact(Array.getElem?_eq_some_iff.1 hbk).1
  have eg:∀ args w,(callFunc 131 args).run prog w = .ok (.enter 131 args) w:=enters_of func131 (by kernel_rfl) rfl
  have hd:((List.range n).map (Xn g)).toArray.size=n:=by simp
  have hcon:=AnyQ.slices_SortFunc Tryz.sortJn 4 Qbn QSy K3 (λ_=>rfl) (λx v hv=>by simp[K3]at hv;rcases hv with rfl|rfl|rfl|rfl<;>rfl) Vl QBO 131 #[] (r id).blk 0 ((r id).room (c.den (r id).cap)) ((List.range n).map (Xn g)).toArray w eg (QaW _ _ _ _) (Qbm hbk) hb (by rw[hd];exact hlt)
  rw[hd]at hcon
  have ha:AV.denL r [.slz id 0 n c,.fn (.func 131) []]=[.slice (some ⟨(r id).blk,0,none⟩) n ((r id).room (c.den (r id).cap)),.func (.func 131) #[] #[]]:=by
   simp only[AV.denL,AV.den,Loc.base,hN,h0,Nat.zero_mul,Nat.add_zero]
  rw[ha];refine hcon.mono ?_;rintro e w' ⟨rfl,d',m,os,hperm,hsort,rfl⟩;have hu:=sorted_unique_holds QBO QKa ((List.range n).map (Xn g)).toArray d' (by rw[hd];exact hperm) (by rw[hd];exact hsort)
  have hd':d'=(KN ((List.range n).map (Xn g))).toArray:=Array.ext' (by rw[hu];rfl)
  subst hd';obtain⟨w1,w2,w3⟩:=QWs (m:=m) (os:=os) hbk (QBA _).symm;refine⟨r,rfl,λ_ _=>rfl,?_,⟨rfl,rfl,rfl,w3,Nat.le_add_right _ _,λk hk hc=>w2 k hk λe=>hc ⟨_,List.mem_singleton.2 rfl,hout,_,hlk,(hfoot k).2 ⟨hN,e⟩⟩⟩,?_,?_,?_⟩
  .intro p hp;rw[List.mem_singleton.1 hp];refine⟨h0,h4,hfoot,hnil,hrow',λ_=>⟨hcap,rest,hrest,?_⟩⟩;show bk _ _=some (.cells (AV.denL r (Q6 n (QW ksJ (Y2 n g))).flatten++rest).toArray ty (0,0));rw[QZK];exact w1
  .intro p hp hin;rw[List.mem_singleton.1 hp]at hin;rw[hout]at hin;cases hin
  .intro p hp _ _ k hk;rw[List.mem_singleton.1 hp]at hk;rw[List.mem_singleton.1 hp];exact⟨_,hlk,hk⟩
  .intro p hp q _ hin;rw[List.mem_singleton.1 hp]at hin;rw[hout]at hin;cases hin
def Yl:Tab:=Qa QS 153 QFZ
theorem QEo:Qc Yl:=Qb.add QbP
end Go.Proofs.YtekbmehgcofnkaaGreat
namespace Go.SX
open Go Go.RowKit Go.Proofs.YtekbmehgcofnkaaGreat
namespace Told
def natsG(g:Nat->Value):List Nat:=(List.range (nxI g)).map λi=>nxI λ_=>g (i+1)
end Told
theorem QTK(l:List Nat):∃ g,Told.natsG g=l:=by
 refine⟨λk=>match k with
  | 0 => .int .i64 l.length
  | i+1 => .int .i64 ((l.getD i 0:Nat):Int),?_⟩
 have h0:∀ n:Nat,Told.nxI (λ_=>Value.int .i64 (n:Int))=n:=λn=>by simp[Told.nxI,Told.intV]
 apply List.ext_getElem?;intro i;unfold Told.natsG
 have e:Told.nxI (λk=>match k with
  | 0=>Value.int .i64 l.length
  | i+1 => .int .i64 ((l.getD i 0:Nat):Int))=l.length:=by simp[Told.nxI,Told.intV]
 rw[e,List.getElem?_map]
 by_cases h:i<l.length
 .rw[List.getElem?_range h];simp only[Option.map_some,h0];rw[List.getElem?_eq_getElem h,Xs h]
 .rw[List.getElem?_eq_none (by simpa using h),List.getElem?_eq_none (by omega)];rfl
def QFH(n0:Nat)(ids:List Nat)(J0:JSt)(X:(Nat->Value)->List (Prop×Ex×JSt))(st:St)(K:Ex->St->QC):QC:=
 match Nat.beq st.tm.length J0.len&&VX st.hp with
 | true=>(match QE n0 ((J0.live.map (·.1)).map (QI st.tm)) (Kn ids ((J0.live.map (·.1)).map (QI st.tm)) st.hp) J0 with
  | some ps=>Hv ps (.all λg=>QAt K (X g))
  | none => .fail "a loop's beginning")
 | false => .fail "a loop's slots"
theorem QeP{σ:Type}{I:σ->JSt}{pre:σ->Prop}{μ:σ->Nat}{R:σ->Ex->JSt->Prop}{n0:Nat}{ls:Ex->List Nat}{ids ids':List Nat}{E:Env}(hE:E.Sound){H:σ->Hnd}{G:Ctx}(hG:G.n<=n0){body:Code}(hH:∀ s,pre s->Qx E G (H s) body)(hn:∀ s,pre s->n0<=(I s).nid)(hR:∀ s e J,R s e J->n0<=J.nid)(hr:JL I pre μ R n0 ls ids E H body){s0:σ}(hp:pre s0){X:(Nat->Value)->List (Prop×Ex×JSt)}(hX:∀ e J,R s0 e J->∃ g,∃ x∈X g,x.1/\x.2.1=e/\x.2.2=J):
  JA E G (.loop body) (QFH n0 ids' (I s0) X):=by
 intro st K T Q a w hn' h hrep hQ;unfold QFH at h;split at h
 rotate_left
 .exact h.elim
 rename_i hl;split at h
 rotate_left
 .exact h.elim
 rename_i ps hps;simp only[qbA]at hl;have hlen:=qnb hl.1;obtain⟨ha,hx⟩:=HW h;have hnear:=Rep.near (h':=Kn ids' (((I s0).live.map (·.1)).map (QI st.tm)) st.hp) (λid b hb=>ZT hb) hl.2 hrep;have hso:JM n0 ((I s0).live.map (·.1)) st.tm.length (((I s0).live.map (·.1)).map (QI st.tm)) (Kn ids' (((I s0).live.map (·.1)).map (QI st.tm)) st.hp) (I s0):={ slots:=rfl,len:=hlen,eqs:=⟨ps,hps,ha⟩ };obtain⟨g,hr'⟩:=Rep.subW hnear hso hG;refine wpIn_loop_rounds (μ s0+1) (QGF hE hG hH hn hR hr _ s0 g a w (Nat.lt_succ_self _) hp hr' ?_);intro e J g' a' w' hRe hnJ hrJ
 obtain⟨g2,x,h1,h2,h3,h4⟩:=hX e J hRe;have:=Ht (hx g2) x h1 h2 g';rw[h3,h4]at this;exact hQ e (J.inst g') a' w' (Nat.le_trans hG hnJ) this hrJ
end Go.SX
namespace Go.Proofs.YtekbmehgcofnkaaGreat
open Go.SX Go.SX.Told
def j5(e:MapEntry):Jn:=⟨QQ e 0,QQ e 1,QQ e 2,QQ e 3⟩
variable (E:ECt)(m:Int)(o:List Jn)(S S':List Nat)(g0:Nat->Value)
def VH(e:MapEntry):List Jn:=cond (decide (m<=intV e.val)&&decide (QQ e 0<QQ e 2)) [j5 e] []
def Z2(b:Nat):List Jn:=match E.1.find? (·.born==b)with
 | some e=>VH m e
 | none=>[]
def Qr:List Jn:=S.flatMap (Z2 E m)
def rwJ(own:Bool)(id:Nat)(o:List Jn):Nat×Blk:=(id,.rowz own 67 [.int .i64,.int .i64,.int .i64,.int .i64] o.length λi=>QA.enc (o.getD i ⟨0,0,0,0⟩))
def jnJ(o:List Jn):JSt:=⟨48,[(1,.int false .i64 m),(5,.slz 256 0 o.length (.of 0)),(12,.ptr 264 201 0)],[(264,.itm [.map 201] 150 E.2 S E.2),(201,.mp E.1 E.2),rwJ true 256 o],272⟩
def jnE:JSt:=⟨48,[(5,.slz 256 0 o.length (.of 0))],[(201,.mp E.1 E.2),rwJ true 256 o],272⟩
def zF:JSt:=⟨48,[(1,.int false .i64 m),(5,.nils),(12,.ptr 264 201 0)],[(264,.itm [.map 201] 150 E.2 S E.2),(201,.mp E.1 E.2)],272⟩
def QCH:JSt:=⟨48,[(5,.nils)],[(201,.mp E.1 E.2)],272⟩
def QHl:Ex->List Nat
 | .normal=>[1,5,12]
 | .exit _=>[5]
 | .ret=>[]
abbrev QGi:List CK:=
  (waG)
abbrev QIv:Nat×Blk:=
  (256,.rowz true 67 QGi o.length λi=>QA.enc (o.getD i (Jn.mk (0:Int) (0:Int) (0:Int) (0:Int))))
abbrev QO7:List AV:=
  [.nilp,.ptr 48 0 0,vi m,.slz 256 0 o.length cO,.ptr 264 201 0]
abbrev waT(E:ECt)(S:List Nat)(g0:Nat->Value):List AV:=[vi (QQ (QJ E.1 (S++[(E.1.getD (nxI g0) noE).3])) 0),vi (QQ (QJ E.1 (S++[(E.1.getD (nxI g0) noE).3])) 1),vi (QQ (QJ E.1 (S ++ [(E.1.getD (nxI g0) noE).3])) 2),vi (QQ (QJ E.1 (S++[(E.1.getD (nxI g0) noE).3])) 3)]
theorem QX8(o:List Jn)(g:Nat->Value):exec (mkF prog Yl) (hnd (mkF prog Yl) 1) (QH f89 0) (JSt.inst (jnJ E m S o) g) (Q8 [201] QHl) = .ask (Hh E.1 E.2 E.2) (.both (.asm (ZL E.1 S) (.leaf (.tup [.ptr 0 0 0,.ptr 48 0 0,.slz 256 0 o.length cO]) ([(201,.mp E.1 E.2),(QIv o)]))) (.all (λ(g0:Nat->Value)=>.asm (za E.1 S (nxI g0)) (.need (decide (E.2=E.2)&&Xf E.1 (S++[(E.1.getD (nxI g0) noE).3])&&wf4 i64 E.1) (.br (decide (intV (QJ E.1 (S++[(E.1.getD (nxI g0) noE).3])).2≥m)) (.br (decide (QQ (QJ E.1 (S++[(E.1.getD (nxI g0) noE).3])) 0<QQ (QJ E.1 (S++[(E.1.getD (nxI g0) noE).3])) 2)) (.need (decide (o.length<=o.length)&&(true&&decide ((o.length+1+(o.length+1) / 4+192)*32<=281474976710656/\o.length+1<=9223372036854775807))) (.leaf (.tup [.nilp,.ptr 48 0 0,vi m,.slz 552 0 (o.length+1) cO, .ptr 264 201 0]) ([(201,.mp E.1 E.2),(552,.rowz true 67 QGi (o.length+1) (KF o.length (λi=>QA.enc (o.getD i (Jn.mk (0:Int) (0:Int) (0:Int) (0:Int)))) (Kg [[vi (QQ (QJ E.1 (S++[(E.1.getD (nxI g0) noE).3])) 0),vi (QQ (QJ E.1 (S++[(E.1.getD (nxI g0) noE).3])) 1),vi (QQ (QJ E.1 (S ++ [(E.1.getD (nxI g0) noE).3])) 2),vi (QQ (QJ E.1 (S++[(E.1.getD (nxI g0) noE).3])) 3)]] 0))),(264,.itm [.map 201] 150 E.2 (S++[(E.fst.getD (nxI g0) noE).born]) E.2)]))) (.leaf (.tup (QO7 m o)) ([(201,.mp E.1 E.2),(QIv o),(264,.itm [.map 201] 150 E.2 (S++[(E.fst.getD (nxI g0) noE).born]) E.2)]))) (.leaf (.tup (QO7 m o)) ([(201,.mp E.1 E.2),(QIv o),(264,.itm [.map 201] 150 E.2 (S++[(E.fst.getD (nxI g0) noE).born]) E.2)]))))))):=by kernel_rfl
abbrev wa5(o:List Jn)(o':List Jn):List Prop:=[o'.length<=o.length,QB (4:Nat) o'.length (λi=>QA.enc (o.getD i (Jn.mk (0:Int) (0:Int) (0:Int) (0:Int)))) λi=>QA.enc (o'.getD i (Jn.mk (0:Int) (0:Int) (0:Int) (0:Int)))]
theorem QcT(o o':List Jn):QE 216 [AV.slz (256:Nat) (0:Nat) o.length cO] ([((201:Nat),Blk.mp E.1 E.2),((256:Nat),Blk.rowz true (67:Nat) [CK.int i64,CK.int i64,CK.int i64,CK.int i64] o.length λi=>QA.enc (o.getD i (Jn.mk (0:Int) (0:Int) (0:Int) (0:Int))))]) (jnE E o')=( some [0=0,o.length=o'.length,cO=cO,E.1=E.1,E.2=E.2,o'.length<=o.length,QB (4:Nat) o'.length (λi=>QA.enc (o.getD i (Jn.mk (0:Int) (0:Int) (0:Int) (0:Int)))) λi=>QA.enc (o'.getD i (Jn.mk (0:Int) (0:Int) (0:Int) (0:Int)))]):=by kernel_rfl
abbrev QLx:List AV:=
  (waT E S g0)
abbrev wbQ(E:ECt)(S:List Nat)(S':List Nat)(g0:Nat->Value):List Prop:=[E.2=E.2,S++[(E.1.getD (nxI g0) noE).3]=S',E.2=E.2,E.1=E.1,E.2=E.2]
theorem Qer(o o':List Jn)(g0:Nat->Value):QE 216 [vi m,.slz 552 0 (o.length+1) cO,.ptr 264 201 0] ([(201,.mp E.1 E.2),(552,.rowz true 67 QGi (o.length+1) (KF o.length (λi=>QA.enc (o.getD i (Jn.mk (0:Int) (0:Int) (0:Int) (0:Int)))) (Kg [(QLx E S g0)] 0))),(264,.itm [.map 201] 150 E.2 (S++[(E.fst.getD (nxI g0) noE).born]) E.2)]) (jnJ E m S' o')=(some [m=m,0=0,o.length+1=o'.length,cO=cO,201=201,0=0,E.2=E.2,S++[(E.1.getD (nxI g0) noE).3]=S',E.2=E.2,E.1=E.1,E.2=E.2,o'.length<=o.length+1,QB 4 o'.length (KF o.length (λi=>QA.enc (o.getD i (Jn.mk (0:Int) (0:Int) (0:Int) (0:Int)))) (Kg [(QLx E S g0)] 0)) λi=>QA.enc (o'.getD i (Jn.mk (0:Int) (0:Int) (0:Int) (0:Int)))]):=by kernel_rfl
theorem QaM(o o':List Jn)(g0:Nat->Value):QE 216 [vi m,AV.slz (256:Nat) (0:Nat) o.length cO,AV.ptr (264:Nat) (201:Nat) (0:Nat)] ([((201:Nat),Blk.mp E.1 E.2),((256:Nat),Blk.rowz true (67:Nat) [CK.int i64,CK.int i64,CK.int i64,CK.int i64] o.length λi=>QA.enc (o.getD i (Jn.mk (0:Int) (0:Int) (0:Int) (0:Int)))),((264:Nat),Blk.itm [AV.map (201:Nat)] (150:Nat) E.2 (S++[(E.fst.getD (nxI g0) noE).born]) E.2)]) (jnJ E m S' o')=( some [m=m,0=0,o.length=o'.length,cO=cO,(201:Nat)=(201:Nat),0=0,E.2=E.2,S++[(E.1.getD (nxI g0) noE).3]=S',E.2=E.2,E.1=E.1,E.2=E.2,o'.length<=o.length,QB (4:Nat) o'.length (λi=>QA.enc (o.getD i (Jn.mk (0:Int) (0:Int) (0:Int) (0:Int)))) λi=>QA.enc (o'.getD i (Jn.mk (0:Int) (0:Int) (0:Int) (0:Int)))]):=by kernel_rfl
theorem QTz(o o':List Jn)(g0:Nat->Value):QE 216 [vi m,AV.slz (256:Nat) (0:Nat) o.length cO,AV.ptr (264:Nat) (201:Nat) (0:Nat)] ([((201:Nat),Blk.mp E.1 E.2),((256:Nat),Blk.rowz true (67:Nat) [CK.int i64,CK.int i64,CK.int i64,CK.int i64] o.length λi=>QA.enc (o.getD i (Jn.mk (0:Int) (0:Int) (0:Int) (0:Int)))),((264:Nat),Blk.itm [AV.map (201:Nat)] (150:Nat) E.2 (S++[(E.fst.getD (nxI g0) noE).born]) E.2)]) (jnJ E m S' o')=( some [m=m,0=0,o.length=o'.length,cO=cO,(201:Nat)=(201:Nat),0=0,E.2=E.2,S++[(E.1.getD (nxI g0) noE).3]=S',E.2=E.2,E.1=E.1,E.2=E.2,o'.length<=o.length,QB (4:Nat) o'.length (λi=>QA.enc (o.getD i (Jn.mk (0:Int) (0:Int) (0:Int) (0:Int)))) λi=>QA.enc (o'.getD i (Jn.mk (0:Int) (0:Int) (0:Int) (0:Int)))]):=by kernel_rfl
theorem QYg(g:Nat->Value):exec (mkF prog Yl) (hnd (mkF prog Yl) 1) (QH f89 0) (JSt.inst (zF E m S) g) (Q8 [201] QHl) = .ask (Hh E.1 E.2 E.2) (.both (.asm (ZL E.1 S) (.leaf (.tup [.ptr 0 0 0,.ptr 48 0 0,.nils]) ([(201,.mp E.1 E.2)]))) (.all (λ(g0:Nat->Value)=>.asm (za E.1 S (nxI g0)) (.need (decide (E.2=E.2)&&Xf E.1 (S ++ [(E.1.getD (nxI g0) noE).3])&&wf4 i64 E.1) (.br (decide (intV (QJ E.1 (S++[(E.1.getD (nxI g0) noE).3])).2≥m)) (.br (decide (QQ (QJ E.1 (S++[(E.1.getD (nxI g0) noE).3])) 0<QQ (QJ E.1 (S++[(E.1.getD (nxI g0) noE).3])) 2)) (.leaf (.tup [.nilp,.ptr 48 0 0,vi m,.slice true 552 0 1 cO,.ptr 264 201 0]) ([(201, .mp E.1 E.2),(552,.rowl 67 4 [[vi (QQ (QJ E.1 (S++[(E.1.getD (nxI g0) noE).3])) 0),vi (QQ (QJ E.1 (S++[(E.1.getD (nxI g0) noE).3])) 1),vi (QQ (QJ E.1 (S++[(E.1.getD (nxI g0) noE).3])) 2),vi (QQ (QJ E.1 (S++[(E.1.getD (nxI g0) noE).3])) 3)]]),(264,.itm [.map 201] 150 E.2 (S ++ [(E.fst.getD (nxI g0) noE).born]) E.2)])) (.leaf (.tup [.nilp,.ptr 48 0 0,vi m,.nils,.ptr 264 201 0]) ([(201,.mp E.1 E.2),(264,.itm [.map 201] 150 E.2 (S ++ [(E.fst.getD (nxI g0) noE).born]) E.2)]))) (.leaf (.tup [.nilp,.ptr 48 0 0,vi m,.nils,.ptr 264 201 0]) ([(201,.mp E.1 E.2),(264,.itm [.map 201] 150 E.2 (S ++ [(E.fst.getD (nxI g0) noE).born]) E.2)]))))))):=by kernel_rfl
theorem QY8:QE 216 [AV.nils] ([((201:Nat),Blk.mp E.1 E.2)]) (QCH E)=( some [E.1=E.1,E.2=E.2]):=by kernel_rfl
abbrev wbu(E:ECt)(S:List Nat)(g0:Nat->Value):List AV:=[vi (QQ (QJ E.1 (S++[(E.1.getD (nxI g0) noE).3])) (0:Nat)),vi (QQ (QJ E.1 (S++[(E.1.getD (nxI g0) noE).3])) (1:Nat)),vi (QQ (QJ E.1 (S++[(E.1.getD (nxI g0) noE).3])) (2:Nat)),vi (QQ (QJ E.1 (S++[(E.1.getD (nxI g0) noE).3])) (3:Nat))]
theorem QTc(o':List Jn)(g0:Nat->Value):QE 216 [vi m,AV.slice true (552:Nat) (0:Nat) (1:Nat) cO,AV.ptr (264:Nat) (201:Nat) (0:Nat)] ([((201:Nat),Blk.mp E.1 E.2),((552:Nat),Blk.rowl (67:Nat) (4:Nat) [[vi (QQ (QJ E.1 (S++[(E.1.getD (nxI g0) noE).3])) (0:Nat)),vi (QQ (QJ E.1 (S++[(E.1.getD (nxI g0) noE).3])) (1:Nat)),vi (QQ (QJ E.1 (S++[(E.1.getD (nxI g0) noE).3])) (2:Nat)),vi (QQ (QJ E.1 (S++[(E.1.getD (nxI g0) noE).3])) (3:Nat))]]),((264:Nat),Blk.itm [AV.map (201:Nat)] (150:Nat) E.2 (S++[(E.fst.getD (nxI g0) noE).born]) E.2)]) (jnJ E m S' o')=( some [m=m,0=0,(1:Nat)=o'.length,cO=cO,(201:Nat)=(201:Nat),0=0,E.2=E.2,S++[(E.1.getD (nxI g0) noE).3]=S',E.2=E.2,E.1=E.1,E.2=E.2,ja [CK.int i64,CK.int i64,CK.int i64,CK.int i64] [[vi (QQ (QJ E.1 (S ++ [(E.1.getD (nxI g0) noE).3])) (0:Nat)),vi (QQ (QJ E.1 (S++[(E.1.getD (nxI g0) noE).3])) (1:Nat)),vi (QQ (QJ E.1 (S ++ [(E.1.getD (nxI g0) noE).3])) (2:Nat)),vi (QQ (QJ E.1 (S++[(E.1.getD (nxI g0) noE).3])) (3:Nat))]] o'.length λi=>QA.enc (o'.getD i (Jn.mk (0:Int) (0:Int) (0:Int) (0:Int)))]):=by kernel_rfl
theorem Qbd:QE 216 [vi m,AV.nils,AV.ptr (264:Nat) (201:Nat) (0:Nat)] ([((201:Nat),Blk.mp E.1 E.2),((264:Nat),Blk.itm [AV.map (201:Nat)] (150:Nat) E.2 (S++[(E.fst.getD (nxI g0) noE).born]) E.2)]) (zF E m S')=( some [m=m,(201:Nat)=(201:Nat),0=0,E.2=E.2,S++[(E.1.getD (nxI g0) noE).3]=S',E.2=E.2,E.1=E.1,E.2=E.2]):=by kernel_rfl
theorem Qev:QE 216 [vi m,AV.nils,AV.ptr (264:Nat) (201:Nat) (0:Nat)] ([((201:Nat),Blk.mp E.1 E.2),((264:Nat),Blk.itm [AV.map (201:Nat)] (150:Nat) E.2 (S++[(E.fst.getD (nxI g0) noE).born]) E.2)]) (zF E m S')=( some [m=m,(201:Nat)=(201:Nat),0=0,E.2=E.2,S++[(E.1.getD (nxI g0) noE).3]=S',E.2=E.2,E.1=E.1,E.2=E.2]):=by kernel_rfl
end Go.Proofs.YtekbmehgcofnkaaGreat
namespace Go.SX
open Go Go.RowKit Go.Proofs.YtekbmehgcofnkaaGreat Told
structure OkM (es:List MapEntry) (cl:Nat):Prop where
 born:(es.map (·.born)).Nodup
 low:∀ e∈es,e.born<cl
 keys:(es.map Kc).Nodup
theorem QFd{k:List Int}:∀{es:List MapEntry} {i:Nat},Kt k es i=none->∀ e∈es,Kc e≠k
 | [],_,_,e,h=>by cases h
 | x::es,i,h,e,he=>by
  simp only[Kt]at h;cases hx:Kc x==k with
  | true=>rw[hx]at h;cases h
  | false=>
   rw[hx]at h;rcases List.mem_cons.1 he with rfl|he
   .simpa using hx
   .exact QFd h e he
theorem QPA(kv v:Value):∀(es:List MapEntry) (i:Nat),(J9 kv v es i).map (·.born)=es.map (·.born)
 | [],i=>by cases i<;>rfl
 | e::es,0=>rfl
 | e::es,i+1=>by simp only[J9,List.map_cons,QPA kv v es i]
theorem QLq{k:List Int}{kv v:Value}(hk:∀ e:MapEntry,e.key=kv->Kc e=k):∀{es:List MapEntry} {i j:Nat} {u:Value},Kt k es i=some (j,u)->(J9 kv v es (j-i)).map Kc=es.map Kc
 | [],_,_,_,h=>by cases h
 | e::es,i,j,u,h=>by
  simp only[Kt]at h;cases hx:Kc e==k with
  | true=>
   rw[hx]at h;simp only[qsI,qpI]at h;obtain⟨rfl,rfl⟩:=h;rw[Nat.sub_self];simp only[J9,List.map_cons];rw[hk _ rfl,beq_iff_eq.1 hx]
  | false=>
   rw[hx]at h;have h1:=(Hw h).1;have:=QLq hk h (v:=v);rw[show j-i=(j-(i+1))+1 by omega]
   simp only[J9,List.map_cons,this]
variable {es:List MapEntry}{e:MapEntry}
theorem QS5{k:List Int}{kv v:Value}(hk:∀ e:MapEntry,e.key=kv->Kc e=k){cl:Nat}(h:OkM es cl):OkM (JE k kv v cl es) (clL k cl es):=by
 unfold JE clL;cases hf:Kt k es 0 with
 | some q=>
  obtain⟨i,u⟩:=q;have hb:=QPA kv v es i;refine⟨by rw[hb];exact h.born,λe he=>?_,?_⟩
  .have:e.born∈(J9 kv v es i).map (·.born):=List.mem_map_of_mem he;rw[hb]at this;obtain⟨e',he',hbe⟩:=List.mem_map.1 this;rw[<-hbe];exact h.low e' he'
  .have:=QLq hk hf (v:=v);rw[Nat.sub_zero]at this;show((J9 kv v es i).map Kc).Nodup;rw[this];exact h.keys
 | none=>
  refine⟨?_,λe he=>?_,?_⟩
  .show((es++[({ key:=kv,val:=v,born:=cl }:MapEntry)]).map (·.born)).Nodup;rw[List.map_append,List.nodup_append];refine⟨h.born,by simp,λa ha b hb=>?_⟩
   obtain⟨e,he,rfl⟩:=List.mem_map.1 ha;have:b=cl:=by simpa using hb
   have:=h.low e he;omega
  .rcases List.mem_append.1 he with he|he
   .exact Nat.lt_succ_of_lt (h.low e he)
   .rw[List.mem_singleton.1 he];exact Nat.lt_succ_self _
  .show((es++[({ key:=kv,val:=v,born:=cl }:MapEntry)]).map Kc).Nodup;rw[List.map_append,List.nodup_append];refine⟨h.keys,by simp,λa ha b hb=>?_⟩
   obtain⟨e,he,rfl⟩:=List.mem_map.1 ha
   have hb:b=k:=by
    have:b=Kc { key:=kv,val:=v,born:=cl }:=by simpa using hb
    rw[this];exact hk _ rfl
   rw[hb];exact QFd hf e he
theorem jx:∀{es:List MapEntry} {e:MapEntry},(es.map (·.born)).Nodup->e∈es->es.find? (·.born==e.born)=some e
 | [],_,_,h=>by cases h
 | x::es,e,hn,h=>by
  rw[List.map_cons,List.nodup_cons]at hn;rw[List.find?_cons];rcases List.mem_cons.1 h with rfl|h
  .simp
  .have:(x.born==e.born)=false:=by
    rw[beq_eq_false_iff_ne];intro q;exact hn.1 (q ▸ List.mem_map_of_mem h)
   rw[this];exact jx hn.2 h
theorem QKc{j:Nat}(h:j<es.length):es.getD j noE∈es:=by
 rw[Xs h];exact List.getElem_mem h
structure XJ (es:List MapEntry) (S:List Nat):Prop where
 nd:S.Nodup
 sub:∀ b∈S,b∈es.map (·.born)
theorem QCt{S:List Nat}(h:XJ es S):S.length<=es.length:=by
 have:=h.nd.length_le_of_subset h.sub;simpa using this
theorem QPQ{S:List Nat}(h:XJ es S)(he:e∈es)(hn:e.born ∉ S):XJ es (S++[e.born]):=by
 refine⟨?_,λb hb=>?_⟩
 .rw[List.nodup_append];refine⟨h.nd,by simp,λa ha b hb=>?_⟩
  have:b=e.born:=by simpa using hb
  subst this;intro q;subst q;exact hn ha
 .rcases List.mem_append.1 hb with hb|hb
  .exact h.sub b hb
  .rw[List.mem_singleton.1 hb];exact List.mem_map_of_mem he
theorem QNE(hb:(es.map (·.born)).Nodup)(S:List Nat)(he:e∈es):QJ es (S++[e.born])=e/\Xf es (S++[e.born])=true:=by
 have hl:(S++[e.born]).getLast? = some e.born:=by simp
 unfold QJ Xf;rw[hl];simp only;rw[jx hb he];refine⟨rfl,?_⟩;rw[List.any_eq_true];exact⟨e,he,by simp⟩
theorem QVM{S:List Nat}(hb:(es.map (·.born)).Nodup)(h:XJ es S)(ha:ZL es S):S.Perm (es.map (·.born)):=by
 rw[List.perm_ext_iff_of_nodup h.nd hb];intro a;refine⟨h.sub a,λq=>?_⟩;obtain⟨e,he,rfl⟩:=List.mem_map.1 q;exact ha e he
end Go.SX
namespace Go.Proofs.YtekbmehgcofnkaaGreat
open Go.SX Go.SX.Told
variable {e:MapEntry}(d:Puz)(E:ECt)(m:Int)(o:List Jn)(S:List Nat)
theorem QZQ{E:ECt}(hb:(E.1.map (·.born)).Nodup)(m:Int)(S:List Nat)(he:e∈E.1):Qr E m (S++[e.born])=Qr E m S++VH m e:=by
 unfold Qr;rw[List.flatMap_append];congr 1;show Z2 E m e.born++[]=_;rw[List.append_nil];unfold Z2;rw[jx hb he]
theorem QJz(e:MapEntry):(VH m e).length<=1:=by
 unfold VH;cases decide (m<=intV e.val)&&decide (QQ e 0<QQ e 2)<;>simp
theorem QFu(E:ECt)(m:Int):∀ S:List Nat,(Qr E m S).length<=S.length
 | []=>qlr _
 | b::S=>by
  have h:=QFu E m S
  have h1:(Z2 E m b).length<=1:=by
   unfold Z2;split
   .exact QJz _ _
   .exact Nat.zero_le _
  show(Z2 E m b++Qr E m S).length<=_;rw[List.length_append,List.length_cons];omega
theorem QUs(x:Jn):QB 4 (o.length+1) (KF o.length (λi=>QA.enc (o.getD i ⟨0,0,0,0⟩)) (Kg [[.int false .i64 x.a,.int false .i64 x.i,.int false .i64 x.b,.int false .i64 x.j]] 0)) λi=>QA.enc ((o++[x]).getD i ⟨0,0,0,0⟩):=by
 intro i hi
 by_cases h:i<o.length
 .have e:(o++[x]).getD i ⟨0,0,0,0⟩=o.getD i ⟨0,0,0,0⟩:=by
   rw[List.getD_eq_getElem?_getD,List.getD_eq_getElem?_getD,List.getElem?_append_left h]
  show eqF 4 0 _ (QA.enc ((o++[x]).getD _ ⟨0,0,0,0⟩));rw[e];refine⟨?_,?_,?_,?_,trivial⟩<;>(rw[YI,if_pos h])
 .have hi:i=o.length:=by omega
  subst hi
  have e:(o++[x]).getD o.length ⟨0,0,0,0⟩=x:=by
   rw[List.getD_eq_getElem?_getD,List.getElem?_append_right (qlr _)];simp
  show eqF 4 0 _ (QA.enc ((o++[x]).getD _ ⟨0,0,0,0⟩));rw[e];refine⟨?_,?_,?_,?_,trivial⟩<;>(rw[YI,if_neg h,Nat.sub_self];rfl)
def jnI:JSt:=cond (Qr E m S).isEmpty (zF E m S) (jnJ E m S (Qr E m S))
def jnD:JSt:=cond o.isEmpty (QCH E) (jnE E o)
def jnR(_:List Nat)(e:Ex)(J:JSt):Prop:=e = .exit 0/\∃ T,XJ E.1 T/\ZL E.1 T/\J=jnD E (Qr E m T)
theorem QAa{E:ECt}{m:Int}{S:List Nat}(h:(Qr E m S).isEmpty=false):jnI E m S=jnJ E m S (Qr E m S):=by unfold jnI;rw[h];rfl
theorem QGg{E:ECt}{m:Int}{S:List Nat}(h:(Qr E m S).isEmpty=true):jnI E m S=zF E m S:=by unfold jnI;rw[h];rfl
set_option maxHeartbeats 1000000 in
theorem QX5(hw:WfE E)(hE:OkM E.1 E.2)(hl:E.1.length<=1000000000):JL (jnI E m) (XJ E.1) (λS=>E.1.length-S.length) (jnR E m) 216 QHl [201] (mkF prog Yl) (λ_=>hnd (mkF prog Yl) 1) (QH f89 0):=by
 refine⟨λS g hS=>?_⟩;have hS:XJ E.1 S:=hS;have hw:wf4 .i64 E.1=true:=hw;have hS1:=QCt hS;have hS2:=QFu E m S
 have fact:∀ g0:Nat->Value,za E.1 S (nxI g0)->∃ e,e=E.1.getD (nxI g0) noE/\e∈E.1/\QJ E.1 (S++[e.born])=e/\Xf E.1 (S++[e.born])=true/\XJ E.1 (S++[e.born])/\S.length+1<=E.1.length/\Qr E m (S++[e.born])=Qr E m S++VH m e/\E.1.length-(S++[e.born]).length<E.1.length-S.length:=by
  rintro g0 ⟨hj,hn⟩;have hm:=QKc hj;obtain⟨hc,hh⟩:=QNE hE.born S hm;have hS':=QPQ hS hm hn;have hlen:=QCt hS';rw[List.length_append,List.length_singleton]at hlen;exact⟨_,rfl,hm,hc,hh,hS',hlen,QZQ hE.born m S hm,by rw[List.length_append,List.length_singleton];omega⟩
 have yes:∀ e:MapEntry,decide (intV e.2≥m)=true->decide (QQ e 0<QQ e 2)=true->VH m e=[j5 e]:=λe h1 h2=>by
  unfold VH;rw[show decide (m<=intV e.val)=true from h1,h2];rfl
 have no1:∀ e:MapEntry,decide (intV e.2≥m)=false->VH m e=[]:=λe h1=>by
  unfold VH;rw[show decide (m<=intV e.val)=false from h1];rfl
 have no2:∀ e:MapEntry,decide (QQ e 0<QQ e 2)=false->VH m e=[]:=λe h2=>by
  unfold VH;rw[h2,Bool.and_false];rfl
 cases hem:(Qr E m S).isEmpty with
 | true=>
  rw[QGg hem];have hnil:Qr E m S=[]:=List.isEmpty_iff.1 hem;refine Qe (QYg E m S g) ?_;refine Qp ⟨hE.low,qlr _⟩ (Kb (Qf λha=>?_) (Qh λg0=>Qf λho=>?_))
  .refine⟨_,⟨rfl,S,hS,ha,rfl⟩,?_⟩;rw[show jnD E (Qr E m S)=QCH E by unfold jnD;rw[hem];rfl]
   refine⟨rfl,rfl,_,QY8 E,?_⟩
   repeat' first|with_reducible refine QO ?_ ?_|exact tv|exact Nat.le_refl _|refine aI ?_ ?_
  .obtain⟨e,he,hm,hc,hh,hS',hlen,hJ,hmu⟩:=fact g0 ho;subst he;rw[hnil,List.nil_append]at hJ;have hc':QJ E.1 (S++[(E.1.getD (nxI g0) noE).3])=E.1.getD (nxI g0) noE:=hc;refine QG (by rw[show Xf E.1 (S++[(E.1.getD (nxI g0) noE).3])=true from hh,hw];simp) ?_
   refine QF (λh1=>QF (λh2=>?_) (λh2=>?_)) (λh1=>?_)
   .rw[yes _ (hc' ▸ h1) (hc' ▸ h2)]at hJ;refine⟨S++[(E.1.getD (nxI g0) noE).born],hS',hmu,λ_ _ r=>r,?_⟩;rw[QAa (by rw[hJ];rfl),hJ]
    refine⟨rfl,rfl,_,QTc E m S _ _ g0,?_⟩
    repeat' first|with_reducible refine QO ?_ ?_|exact tv|exact Nat.le_refl _|exact rfl|(intro i hi x hx r;obtain rfl:i=0:=(by simpa using hi);simp only[List.getElem?_cons_zero,qsI]at hx;subst hx;rw[hc'];rfl)|refine aI ?_ ?_
   .rw[no2 _ (hc' ▸ h2)]at hJ;refine⟨S++[(E.1.getD (nxI g0) noE).born],hS',hmu,λ_ _ r=>r,?_⟩;rw[QGg (by rw[hJ];rfl)]
    refine⟨rfl,rfl,_,Qbd E m S _ g0,?_⟩
    repeat' first|with_reducible refine QO ?_ ?_|exact tv|exact Nat.le_refl _|refine aI ?_ ?_
   .rw[no1 _ (hc' ▸ h1)]at hJ;refine⟨S++[(E.1.getD (nxI g0) noE).born],hS',hmu,λ_ _ r=>r,?_⟩;rw[QGg (by rw[hJ];rfl)]
    refine⟨rfl,rfl,_,Qev E m S _ g0,?_⟩
    repeat' first|with_reducible refine QO ?_ ?_|exact tv|exact Nat.le_refl _|refine aI ?_ ?_
 | false=>
  rw[QAa hem];refine Qe (QX8 E m S (Qr E m S) g) ?_;refine Qp ⟨hE.low,qlr _⟩ (Kb (Qf λha=>?_) (Qh λg0=>Qf λho=>?_))
  .refine⟨_,⟨rfl,S,hS,ha,rfl⟩,?_⟩;rw[show jnD E (Qr E m S)=jnE E (Qr E m S) by unfold jnD;rw[hem];rfl]
   refine⟨rfl,rfl,_,QcT E (Qr E m S) (Qr E m S),?_⟩
   repeat' first|with_reducible refine QO ?_ ?_|exact tv|exact Nat.le_refl _|exact qRr|refine aI ?_ ?_
  .obtain⟨e,he,hm,hc,hh,hS',hlen,hJ,hmu⟩:=fact g0 ho;subst he;have hc':QJ E.1 (S++[(E.1.getD (nxI g0) noE).3])=E.1.getD (nxI g0) noE:=hc
   have hne:(Qr E m (S++[(E.1.getD (nxI g0) noE).born])).isEmpty=false:=by
    rw[hJ];cases h:Qr E m S with
    | nil=>rw[h]at hem;cases hem
    | cons a l=>rfl
   refine QG (by rw[show Xf E.1 (S++[(E.1.getD (nxI g0) noE).3])=true from hh,hw];simp) ?_
   refine QF (λh1=>QF (λh2=>QG (by simp;omega) ?_) (λh2=>?_)) (λh1=>?_)
   .rw[yes _ (hc' ▸ h1) (hc' ▸ h2)]at hJ;have hl1:(Qr E m S).length+1=(Qr E m (S++[(E.1.getD (nxI g0) noE).born])).length:=by rw[hJ];simp
    have hr:=QUs (Qr E m S) (j5 (QJ E.1 (S++[(E.1.getD (nxI g0) noE).3])));rw[show Qr E m S++[j5 (QJ E.1 (S++[(E.1.getD (nxI g0) noE).3]))]=Qr E m (S++[(E.1.getD (nxI g0) noE).born]) by rw[hc',hJ],hl1]at hr
    refine⟨S++[(E.1.getD (nxI g0) noE).born],hS',hmu,λ_ _ r=>r,?_⟩;rw[QAa hne];refine⟨rfl,rfl,_,Qer E m S _ (Qr E m S) _ g0,?_⟩
    repeat' first|with_reducible refine QO ?_ ?_|exact tv|exact Nat.le_refl _|exact qRr|exact hl1|exact Nat.le_of_eq hl1|exact Nat.le_of_eq hl1.symm|exact hr|refine aI ?_ ?_
   .rw[no2 _ (hc' ▸ h2),List.append_nil]at hJ;refine⟨S++[(E.1.getD (nxI g0) noE).born],hS',hmu,λ_ _ r=>r,?_⟩;rw[QAa hne,hJ];refine⟨rfl,rfl,_,QaM E m S _ (Qr E m S) _ g0,?_⟩
    repeat' first|with_reducible refine QO ?_ ?_|exact tv|exact Nat.le_refl _|exact qRr|refine aI ?_ ?_
   .rw[no1 _ (hc' ▸ h1),List.append_nil]at hJ;refine⟨S++[(E.1.getD (nxI g0) noE).born],hS',hmu,λ_ _ r=>r,?_⟩;rw[QAa hne,hJ];refine⟨rfl,rfl,_,QTz E m S _ (Qr E m S) _ g0,?_⟩
    repeat' first|with_reducible refine QO ?_ ?_|exact tv|exact Nat.le_refl _|exact qRr|refine aI ?_ ?_
def QAw:Prop:=XJ E.1 S/\ZL E.1 S
abbrev joH(P:Program)(E:ECt)(m:Int):Hnd:={ hnd (mkF P Yl) 3 with loop:=λ_=>QFH 216 [201] (zF E m []) λg=>[(QAw E (natsG g)/\Qr E m (natsG g)=[],.exit 0,QCH E),(QAw E (natsG g)/\0<(Qr E m (natsG g)).length,.exit 0,jnE E (Qr E m (natsG g)))] }
def joU(n:Nat)(E:ECt)(m:Int)(v:List Jn):UC:=⟨208,⟨2,[(0,.ptr 200 0 0),(1,.int false .i64 m)],brR d n++[(201,.mp E.1 E.2)],216⟩,λk=>.slz k 0 v.length (.of 0),λk=>[(201,.mp E.1 E.2),rwJ true k v]⟩
theorem QYt(n:Nat)(E:ECt)(m:Int)(v:List Jn):VM (mkF prog Yl) (joH prog E m) f89 (joU d n E m v) = .ak [m=m,201=201,0=0,E.2=E.2,([]:List Nat)=[],E.2=E.2,E.1=E.1,E.2=E.2] (.all (λ(g0:Nat->Value)=>.both (.asm (QAw E (natsG g0)/\Qr E m (natsG g0)=[]) (.all (λ(g1:Nat->Value)=>.need (true) (.leaf (.nils) ([(201,.mp E.1 E.2)]))))) (.asm (QAw E (natsG g0)/\0<(Qr E m (natsG g0)).length) (.all (λ(g2:Nat->Value)=>.need (decide (0<(Qr E m (natsG g0)).length/\(Qr E m (natsG g0)).length<=(Qr E m (natsG g0)).length)) (.need (true&&(decide ((Qr E m (natsG g0)).length<=(Qr E m (natsG g0)).length)&&decide ((0+(Qr E m (natsG g0)).length+(0+(Qr E m (natsG g0)).length) / 4+192)*32<=281474976710656/\0+(Qr E m (natsG g0)).length<=9223372036854775807))) (.need (decide (0+(Qr E m (natsG g0)).length=0+(Qr E m (natsG g0)).length)&&decide (0+(Qr E m (natsG g0)).length<4611686018427387904)) (.leaf (.slz 336 0 (0+(Qr E m (natsG g0)).length) cO) ([(201,.mp E.1 E.2),(336,.rowz true 67 (waG) (0+(Qr E m (natsG g0)).length) (Y2 (0+(Qr E m (natsG g0)).length) (KF 0 (λx x_1=>(0:Int)) λi=>QA.enc ((Qr E m (natsG g0)).getD i (Jn.mk (0:Int) (0:Int) (0:Int) (0:Int))))))]))))))))):=by kernel_rfl
theorem QdF(n:Nat)(E:ECt)(m:Int)(v:List Jn):QE 216 [(AV.nils)] ([((201:Nat),Blk.mp E.1 E.2)]) (KQ (joU d n E m v))=( some [v.length=(0:Nat),E.1=E.1,E.2=E.2,v.length=(0:Nat)]):=by kernel_rfl
theorem QfG(n:Nat)(E:ECt)(m:Int)(v:List Jn)(g0:Nat->Value):QE 216 [(AV.slz (336:Nat) (0:Nat) ((0:Nat)+(Qr E m (natsG g0)).length) cO)] ([((201:Nat),Blk.mp E.1 E.2),((336:Nat),Blk.rowz true (67:Nat) [CK.int i64,CK.int i64,CK.int i64,CK.int i64] ((0:Nat)+(Qr E m (natsG g0)).length) (Y2 ((0:Nat)+(Qr E m (natsG g0)).length) (KF (0:Nat) (λx x_1=>(0:Int)) λi=>QA.enc ((Qr E m (natsG g0)).getD i (Jn.mk (0:Int) (0:Int) (0:Int) (0:Int))))))]) (KQ (joU d n E m v))=( some [0=0,(0:Nat)+(Qr E m (natsG g0)).length=v.length,cO=cO,E.1=E.1,E.2=E.2,v.length<=(0:Nat)+(Qr E m (natsG g0)).length,QB (4:Nat) v.length (Y2 ((0:Nat)+(Qr E m (natsG g0)).length) (KF (0:Nat) (λx x_1=>(0:Int)) λi=>QA.enc ((Qr E m (natsG g0)).getD i (Jn.mk (0:Int) (0:Int) (0:Int) (0:Int))))) λi=>QA.enc (v.getD i (Jn.mk (0:Int) (0:Int) (0:Int) (0:Int)))]):=by kernel_rfl
open Go.SX Go.SX.Told Go.Sort
variable {l:List Jn}{c i:Nat}(d:Puz)(E:ECt)(m:Int)(o:List Jn)
def Ke:List Jn:=E.1.flatMap (VH m)
theorem QOd{E:ECt}(hb:(E.1.map (·.born)).Nodup)(m:Int){S:List Nat}(h:QAw E S):(Qr E m S).Perm (Ke E m):=by
 have h1:=(QVM hb h.1 h.2).flatMap_right (Z2 E m);refine h1.trans (List.Perm.of_eq ?_);unfold Ke;rw[List.flatMap_map]
 have:∀ l:List MapEntry,(∀ e∈l,e∈E.1)->l.flatMap (λe=>Z2 E m e.born)=l.flatMap (VH m):=by
  intro l
  induction l with
  | nil=>intro _;rfl
  | cons e l ih=>
   intro hl;rw[List.flatMap_cons,List.flatMap_cons,ih λx hx=>hl x (List.mem_cons_of_mem _ hx)];congr 1;unfold Z2;rw[jx hb (hl e qmc)]
 exact this _ λ_ h=>h
def leJ(x y:Jn):Bool := !(ltOf Vl) y x
theorem QOX(a b c:Jn)(h1:leJ a b=true)(h2:leJ b c=true):leJ a c=true:=by
 unfold leJ at *;rw[Bool.not_eq_true']at *;exact QBO.ntrans c b a h2 h1
theorem QSB(a b:Jn):(leJ a b||leJ b a)=true:=by
 unfold leJ;cases h:ltOf Vl b a with
 | false=>rfl
 | true=>
  cases h2:ltOf Vl a b with
  | false=>rfl
  | true=>
   have:=QBO.trans _ _ _ h h2;rw[QBO.irrefl]at this;cases this
theorem QOc{l':List Jn}(h:l.Perm l'):KN l=KN l':=by
 unfold KN;refine List.Perm.eq_of_pairwise (le:=λa b=>leJ a b=true) ?_ (List.pairwise_mergeSort (le:=leJ) QOX QSB l) (List.pairwise_mergeSort (le:=leJ) QOX QSB l') (((List.mergeSort_perm l _).trans h).trans (List.mergeSort_perm l' _).symm);intro a b _ _ h1 h2;unfold leJ at h1 h2;rw[Bool.not_eq_true']at h1 h2;exact QKa a b h2 h1
theorem QeV:(List.range (0+o.length)).map (Xn (KF 0 (λ_ _=>0) λi=>QA.enc (o.getD i ⟨0,0,0,0⟩)))=o:=by
 apply List.ext_getElem
 .simp
 .intro i h1 h2;rw[List.getElem_map,List.getElem_range]
  have e:∀ j,KF 0 (λ_ _=>0) (λi=>QA.enc (o.getD i ⟨0,0,0,0⟩)) i j=QA.enc (o.getD i (⟨0,0,0,0⟩:Jn)) j:=λj=>by
   rw[YI,if_neg (by omega),Nat.sub_zero]
  unfold Xn;rw[e,e,e,e,Xs h2];rfl
theorem KW(N M k nid:Nat)(h:N<=M):Jb N M nid (M+k)=nid+k:=by
 have:Nat.blt (M+k) N=false:=QJQ (by omega)
 simp only[Jb,this];omega
theorem QcU(hw:WfE E)(hE:OkM E.1 E.2)(hl:E.1.length<=1000000000)(G:Ctx)(hrd:G.rd=none)(hG:G.n<=216):Qx (mkF prog Yl) G (joH prog E m) (Qk f89):=by
 refine KR (body:=QH f89 0) (JJ QEo) hrd (by kernel_rfl) ?_
 refine QeP (I:=jnI E m) (n0:=216) (JJ QEo) hG (λS _=>Qu (JJ QEo) 1 G _ hrd) (λS _=>?_) ?_ (QX5 E m hw hE hl) (s0:=[]) ⟨List.nodup_nil,λb h=>(by cases h)⟩ ?_
 .unfold jnI;cases (Qr E m S).isEmpty<;>exact(by decide:216<=272)
 .rintro s e J ⟨_,T,_,_,rfl⟩;unfold jnD;cases (Qr E m T).isEmpty<;>exact(by decide:216<=272)
 .rintro e J ⟨rfl,T,h1,h2,rfl⟩;obtain⟨g,hg⟩:=QTK T;refine⟨g,?_⟩;unfold jnD;rw[hg];cases h:(Qr E m T).isEmpty with
  | true=>exact⟨_,qmc,⟨⟨h1,h2⟩,List.isEmpty_iff.1 h⟩,rfl,rfl⟩
  | false=>
   refine⟨_,List.mem_cons_of_mem _ qmc,⟨⟨h1,h2⟩,?_⟩,rfl,rfl⟩;cases hh:Qr E m T with
   | nil=>rw[hh]at h;cases h
   | cons a l=>exact Nat.succ_pos _
theorem Qb8(n:Nat)(E:ECt)(m:Int)(v:List Jn):(joU d n E m v).Ok:=by
 refine⟨(by decide:208<=216),rfl,rfl,?_,rfl,λnid h=>?_,λnid h=>?_⟩
 .intro q hq;simp only[UC.po,joU,rwJ,List.mem_cons,List.not_mem_nil,or_false]at hq;rcases hq with rfl|rfl
  .exact⟨rfl,rfl,rfl,λ_=>rfl⟩
  .exact⟨rfl,rfl,rfl,λh=>absurd (show 216<208 from h) (by decide)⟩
 .have e0:=KW 208 216 0 nid (by decide)
  simp only[UC.va,joU,AV.mapId,Nat.add_zero]at e0 ⊢;rw[e0]
 .have e0:=KW 208 216 0 nid (by decide)
  simp only[UC.po,joU,rwJ,List.map_cons,List.map_nil,Blk.mapId,Nat.add_zero]at e0 ⊢;rw[e0];rfl
theorem QGf(n:Nat)(E:ECt)(m:Int)(hw:WfE E)(hE:OkM E.1 E.2)(hl:E.1.length<=1000000000):QR prog 89 (uFC (joU d n E m (KN (Ke E m)))):=by
 refine Kw (E:=mkF prog Yl) (JJ QEo) func89 (by kernel_rfl) (by kernel_rfl) (Qb8 ..) (λG h1 h2=>QcU E m hw hE hl G h1 (by rw[h2];exact qlr _)) ⟨?_⟩
 refine Qe (QYt d n E m (KN (Ke E m))) ?_
 repeat' first|refine Qp (p:=_=_) rfl ?_
 refine Qh λg0=>Kb (Qf λha=>Qh λ_=>QG rfl ?_) (Qf λha=>Qh λ_=>?_)
 .have hp:=QOd hE.born m ha.1;rw[ha.2]at hp;have hnil:=List.Perm.eq_nil hp.symm;refine⟨rfl,rfl,_,QdF d n E m (KN (Ke E m)),?_⟩;rw[hnil]
  repeat' first|exact QBA _|exact(QBA _).symm|exact tv|exact rfl|refine aI ?_ ?_
 .have hp:=QOd hE.born m ha.1;have hs:=QOc hp;have h1:=QCt ha.1.1;have h2:=QFu E m (natsG g0);have hlen:0+(Qr E m (natsG g0)).length=(KN (Ke E m)).length:=by rw[<-hs,QBA,Nat.zero_add]
  have hr:∀ k,QB 4 k (Y2 (0+(Qr E m (natsG g0)).length) (KF 0 (λ_ _=>0) λi=>QA.enc ((Qr E m (natsG g0)).getD i ⟨0,0,0,0⟩))) λi=>QA.enc ((KN (Ke E m)).getD i ⟨0,0,0,0⟩):=by
   intro k i _;show eqF 4 0 (QA.enc ((KN _).getD i (⟨0,0,0,0⟩:Jn))) _;rw[QeV,hs];exact⟨rfl,rfl,rfl,rfl,trivial⟩
  have hpos:=ha.2;refine QG (by simp;omega) (QG (by simp;omega) (QG (by simp;omega) ?_))
  refine⟨rfl,rfl,_,QfG d n E m (KN (Ke E m)) g0,?_⟩
  repeat' first|exact tv|exact hlen|exact Nat.le_of_eq hlen|exact Nat.le_of_eq hlen.symm|exact hr _|exact rfl|refine aI ?_ ?_
def QFl(k:Int)(A B:FC):FC:=λargs nid all=>match args with
 | [_,.int _ _ m]=>(match decide (m=k)with
  | true=>A args nid all
  | false=>B args nid all)
 | _=>([],λ_=>none)
theorem QZe{P:Program}{f:FuncId}{k:Int}{A B:FC}(hA:QR P f A)(hB:QR P f B):QR P f (QFl k A B):=by
 refine⟨hA.1,λargs nid all r w lk blks eff hH ha hv he hp=>?_⟩;unfold QFl at hv he;split at he<;>(try (cases he;done))
 rename_i m;simp only at hv;cases hd:decide (m=k)with
 | true=>
  rw[hd]at hv he;exact hA.2 _ nid all r w lk blks eff hH ha hv he hp
 | false=>
  rw[hd]at hv he;exact hB.2 _ nid all r w lk blks eff hH ha hv he hp
def QAK(pb:List Prop->Bool)(d:Puz)(E:ECt)(v w:List Jn):Tab:=Qa (Qa KG 60 (KE pb (nbU d E))) 89 (QFl 2 (KE pb (joU d 0 E 2 v)) (KE pb (joU d 0 E 1 w)))
theorem QdZ(pb:List Prop->Bool)(d:Puz)(E:ECt)(v w:List Jn):Kl (mkE prog (QAK pb d E v w)) (hnd (mkE prog (QAK pb d E v w)) 2) f40 (Qd.vals 0 ((d,()):Puz×Unit)) (Qd.blks 0 ((d,()):Puz×Unit)) 104 = .need (decide (d.ps.n<=d.ps.n)&&true&&decide (d.ps.n<=1000)) (.br (!d.ok) (.leaf (.tup [.nils,.nils,vj 1]) ([])) (.need (pb ((waa d++([cO=cO]++wad d)))) (.need (pb (([0=0,0=0,(2:Int)=2]++waa d++([cO=cO,0=0]++wad d++[E.1=E.1,E.2=E.2])))) (.need (pb (([0=0,0=0,(1:Int)=1]++waa d++([cO=cO,0=0]++wad d++[E.1=E.1,E.2=E.2])))) (.leaf (.tup [.slz 288 0 v.length cO,.slz 304 0 w.length cO,vj 0]) ([(288,.rowz true 67 (waG) v.length λi=>QA.enc (v.getD i (Jn.mk (0:Int) (0:Int) (0:Int) (0:Int)))),(304,.rowz true 67 (waG) w.length λi=>QA.enc (w.getD i (Jn.mk (0:Int) (0:Int) (0:Int) (0:Int))))])))))):=by kernel_rfl
def QB2(v w:List Jn)(e:Int):AV := .tup [.slz 0 0 v.length (.of 0),.slz 1 0 w.length (.of 0),.int false .i64 e]
def QBC(v w:List Jn):List (Nat×Blk):=[rwJ true 0 v,rwJ true 1 w]
theorem QU5(v w:List Jn)(e:Int):QE 104 [(AV.tup [AV.nils,AV.nils,vj (1:Int)])] ([]) (KP 104 (QB2 v w e) (QBC v w))=( some [v.length=(0:Nat),w.length=(0:Nat),(1:Int)=e,v.length=(0:Nat),w.length=(0:Nat)]):=by kernel_rfl
theorem Qd3(v w v' w':List Jn)(e:Int):QE 104 [(AV.tup [AV.slz (288:Nat) (0:Nat) v.length cO,AV.slz (304:Nat) (0:Nat) w.length cO,vj (0:Int)])] ([((288:Nat),Blk.rowz true (67:Nat) [CK.int i64,CK.int i64,CK.int i64,CK.int i64] v.length λi=>QA.enc (v.getD i (Jn.mk (0:Int) (0:Int) (0:Int) (0:Int)))),((304:Nat),Blk.rowz true (67:Nat) [CK.int i64,CK.int i64,CK.int i64,CK.int i64] w.length λi=>QA.enc (w.getD i (Jn.mk (0:Int) (0:Int) (0:Int) (0:Int))))]) (KP 104 (QB2 v' w' e) (QBC v' w'))=( some [0=0,v.length=v'.length,cO=cO,0=0,w.length=w'.length,cO=cO,(0:Int)=e,v'.length<=v.length,QB (4:Nat) v'.length (λi=>QA.enc (v.getD i (Jn.mk (0:Int) (0:Int) (0:Int) (0:Int)))) λi=>QA.enc (v'.getD i (Jn.mk (0:Int) (0:Int) (0:Int) (0:Int))),w'.length<=w.length,QB (4:Nat) w'.length (λi=>QA.enc (w.getD i (Jn.mk (0:Int) (0:Int) (0:Int) (0:Int)))) λi=>QA.enc (w'.getD i (Jn.mk (0:Int) (0:Int) (0:Int) (0:Int)))]):=by kernel_rfl
structure OkE (E:ECt) (c:Nat):Prop where
 w:WfE E
 m:OkM E.1 E.2
 l:E.1.length<=c
theorem Qcl(k:List Int)(kv v:Value)(cl:Nat)(es:List MapEntry):(JE k kv v cl es).length<=es.length+1:=by
 have hs:∀(es:List MapEntry) (i:Nat),(J9 kv v es i).length=es.length:=by
  intro es
  induction es with
  | nil=>intro i;cases i<;>rfl
  | cons e es ih=>intro i;cases i with
   | zero=>rfl
   | succ i=>simp only[J9,List.length_cons,ih]
 unfold JE;split
 .rw[hs];exact Nat.le_succ _
 .simp
theorem QXk{E:ECt}(h:OkE E c)(i s k t:Nat)(n:Int):OkE (QC7 i s k t n E) (c+1):=
 ⟨QPa h.w ..,QS5 (λe he=>vU he) h.m,Nat.le_trans (Qcl ..) (Nat.succ_le_succ h.l)⟩
theorem Hk{E:ECt}{c':Nat}(h:OkE E c)(hc:c<=c'):OkE E c':=⟨h.w,h.m,Nat.le_trans h.l hc⟩
theorem QY4{d:Puz}{p q:QV}{k s t:Nat}{E:ECt}(h:OkE E c):OkE (stE d p q i k s t E) (c+1):=by
 unfold stE;cases ((i:Int) != (k:Int))&&(meF d p q s t != 0)
 .exact Hk h (Nat.le_succ _)
 .exact QXk h ..
theorem QND{d:Puz}{p q:QV}{i k s:Nat}{E:ECt}{c:Nat}(h:OkE E c):∀ t,OkE (m4 d p q i k s E t) (c+t)
 | 0=>h
 | t+1=>QY4 (QND h t)
theorem QOM{d:Puz}{p q:QV}{i k:Nat}{E:ECt}{c:Nat}(h:OkE E c):∀ s,OkE (m3 d p q i k E s) (c+4*s)
 | 0=>h
 | s+1=>Hk (QND (QOM h s) 4) (by omega)
theorem QPJ{d:Puz}{p:QV}{i:Nat}{E:ECt}{c:Nat}(h:OkE E c):∀ k,OkE (m2 d p i E k) (c+16*k)
 | 0=>h
 | k+1=>Hk (QOM (QPJ h k) 4) (by omega)
theorem QMC(d:Puz):∀ i,OkE (m1 d i) (16*d.ps.n*i)
 | 0=>⟨rfl,⟨List.nodup_nil,λe h=>(by cases h),List.nodup_nil⟩,Nat.zero_le _⟩
 | i+1=>Hk (QPJ (QMC d i) d.ps.n) (by rw[Nat.mul_succ];exact qlr _)
def QK:ECt:=m1 d d.ps.n
theorem Ze(hn:d.ps.n<=1000):OkE (QK d) 16000000:=Hk (QMC d d.ps.n) (by
 have:=Nat.mul_le_mul (Nat.mul_le_mul (qlr 16) hn) hn;omega)
def Wv:List Jn×List Jn×Int:=cond d.ok (KN (Ke (QK d) 2),KN (Ke (QK d) 1),0) ([],[],1)
def Zn:WF (Puz×Unit):=λ|(d,_)=>(decide (d.ps.n<=1000),QB2 (Wv d).1 (Wv d).2.1 (Wv d).2.2,QBC (Wv d).1 (Wv d).2.1)
def QWd:FC:=wFC Zn
theorem QeX:WOk (Zn (d,())).2.1 (Zn (d,())).2.2:=⟨rfl,by simp[Zn,QBC,rwJ,Blk.own,Blk.all],rfl⟩
theorem QVH(hn:d.ps.n<=1000):Qc (QAK QP d (QK d) (KN (Ke (QK d) 2)) (KN (Ke (QK d) 1))):=by
 have h:=Ze d hn;have hl:=Nat.le_trans h.l (show 16000000<=1000000000 by decide)
 exact(JH.add (Zw d (by omega))).add (QZe (QGf d 0 (QK d) 2 h.w h.m hl) (QGf d 0 (QK d) 1 h.w h.m hl))
theorem QZW(hx:(Zn (d,())).1=true):QR prog 40 (wFC (VF Zn (d,()))):=by
 have hn:d.ps.n<=1000:=qdt hx;have hT:=QVH d hn;refine YY (c:=Qk f40) (E:=mkE prog (QAK QP d (QK d) (KN (Ke (QK d) 2)) (KN (Ke (QK d) 1)))) (H:=hnd (mkE prog (QAK QP d (QK d) (KN (Ke (QK d) 2)) (KN (Ke (QK d) 1)))) 2) (QN hT) func40 (by kernel_rfl) (by kernel_rfl) (N:=104) (by decide) (d,()) (λG h1 _=>Qu (QN hT) 2 G _ h1) (QeX d) ?_
 refine Qe (QdZ QP d (QK d) (KN (Ke (QK d) 2)) (KN (Ke (QK d) 1))) ?_;have hv:Wv d=cond d.ok (KN (Ke (QK d) 2),KN (Ke (QK d) 1),0) ([],[],1):=rfl;refine QG ?_ ?_;rotate_left;refine QF (λb0=>?_) (λb0=>?_);have b0:d.ok=false:=by simpa using b0
 rw[b0,cond_false]at hv;simp only[Zn,hv];refine⟨rfl,rfl,_,QU5 [] [] 1,?_⟩
 rotate_left
 iterate 3 (refine QG ?_ ?_;rotate_left)
 have b0:d.ok=true:=by simpa using b0
 rw[b0,cond_true]at hv;simp only[Zn,hv];refine⟨rfl,rfl,_,Qd3 (KN (Ke (QK d) 2)) (KN (Ke (QK d) 1)) (KN (Ke (QK d) 2)) (KN (Ke (QK d) 1)) 0,?_⟩
 rotate_left
 all_goals first|((with_reducible show _=true);(first|(refine Q7.2 ?_;repeat' first|exact tv|exact qRr|exact rfl|refine aI ?_ ?_)|(simp;omega)))|(repeat' first|with_reducible refine QO ?_ ?_|exact tv|exact qRr|exact rfl|refine aI ?_ ?_)
theorem QYQ:QR prog 40 QWd:=GP (by kernel_rfl) λ|(d,()),hx=>QZW d hx
end Go.Proofs.YtekbmehgcofnkaaGreat
namespace Go.SX
open Go Go.RowKit Go.Proofs.YtekbmehgcofnkaaGreat Told
theorem QCc(k:List Int):∀(es:List MapEntry) (i:Nat),(Kt k es i).map (·.2)=(Kt k es 0).map (·.2)
 | [],_=>rfl
 | e::es,i=>by
  simp only[Kt];cases Kc e==k with
  | true=>rfl
  | false=>exact(QCc k es (i+1)).trans (QCc k es 1).symm
theorem YX(k:List Int)(e:MapEntry)(es:List MapEntry):KJ (e::es) k=cond (Kc e==k) (intV e.val) (KJ es k):=by
 unfold KJ;simp only[Kt];cases Kc e==k with
 | true=>rfl
 | false=>
  have h:=QCc k es 1;simp only[cond_false];cases h1:Kt k es (0+1)with
  | none=>rw[Nat.zero_add]at h1;rw[h1]at h;cases h0:Kt k es 0 with
   | none=>rfl
   | some q=>rw[h0]at h;cases h
  | some q=>rw[Nat.zero_add]at h1;rw[h1]at h;cases h0:Kt k es 0 with
   | none=>rw[h0]at h;cases h
   | some q'=>
    rw[h0]at h;simp only[Option.map_some,qsI]at h;obtain⟨a,b⟩:=q;obtain⟨a',b'⟩:=q';simp only at h;subst h;rfl
theorem QRP(k:List Int)(e:MapEntry):∀ es:List MapEntry,Kt k es 0=none->KJ (es++[e]) k=cond (Kc e==k) (intV e.val) 0
 | [],_=>by rw[List.nil_append,YX];rfl
 | x::es,h=>by
  have hx:=QFd h x qmc;rw[List.cons_append,YX,beq_false_of_ne hx,cond_false];refine QRP k e es ?_;have:=QCc k es 1;simp only[Kt,beq_false_of_ne hx]at h;rw[show Kt k es 1=none from h]at this;cases h0:Kt k es 0 with
  | none=>rfl
  | some q=>rw[h0]at this;cases this
theorem QRL(k:List Int)(e:MapEntry)(hk:Kc e≠k):∀ es:List MapEntry,KJ (es++[e]) k=KJ es k
 | []=>by rw[List.nil_append,YX,beq_false_of_ne hk];rfl
 | x::es=>by rw[List.cons_append,YX,YX,QRL k e hk es]
theorem QMW{k:List Int}{kv v:Value}(hk:∀ e:MapEntry,e.key=kv->Kc e=k)(k':List Int):∀{es:List MapEntry} {i j:Nat} {u:Value},Kt k es i=some (j,u)->KJ (J9 kv v es (j-i)) k'=cond (k==k') (intV v) (KJ es k')
 | [],_,_,_,h=>by cases h
 | e::es,i,j,u,h=>by
  simp only[Kt]at h;cases hx:Kc e==k with
  | true=>
   rw[hx]at h;simp only[qsI,qpI]at h;obtain⟨rfl,rfl⟩:=h;rw[Nat.sub_self];simp only[J9];rw[YX,hk _ rfl,YX,beq_iff_eq.1 hx];cases k==k'<;>rfl
  | false=>
   rw[hx]at h;have h1:=(Hw h).1;have ih:=QMW hk k' h (v:=v);rw[show j-i=(j-(i+1))+1 by omega]
   simp only[J9];rw[YX,ih,YX];cases he:Kc e==k' with
   | false=>rfl
   | true=>
    have:(k==k')=false:=by
     rw[beq_iff_eq.1 he]at hx;rw[beq_eq_false_iff_ne]at hx ⊢;exact λq=>hx q.symm
    rw[this];rfl
theorem Qeu{k:List Int}{kv v:Value}(hk:∀ e:MapEntry,e.key=kv->Kc e=k)(cl:Nat)(es:List MapEntry)(k':List Int):KJ (JE k kv v cl es) k'=cond (k==k') (intV v) (KJ es k'):=by
 unfold JE;cases hf:Kt k es 0 with
 | some q=>
  obtain⟨i,u⟩:=q;have:=QMW hk k' hf (v:=v);rw[Nat.sub_zero]at this;exact this
 | none=>
  have hkk:=hk { key:=kv,val:=v,born:=cl } rfl;show KJ (es++[_]) k'=_;cases hq:k==k' with
  | true=>
   have:k=k':=beq_iff_eq.1 hq;subst this;rw[QRP k _ es hf,hkk,hq];rfl
  | false=>rw[QRL k' _ (by rw[hkk];exact beq_eq_false_iff_ne.1 hq) es];rfl
theorem QGQ:∀{es:List MapEntry} {e:MapEntry},(es.map Kc).Nodup->e∈es->KJ es (Kc e)=intV e.val
 | [],_,_,h=>by cases h
 | x::es,e,hn,h=>by
  rw[List.map_cons,List.nodup_cons]at hn;rw[YX];rcases List.mem_cons.1 h with rfl|h
  .simp
  .have:(Kc x==Kc e)=false:=by
    rw[beq_eq_false_iff_ne];intro q;exact hn.1 (q ▸ List.mem_map_of_mem h)
   rw[this];exact QGQ hn.2 h
theorem QJB:∀{es:List MapEntry} {k:List Int},KJ es k≠0->∃ e∈es,Kc e=k
 | [],k,h=>absurd rfl h
 | x::es,k,h=>by
  rw[YX]at h;cases hx:Kc x==k with
  | true=>exact⟨x,qmc,beq_iff_eq.1 hx⟩
  | false=>
   rw[hx]at h;obtain⟨e,he,hk⟩:=QJB h;exact⟨e,List.mem_cons_of_mem _ he,hk⟩
end Go.SX
namespace Go.Proofs.YtekbmehgcofnkaaGreat
open Go.SX Go.SX.Told
variable {i:Nat}(d:Puz)
theorem QVB{d:Puz}{p q:QV}{k s t:Nat}{E:ECt}(K:List Int):KJ (stE d p q i k s t E).1 K=cond ((((i:Int) != (k:Int))&&(meF d p q s t != 0))&&([(i:Int),(s:Int),(k:Int),(t:Int)]==K)) (meF d p q s t) (KJ E.1 K):=by
 unfold stE;cases ((i:Int) != (k:Int))&&(meF d p q s t != 0)with
 | false=>rfl
 | true=>
  rw[Bool.true_and];exact Qeu (λe he=>vU he) _ _ K
theorem QJ8{d:Puz}{p q:QV}{i k s:Nat}{E:ECt}(a b c e:Int):∀ t:Nat,KJ (m4 d p q i k s E t).1 [a,b,c,e]=if (a=i/\b=s/\c=k/\0<=e/\e<t/\a≠c)/\meF d p q s e.toNat≠0 then meF d p q s e.toNat else KJ E.1 [a,b,c,e]
 | 0=>by rw[if_neg (by omega)];rfl
 | t+1=>by
  show KJ (stE d p q i k s t (m4 d p q i k s E t)).1 _=_;rw[QVB,QJ8 a b c e t]
  by_cases h:(i:Int)≠k/\meF d p q s t≠0/\a=i/\b=s/\c=k/\e=t
  .obtain⟨h1,h2,rfl,rfl,rfl,rfl⟩:=h;have:((((i:Int) != (k:Int))&&(meF d p q s t != 0))&&([(i:Int),(s:Int),(k:Int),(t:Int)]==[(i:Int),(s:Int),(k:Int),(t:Int)]))=true:=by simp[h2];omega
   rw[this,cond_true,if_pos ⟨by omega,by simpa using h2⟩]
   simp
  .have:((((i:Int) != (k:Int))&&(meF d p q s t != 0))&&([(i:Int),(s:Int),(k:Int),(t:Int)]==[a,b,c,e]))=false:=by
    rw[Bool.eq_false_iff];intro q;simp only[qbA,bne_iff_ne,ne_eq,beq_iff_eq,List.cons.injEq,and_true]at q;exact h ⟨q.1.1,q.1.2,q.2.1.symm,q.2.2.1.symm,q.2.2.2.1.symm,q.2.2.2.2.symm⟩
   rw[this,cond_false]
   by_cases h2:(a=i/\b=s/\c=k/\0<=e/\e<t/\a≠c)/\meF d p q s e.toNat≠0
   .rw[if_pos h2,if_pos ⟨by omega,h2.2⟩]
   .rw[if_neg h2,if_neg];rintro⟨⟨h3,h4,h5,h6,h7,h8⟩,h9⟩
    by_cases he:e=t
    .subst he;exact h ⟨by omega,by simpa using h9,h3,h4,h5,rfl⟩
    .exact h2 ⟨⟨h3,h4,h5,h6,by omega,h8⟩,h9⟩
theorem QR5{d:Puz}{p q:QV}{i k:Nat}{E:ECt}(a b c e:Int):∀ s:Nat,KJ (m3 d p q i k E s).1 [a,b,c,e]=if (a=i/\0<=b/\b<s/\c=k/\0<=e/\e<4/\a≠c)/\meF d p q b.toNat e.toNat≠0 then meF d p q b.toNat e.toNat else KJ E.1 [a,b,c,e]
 | 0=>by rw[if_neg (by omega)];rfl
 | s+1=>by
  show KJ (m4 d p q i k s (m3 d p q i k E s) 4).1 _=_;rw[QJ8,QR5 a b c e s]
  by_cases hb:b=s
  .subst hb;rw[Int.toNat_natCast]
   by_cases h:(a=i/\(s:Int)=s/\c=k/\0<=e/\e<(4:Nat)/\a≠c)/\meF d p q s e.toNat≠0
   .rw[if_pos h,if_pos ⟨by omega,h.2⟩]
   .rw[if_neg h,if_neg (by omega),if_neg]
    rintro⟨h1,h2⟩;exact h ⟨by omega,h2⟩
  .rw[if_neg (λh=>hb h.1.2.1)]
   by_cases h:(a=i/\0<=b/\b<s/\c=k/\0<=e/\e<4/\a≠c)/\meF d p q b.toNat e.toNat≠0
   .rw[if_pos h,if_pos ⟨by omega,h.2⟩]
   .rw[if_neg h,if_neg];rintro⟨h1,h2⟩;exact h ⟨by omega,h2⟩
theorem QOq{d:Puz}{p:QV}{i:Nat}{E:ECt}(a b c e:Int):∀ k:Nat,KJ (m2 d p i E k).1 [a,b,c,e]=if (a=i/\0<=b/\b<4/\0<=c/\c<k/\0<=e/\e<4/\a≠c)/\meF d p (d.ps.get c.toNat) b.toNat e.toNat≠0 then meF d p (d.ps.get c.toNat) b.toNat e.toNat else KJ E.1 [a,b,c,e]
 | 0=>by rw[if_neg (by omega)];rfl
 | k+1=>by
  show KJ (m3 d p (d.ps.get k) i k (m2 d p i E k) 4).1 _=_;rw[QR5,QOq a b c e k]
  by_cases hc:c=k
  .subst hc;rw[Int.toNat_natCast]
   by_cases h:(a=i/\0<=b/\b<(4:Nat)/\(k:Int)=k/\0<=e/\e<4/\a≠k)/\meF d p (d.ps.get k) b.toNat e.toNat≠0
   .rw[if_pos h,if_pos ⟨by omega,h.2⟩]
   .rw[if_neg h,if_neg (by omega),if_neg]
    rintro⟨h1,h2⟩;exact h ⟨by omega,h2⟩
  .rw[if_neg (λh=>hc h.1.2.2.2.1)]
   by_cases h:(a=i/\0<=b/\b<4/\0<=c/\c<k/\0<=e/\e<4/\a≠c)/\meF d p (d.ps.get c.toNat) b.toNat e.toNat≠0
   .rw[if_pos h,if_pos ⟨by omega,h.2⟩]
   .rw[if_neg h,if_neg];rintro⟨h1,h2⟩;exact h ⟨by omega,h2⟩
theorem QQp(d:Puz)(a b c e:Int):∀ i:Nat,KJ (m1 d i).1 [a,b,c,e]=if (0<=a/\a<i/\0<=b/\b<4/\0<=c/\c<d.ps.n/\0<=e/\e<4/\a≠c)/\meF d (d.ps.get a.toNat) (d.ps.get c.toNat) b.toNat e.toNat≠0 then meF d (d.ps.get a.toNat) (d.ps.get c.toNat) b.toNat e.toNat else 0
 | 0=>by rw[if_neg (by omega)];rfl
 | i+1=>by
  show KJ (m2 d (d.ps.get i) i (m1 d i) d.ps.n).1 _=_;rw[QOq,QQp d a b c e i]
  by_cases ha:a=i
  .subst ha;rw[Int.toNat_natCast]
   by_cases h:((i:Int)=i/\0<=b/\b<4/\0<=c/\c<d.ps.n/\0<=e/\e<4/\(i:Int)≠c)/\meF d (d.ps.get i) (d.ps.get c.toNat) b.toNat e.toNat≠0
   .rw[if_pos h,if_pos ⟨by omega,h.2⟩]
   .rw[if_neg h,if_neg (by omega),if_neg]
    rintro⟨h1,h2⟩;exact h ⟨by omega,h2⟩
  .rw[if_neg (λh=>ha h.1.1)]
   by_cases h:(0<=a/\a<i/\0<=b/\b<4/\0<=c/\c<d.ps.n/\0<=e/\e<4/\a≠c)/\meF d (d.ps.get a.toNat) (d.ps.get c.toNat) b.toNat e.toNat≠0
   .rw[if_pos h,if_pos ⟨by omega,h.2⟩]
   .rw[if_neg h,if_neg];rintro⟨h1,h2⟩;exact h ⟨by omega,h2⟩
theorem QCC(a b c e:Int):KJ (QK d).1 [a,b,c,e]=if 0<=a/\a<d.ps.n/\0<=b/\b<4/\0<=c/\c<d.ps.n/\0<=e/\e<4/\a≠c then meF d (d.ps.get a.toNat) (d.ps.get c.toNat) b.toNat e.toNat else 0:=by
 rw[QK,QQp]
 by_cases h:0<=a/\a<d.ps.n/\0<=b/\b<4/\0<=c/\c<d.ps.n/\0<=e/\e<4/\a≠c
 .rw[if_pos h]
  by_cases h2:meF d (d.ps.get a.toNat) (d.ps.get c.toNat) b.toNat e.toNat≠0
  .rw[if_pos ⟨h,h2⟩]
  .rw[if_neg (λq=>h2 q.2)];exact(Classical.not_not.1 h2).symm
 .rw[if_neg h,if_neg (λq=>h q.1)]
open Go.SX Go.SX.Told Go.Sort
variable {e:MapEntry}{x:Jn}{c p i:Nat}(d:Puz)(m:Int)
theorem QCu{E:ECt}(h:WfE E)(he:e∈E.1):Kc e=[QQ e 0,QQ e 1,QQ e 2,QQ e 3]:=by
 have:=List.all_eq_true.1 (show wf4 .i64 E.1=true from h) e he;rw[qbA]at this;obtain⟨a,b,c,d,hk⟩:=QBW this.1;have hl:=vU hk;unfold QQ;rw[hl];rfl
theorem QCd{m:Int}:x∈VH m e↔(m<=intV e.val/\QQ e 0<QQ e 2)/\x=j5 e:=by
 unfold VH
 by_cases h:m<=intV e.val/\QQ e 0<QQ e 2
 .rw[qde h.1,qde h.2];simp[h]
 .have:(decide (m<=intV e.val)&&decide (QQ e 0<QQ e 2))=false:=by
   rw[Bool.eq_false_iff];intro q;simp only[qbA,qdE]at q;exact h q
  rw[this];simp[h]
theorem Qce{E:ECt}(h:OkE E c){m:Int}(hm:1<=m)(x:Jn):x∈Ke E m↔m<=KJ E.1 [x.a,x.i,x.b,x.j]/\x.a<x.b:=by
 unfold Ke;rw[List.mem_flatMap];constructor
 .rintro⟨e,he,hx⟩;obtain⟨⟨h1,h2⟩,rfl⟩:=QCd.1 hx;have hk:=QCu h.w he;have hl:=QGQ h.m.keys he;rw[hk]at hl;exact⟨by show m<=KJ E.1 [QQ e 0,QQ e 1,QQ e 2,QQ e 3];rw[hl];exact h1,h2⟩
 .rintro⟨h1,h2⟩;obtain⟨e,he,hk⟩:=QJB (es:=E.1) (k:=[x.a,x.i,x.b,x.j]) (by omega)
  have hk4:=QCu h.w he;have hl:=QGQ h.m.keys he;rw[hk]at hl;rw[hk]at hk4;simp only[List.cons.injEq,and_true]at hk4;obtain⟨e1,e2,e3,e4⟩:=hk4;refine⟨e,he,QCd.2 ⟨⟨by rw[<-hl];exact h1,by rw[<-e1,<-e3];exact h2⟩,?_⟩⟩
  obtain⟨a,i,b,j⟩:=x;simp only at e1 e2 e3 e4;unfold j5;rw[<-e1,<-e2,<-e3,<-e4]
theorem Qbj{E:ECt}(h:OkE E c)(m:Int):(Ke E m).Nodup:=by
 unfold Ke List.Nodup;rw[List.pairwise_flatMap];constructor
 .intro e _;unfold VH;cases decide (m<=intV e.val)&&decide (QQ e 0<QQ e 2)
  .exact List.Pairwise.nil
  .exact List.pairwise_singleton _ _
 .have hp:E.1.Pairwise λa b=>Kc a≠Kc b:=List.pairwise_map.1 h.m.keys;refine hp.imp_of_mem ?_;intro a b ha hb hab x hx y hy;obtain⟨_,rfl⟩:=QCd.1 hx;obtain⟨_,rfl⟩:=QCd.1 hy;intro q;apply hab;rw[QCu h.w ha,QCu h.w hb];simp only[j5,Jn.mk.injEq]at q;rw[q.1,q.2.1,q.2.2.1,q.2.2.2]
def isJ(p i q j:Nat):Bool:=decide (p<q)&&decide (m<=meF d (d.ps.get p) (d.ps.get q) i j)
def QDV(p i q:Nat):List Jn:=(List.range 4).flatMap λj=>cond (isJ d m p i q j) [⟨p,i,q,j⟩] []
def QDW(p i:Nat):List Jn:=(List.range d.ps.n).flatMap (QDV d m p i)
def QD1(p:Nat):List Jn:=(List.range 4).flatMap (QDW d m p)
def XT:List Jn:=(List.range d.ps.n).flatMap (QD1 d m)
theorem QCw{d:Puz}{m:Int}{q:Nat}:x∈QDV d m p i q↔∃ j,j<4/\isJ d m p i q j=true/\x=⟨p,i,q,j⟩:=by
 unfold QDV;rw[List.mem_flatMap];constructor
 .rintro⟨j,hj,hx⟩;cases hb:isJ d m p i q j with
  | false=>rw[hb]at hx;cases hx
  | true=>
   rw[hb]at hx;exact⟨j,List.mem_range.1 hj,hb,by simpa using hx⟩
 .rintro⟨j,hj,hb,rfl⟩;exact⟨j,List.mem_range.2 hj,by rw[hb];exact List.mem_singleton.2 rfl⟩
theorem QCF{d:Puz}{m:Int}:x∈QDW d m p i↔∃ q j,q<d.ps.n/\j<4/\isJ d m p i q j=true/\x=⟨p,i,q,j⟩:=by
 unfold QDW;rw[List.mem_flatMap];constructor
 .rintro⟨q,hq,hx⟩;obtain⟨j,hj,hb,rfl⟩:=QCw.1 hx;exact⟨q,j,List.mem_range.1 hq,hj,hb,rfl⟩
 .rintro⟨q,j,hq,hj,hb,rfl⟩;exact⟨q,List.mem_range.2 hq,QCw.2 ⟨j,hj,hb,rfl⟩⟩
theorem QCa{d:Puz}{m:Int}:x∈QD1 d m p↔∃ i q j,i<4/\q<d.ps.n/\j<4/\isJ d m p i q j=true/\x=⟨p,i,q,j⟩:=by
 unfold QD1;rw[List.mem_flatMap];constructor
 .rintro⟨i,hi,hx⟩;obtain⟨q,j,hq,hj,hb,rfl⟩:=QCF.1 hx;exact⟨i,q,j,List.mem_range.1 hi,hq,hj,hb,rfl⟩
 .rintro⟨i,q,j,hi,hq,hj,hb,rfl⟩;exact⟨i,List.mem_range.2 hi,QCF.2 ⟨q,j,hq,hj,hb,rfl⟩⟩
theorem Qcw{d:Puz}{m:Int}:x∈XT d m↔∃ p i q j,p<d.ps.n/\i<4/\q<d.ps.n/\j<4/\isJ d m p i q j=true/\x=⟨p,i,q,j⟩:=by
 unfold XT;rw[List.mem_flatMap];constructor
 .rintro⟨p,hp,hx⟩;obtain⟨i,q,j,hi,hq,hj,hb,rfl⟩:=QCa.1 hx;exact⟨p,i,q,j,List.mem_range.1 hp,hi,hq,hj,hb,rfl⟩
 .rintro⟨p,i,q,j,hp,hi,hq,hj,hb,rfl⟩;exact⟨p,List.mem_range.2 hp,QCa.2 ⟨i,q,j,hi,hq,hj,hb,rfl⟩⟩
theorem QPz:(XT d m).Pairwise λx y=>Vl x y<0:=by
 unfold XT;rw[List.pairwise_flatMap];refine⟨λp _=>?_,List.pairwise_lt_range.imp λ{p p'} hp x hx y hy=>?_⟩
 .unfold QD1;rw[List.pairwise_flatMap];refine⟨λi _=>?_,List.pairwise_lt_range.imp λ{i i'} hi x hx y hy=>?_⟩
  .unfold QDW;rw[List.pairwise_flatMap];refine⟨λq _=>?_,List.pairwise_lt_range.imp λ{q q'} hq x hx y hy=>?_⟩
   .unfold QDV;rw[List.pairwise_flatMap];refine⟨λj _=>?_,List.pairwise_lt_range.imp λ{j j'} hj x hx y hy=>?_⟩
    .cases isJ d m p i q j
     .exact List.Pairwise.nil
     .exact List.pairwise_singleton _ _
    .cases hb:isJ d m p i q j with
     | false=>rw[hb]at hx;cases hx
     | true=>
      cases hb':isJ d m p i q j' with
      | false=>rw[hb']at hy;cases hy
      | true=>
       rw[hb]at hx;rw[hb']at hy;have hx:x=⟨p,i,q,j⟩:=by simpa using hx
       have hy:y=⟨p,i,q,j'⟩:=by simpa using hy
       subst hx hy;have hj:j<j':=hj;rw[Yx];exact .inr ⟨rfl,.inr ⟨rfl,.inr ⟨rfl,by show(j:Int)<j';omega⟩⟩⟩
   .obtain⟨j,_,_,rfl⟩:=QCw.1 hx;obtain⟨j',_,_,rfl⟩:=QCw.1 hy;have hq:q<q':=hq;rw[Yx];exact .inr ⟨rfl,.inr ⟨rfl,.inl (by show(q:Int)<q';omega)⟩⟩
  .obtain⟨q,j,_,_,_,rfl⟩:=QCF.1 hx;obtain⟨q',j',_,_,_,rfl⟩:=QCF.1 hy;have hi:i<i':=hi;rw[Yx];exact .inr ⟨rfl,.inl (by show(i:Int)<i';omega)⟩
 .obtain⟨i,q,j,_,_,_,_,rfl⟩:=QCa.1 hx;obtain⟨i',q',j',_,_,_,_,rfl⟩:=QCa.1 hy;have hp:p<p':=hp;rw[Yx];simp only;omega
theorem QTM(x:Jn):¬ Vl x x<0:=by rw[Yx];omega
theorem QHF(hn:d.ps.n<=1000){m:Int}(hm:1<=m):KN (Ke (QK d) m)=XT d m:=by
 have hE:=Ze d hn;have hnd:(XT d m).Nodup:=(QPz d m).imp λ{x y} h q=>by subst q;exact QTM x h
 have hp:(Ke (QK d) m).Perm (XT d m):=by
  rw[List.perm_ext_iff_of_nodup (Qbj hE m) hnd];intro x;rw[Qce hE hm,Qcw,QCC];constructor
  .rintro⟨h1,h2⟩
   by_cases h:0<=x.a/\x.a<d.ps.n/\0<=x.i/\x.i<4/\0<=x.b/\x.b<d.ps.n/\0<=x.j/\x.j<4/\x.a≠x.b
   .rw[if_pos h]at h1;refine⟨x.a.toNat,x.i.toNat,x.b.toNat,x.j.toNat,by omega,by omega,by omega,by omega,?_,?_⟩
    .unfold isJ;rw[qde h1,qde (by omega)];rfl
    .obtain⟨a,i,b,j⟩:=x;simp only[Jn.mk.injEq]at *;omega
   .rw[if_neg h]at h1;omega
  .rintro⟨p,i,q,j,hp,hi,hq,hj,hb,rfl⟩;simp only[isJ,qbA,qdE]at hb;refine⟨?_,by show(p:Int)<q;omega⟩
   rw[if_pos (by simp only;omega)]
   exact hb.2
 rw[QOc hp];unfold KN;refine List.mergeSort_of_pairwise ((QPz d m).imp λ{x y} h=>?_);have:¬ Vl y x<0:=by rw[Yx]at h ⊢;omega
 simp[ltOf,this]
