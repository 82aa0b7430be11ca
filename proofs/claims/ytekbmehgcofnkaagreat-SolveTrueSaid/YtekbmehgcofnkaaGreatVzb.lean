/- - -/
import Derived.Test.YtekbmehgcofnkaaGreatVza
import Derived.Shelf.SlSortCmp.NoneTotal
noncomputable section
open Go.Proofs.Tryz
open Go.IntKind (i64)
set_option maxRecDepth 100000
namespace Go.Proofs.YtekbmehgcofnkaaGreat
open Go Go.RowKit Go.Lib Go.Shelf Go.Sort Go.SX Go.SX.Told
variable {l:List Jn}
theorem Qa4{w:World}{b m:Nat}{os:Array Obj}{l':List Jn}{rest:List Value}{ty:TypeId}(h:bk w b=some (.cells (l.flatMap JP++rest).toArray ty (0,0)))(hl:l.length=l'.length):
  bk (sortWorldK JP 4 w b 0 m l'.toArray os) b=some (.cells (l'.flatMap JP++rest).toArray ty (0,0))/\(∀ k,k<w.heap.size->k≠b->bk (sortWorldK JP 4 w b 0 m l'.toArray os) k=bk w k)/\w.heap.size<=(sortWorldK JP 4 w b 0 m l'.toArray os).heap.size:=by
 have hk:∀ x,(JP x).length=4:=λ_=>rfl
 have hf:flatK JP 4 l'.toArray=(l'.flatMap JP).toArray:=by
  apply Array.ext';rw[QSE JP 4 hk]
 have hlen:(l.flatMap JP).length=(l'.flatMap JP).length:=by rw[jU JP 4 hk,jU JP 4 hk,hl]
 have hb:b<w.heap.size:=by
  unfold bk at h;exact(Array.getElem?_eq_some_iff.1 h).1
 unfold bk at h ⊢;unfold sortWorldK grow putRowK putRow mapBlock Sort.ahead;simp only[hf];refine⟨?_,λk hk1 hk2=>?_,by simp⟩
 .rw[Array.getElem?_append_left (by simpa using hb),Array.getElem?_modify,if_pos rfl,h]
  simp only[Option.map_some,onCells];rw[QUD _ _ _ hlen]
 .rw[Array.getElem?_append_left (by simpa using hk1),Array.getElem?_modify,if_neg (λe=>hk2 e.symm)]
theorem Qb7{w:World}{b:Nat}{rest:List Value}{ty:TypeId}(h:bk w b=some (.cells (l.flatMap JP++rest).toArray ty (0,0))):HoldsK JP 4 w b 0 l.toArray:=by
 have hk:∀ x,(JP x).length=4:=λ_=>rfl;intro j hj;rw[size_flatK]at hj;have hj:j<l.length*4:=by simpa using hj
 have e:((flatK JP 4 l.toArray)[j]!)=(JP l[j / 4]!)[j % 4]! := by
  rw[get_flatK JP 4 _ j (by simpa using hj)];simp
 refine⟨?_,?_⟩
 .rw[Yg h,Nat.zero_add,List.getElem?_append_left (by rw[jU JP 4 hk];exact hj),QEi JP 4 hk l j hj,e]
  rfl
 .unfold World.frozen?;unfold bk at h;rw[h];simp
def QKE:FC:=λargs _ _=>match args with
 | [.slz id 0 n _,.fn (.func f) []]=>([id],λbs=>match Nat.beq f 131,bs with
  | true,[.rowz true ty [.int .i64,.int .i64,.int .i64,.int .i64] n' g]=>some ⟨false,decide (n=n')&&decide (n<4611686018427387904),.tup [],[(id,.rowz true ty [.int .i64,.int .i64,.int .i64,.int .i64] n (ZW n g))]⟩
  | _,_=>none)
 | [.nils,.fn (.func f) []]=>([],λbs=>match Nat.beq f 131,bs with
  | true,[]=>some ⟨false,true,.tup [],[]⟩
  | _,_=>none)
 | _=>([],λ_=>none)
theorem QCM(l:List Jn):(Jd l).length=l.length:=by unfold Jd;rw[List.length_mergeSort]
theorem QXe:∀ w,(isAgg 67).run prog w = .ok true w:=Tryz.isAgg67
theorem Qbj:∀ w,(Go.sizeOf 67).run prog w = .ok 4 w:=Tryz.sizeOf67
theorem Qbn:QS prog 153 QKE:=by
 have hnone:∀(p:Option Addr) (cap:Nat) (fv:Value) (w:World),Calls prog 153 #[.slice p 0 cap,fv] w λe w'=>e = .returned (.tuple #[])/\w'=w:=AnyF.slices_SortFunc_none Tryz.sortJn;refine⟨by kernel_rfl,λargs nid all r w lk blks eff hH _ hv he hp=>?_⟩
 unfold QKE at hv he;split at he<;>(try (cases he;done))
 rotate_left
 .rename_i f hx;simp only at he;split at he<;>(try (cases he;done))
  rename_i hf;have hf:f=131:=qnb hf;subst hf;simp only[qsI]at he;subst he;refine(hnone none 0 (.func (.func 131) #[] #[]) w).mono ?_;rintro e w' ⟨rfl,rfl⟩;exact⟨r,rfl,λ_ _=>rfl,λp hp=>(by cases hp),⟨rfl,rfl,rfl,qlr _,qlr _,λ_ _ _=>rfl⟩,λp hp=>(by cases hp),λp hp=>(by cases hp),λp hp=>(by cases hp)⟩
 rename_i id n c f hx;simp only at he;split at he<;>(try (cases he;done))
 rename_i ty n' g hf;have hf:f=131:=qnb hf;subst hf;simp only[qsI]at he;subst he;simp only[qbA,qdE]at hp;obtain⟨hn,hlt⟩:=hp;subst hn;have hlk:lk id=some (.rowz true ty [.int .i64,.int .i64,.int .i64,.int .i64] n g):=by simpa using hv
 have hlk:lk id=some (.rowz true ty ksJ n g):=hlk;obtain⟨h0,h4,hfoot,hnil,hrow,hcells⟩:=(show Kl r id w ty ksJ.length n (QY ksJ g)from hH.rep _ _ hlk);have hout:=hH.out _ _ hlk;have hrow':∀ i,i<n->(QY ksJ (ZW n g) i).length=ksJ.length/\Jr (QY ksJ (ZW n g) i)=true:=λi _=>⟨XZ _ _ _,VD _ _ _⟩;cases hN:(r id).nil with
 | true=>
  have hz:=hnil hN;subst hz;refine(hnone ((r id).base 0) ((r id).room (c.den (r id).cap)) (.func (.func 131) #[] #[]) w).mono ?_;rintro e w' ⟨rfl,rfl⟩;refine⟨r,rfl,λ_ _=>rfl,?_,⟨rfl,rfl,rfl,qlr _,qlr _,λ_ _ _=>rfl⟩,?_,?_,?_⟩
  .intro p hp;rw[List.mem_singleton.1 hp];exact⟨h0,h4,hfoot,hnil,λi hi=>absurd hi (Nat.not_lt_zero _),λq=>by rw[hN]at q;cases q⟩
  .intro p hp hin;rw[List.mem_singleton.1 hp]at hin;rw[hout]at hin;cases hin
  .intro p hp _ _ k hk;rw[List.mem_singleton.1 hp]at hk;rw[List.mem_singleton.1 hp];exact⟨_,hlk,hk⟩
  .intro p hp q _ hin;rw[List.mem_singleton.1 hp]at hin;rw[hout]at hin;cases hin
 | false=>
  obtain⟨hcap,rest,hrest,hbk⟩:=hcells hN;rw[QTf]at hbk
  have hb:(r id).blk<w.heap.size:=by
   unfold bk at hbk;exact(Array.getElem?_eq_some_iff.1 hbk).1
  have eg:∀ args w,(callFunc 131 args).run prog w = .ok (.enter 131 args) w:=enters_of func131 (by kernel_rfl) rfl
  have hd:((List.range n).map (Yj g)).toArray.size=n:=by simp
  have hcon:=AnyQ.slices_SortFunc Tryz.sortJn 4 QXe Qbj JP (λ_=>rfl) (λx v hv=>by simp[JP]at hv;rcases hv with rfl|rfl|rfl|rfl<;>rfl) Vx QBD 131 #[] (r id).blk 0 ((r id).room (c.den (r id).cap)) ((List.range n).map (Yj g)).toArray w eg (Qaf _ _ _ _) (Qb7 hbk) hb (by rw[hd];exact hlt)
  rw[hd]at hcon
  have ha:AV.denL r [.slz id 0 n c,.fn (.func 131) []]=[.slice (some ⟨(r id).blk,0,none⟩) n ((r id).room (c.den (r id).cap)),.func (.func 131) #[] #[]]:=by
   simp only[AV.denL,AV.den,Loc.base,hN,h0,Nat.zero_mul,Nat.add_zero]
  rw[ha];refine hcon.mono ?_;rintro e w' ⟨rfl,d',m,os,hperm,hsort,rfl⟩;have hu:=sorted_unique_holds QBD QUY ((List.range n).map (Yj g)).toArray d' (by rw[hd];exact hperm) (by rw[hd];exact hsort)
  have hd':d'=(Jd ((List.range n).map (Yj g))).toArray:=Array.ext' (by rw[hu];rfl)
  subst hd';obtain⟨w1,w2,w3⟩:=Qa4 (m:=m) (os:=os) hbk (QCM _).symm;refine⟨r,rfl,λ_ _=>rfl,?_,⟨rfl,rfl,rfl,w3,Nat.le_add_right _ _,λk hk hc=>w2 k hk λe=>hc ⟨_,List.mem_singleton.2 rfl,hout,_,hlk,(hfoot k).2 ⟨hN,e⟩⟩⟩,?_,?_,?_⟩
  .intro p hp;rw[List.mem_singleton.1 hp];refine⟨h0,h4,hfoot,hnil,hrow',λ_=>⟨hcap,rest,hrest,?_⟩⟩;show bk _ _=some (.cells (AV.denL r (Q9 n (QY ksJ (ZW n g))).flatten++rest).toArray ty (0,0));rw[QlI];exact w1
  .intro p hp hin;rw[List.mem_singleton.1 hp]at hin;rw[hout]at hin;cases hin
  .intro p hp _ _ k hk;rw[List.mem_singleton.1 hp]at hk;rw[List.mem_singleton.1 hp];exact⟨_,hlk,hk⟩
  .intro p hp q _ hin;rw[List.mem_singleton.1 hp]at hin;rw[hout]at hin;cases hin
def ZD:Tab:=Qc QV 153 QKE
theorem QEw:Qf ZD:=Qm.add Qbn
end Go.Proofs.YtekbmehgcofnkaaGreat
namespace Go.SX
open Go Go.RowKit Go.Proofs.YtekbmehgcofnkaaGreat
namespace Told
def natsG(g:Nat->Value):List Nat:=(List.range (nxI g)).map λi=>nxI λ_=>g (i+1)
end Told
theorem Qbu(l:List Nat):∃ g,Told.natsG g=l:=by
 refine⟨λk=>match k with
  | 0 => .int .i64 l.length
  | i+1 => .int .i64 ((l.getD i 0:Nat):Int),?_⟩
 have h0:∀ n:Nat,Told.nxI (λ_=>Value.int .i64 (n:Int))=n:=λn=>by simp[Told.nxI,Told.intV]
 apply List.ext_getElem?;intro i;unfold Told.natsG
 have e:Told.nxI (λk=>match k with
  | 0=>Value.int .i64 l.length
  | i+1 => .int .i64 ((l.getD i 0:Nat):Int))=l.length:=by simp[Told.nxI,Told.intV]
 rw[e,List.getElem?_map]
 by_cases h:i<l.length
 .rw[List.getElem?_range h];simp only[Option.map_some,h0];rw[List.getElem?_eq_getElem h,Jb h]
 .rw[List.getElem?_eq_none (by simpa using h),List.getElem?_eq_none (by omega)];rfl
def QJa(n0:Nat)(ids:List Nat)(J0:JSt)(X:(Nat->Value)->List (Prop×Ex×JSt))(st:St)(K:Ex->St->QC):QC:=
 match Nat.beq st.tm.length J0.len&&V8 st.hp with
 | true=>(match QF n0 ((J0.live.map (·.1)).map (QJ st.tm)) (K1 ids ((J0.live.map (·.1)).map (QJ st.tm)) st.hp) J0 with
  | some ps=>QB9 ps (.all λg=>QCF K (X g))
  | none => .fail "a loop's beginning")
 | false => .fail "a loop's slots"
theorem QXJ{σ:Type}{I:σ->JSt}{pre:σ->Prop}{μ:σ->Nat}{R:σ->Ex->JSt->Prop}{n0:Nat}{ls:Ex->List Nat}{ids ids':List Nat}{E:Env}(hE:E.Sound){H:σ->Hnd}{G:Ctx}(hG:G.n<=n0){body:Code}(hH:∀ s,pre s->Q0 E G (H s) body)(hn:∀ s,pre s->n0<=(I s).nid)(hR:∀ s e J,R s e J->n0<=J.nid)(hr:VH I pre μ R n0 ls ids E H body){s0:σ}(hp:pre s0){X:(Nat->Value)->List (Prop×Ex×JSt)}(hX:∀ e J,R s0 e J->∃ g,∃ x∈X g,x.1/\x.2.1=e/\x.2.2=J):
  J5 E G (.loop body) (QJa n0 ids' (I s0) X):=by
 intro st K T Q a w hn' h hrep hQ;unfold QJa at h;split at h
 rotate_left
 .exact h.elim
 rename_i hl;split at h
 rotate_left
 .exact h.elim
 rename_i ps hps;simp only[qbA]at hl;have hlen:=qnb hl.1;obtain⟨ha,hx⟩:=QBQ h;have hnear:=Rep.near (h':=K1 ids' (((I s0).live.map (·.1)).map (QJ st.tm)) st.hp) (λid b hb=>WV hb) hl.2 hrep;have hso:Jg n0 ((I s0).live.map (·.1)) st.tm.length (((I s0).live.map (·.1)).map (QJ st.tm)) (K1 ids' (((I s0).live.map (·.1)).map (QJ st.tm)) st.hp) (I s0):={ slots:=rfl,len:=hlen,eqs:=⟨ps,hps,ha⟩ };obtain⟨g,hr'⟩:=Rep.subW hnear hso hG;refine wpIn_loop_rounds (μ s0+1) (QHe hE hG hH hn hR hr _ s0 g a w (Nat.lt_succ_self _) hp hr' ?_);intro e J g' a' w' hRe hnJ hrJ
 obtain⟨g2,x,h1,h2,h3,h4⟩:=hX e J hRe;have:=QBJ (hx g2) x h1 h2 g';rw[h3,h4]at this;exact hQ e (J.inst g') a' w' (Nat.le_trans hG hnJ) this hrJ
end Go.SX
namespace Go.Proofs.YtekbmehgcofnkaaGreat
open Go.SX Go.SX.Told
def vc(e:MapEntry):Jn:=⟨QT e 0,QT e 1,QT e 2,QT e 3⟩
variable (E:ECt)(m:Int)(o:List Jn)(S S':List Nat)(g0:Nat->Value)
def Vh(e:MapEntry):List Jn:=cond (decide (m<=intV e.val)&&decide (QT e 0<QT e 2)) [vc e] []
def Wt(b:Nat):List Jn:=match E.1.find? (·.born==b)with
 | some e=>Vh m e
 | none=>[]
def Q2:List Jn:=S.flatMap (Wt E m)
def rwJ(own:Bool)(id:Nat)(o:List Jn):Nat×Blk:=(id,.rowz own 67 [.int .i64,.int .i64,.int .i64,.int .i64] o.length λi=>QA.enc (o.getD i ⟨0,0,0,0⟩))
def jnJ(o:List Jn):JSt:=⟨48,[(1,.int false .i64 m),(5,.slz 256 0 o.length (.of 0)),(12,.ptr 264 201 0)],[(264,.itm [.map 201] 150 E.2 S E.2),(201,.mp E.1 E.2),rwJ true 256 o],272⟩
def jnE:JSt:=⟨48,[(5,.slz 256 0 o.length (.of 0))],[(201,.mp E.1 E.2),rwJ true 256 o],272⟩
def HV:JSt:=⟨48,[(1,.int false .i64 m),(5,.nils),(12,.ptr 264 201 0)],[(264,.itm [.map 201] 150 E.2 S E.2),(201,.mp E.1 E.2)],272⟩
def QEl:JSt:=⟨48,[(5,.nils)],[(201,.mp E.1 E.2)],272⟩
def QJ5:Ex->List Nat
 | .normal=>[1,5,12]
 | .exit _=>[5]
 | .ret=>[]
abbrev QIZ:List CK:=(List.append (waJ) ([.int .i64]))
abbrev QIt:Nat×Blk:=(256,.rowz true 67 QIZ o.length λi=>QA.enc (o.getD i (Jn.mk (0:Int) (0:Int) (0:Int) (0:Int))))
abbrev QTx:List AV:=[.nilp,.ptr 48 0 0,vi m,.slz 256 0 o.length cO,.ptr 264 201 0]
abbrev waR(E:ECt)(S:List Nat)(g0:Nat->Value):List AV:=[vi (QT (QL E.1 (S++[(E.1.getD (nxI g0) noE).3])) 0),vi (QT (QL E.1 (S++[(E.1.getD (nxI g0) noE).3])) 1),vi (QT (QL E.1 (S ++ [(E.1.getD (nxI g0) noE).3])) 2),vi (QT (QL E.1 (S++[(E.1.getD (nxI g0) noE).3])) 3)]
theorem QdX(o:List Jn)(g:Nat->Value):exec (mkF prog ZD) (hnd (mkF prog ZD) 1) (QI f89 0) (JSt.inst (jnJ E m S o) g) (Q5 [201] QJ5) = .ask (QBx E.1 E.2 E.2) (.both (.asm (Z1 E.1 S) (.leaf (.tup [.ptr 0 0 0,.ptr 48 0 0,.slz 256 0 o.length cO]) ([(201,.mp E.1 E.2),(QIt o)]))) (.all (λ(g0:Nat->Value)=>.asm (QAi E.1 S (nxI g0)) (.need (decide (E.2=E.2)&&YW E.1 (S++[(E.1.getD (nxI g0) noE).3])&&wf4 i64 E.1) (.br (decide (intV (QL E.1 (S++[(E.1.getD (nxI g0) noE).3])).2≥m)) (.br (decide (QT (QL E.1 (S++[(E.1.getD (nxI g0) noE).3])) 0<QT (QL E.1 (S++[(E.1.getD (nxI g0) noE).3])) 2)) (.need (decide (o.length<=o.length)&&(true&&decide ((o.length+1+(o.length+1) / 4+192)*32<=281474976710656/\o.length+1<=9223372036854775807))) (.leaf (.tup [.nilp,.ptr 48 0 0,vi m,.slz 552 0 (o.length+1) cO, .ptr 264 201 0]) ([(201,.mp E.1 E.2),(552,.rowz true 67 QIZ (o.length+1) (KQ o.length (λi=>QA.enc (o.getD i (Jn.mk (0:Int) (0:Int) (0:Int) (0:Int)))) (KD [[vi (QT (QL E.1 (S++[(E.1.getD (nxI g0) noE).3])) 0),vi (QT (QL E.1 (S++[(E.1.getD (nxI g0) noE).3])) 1),vi (QT (QL E.1 (S ++ [(E.1.getD (nxI g0) noE).3])) 2),vi (QT (QL E.1 (S++[(E.1.getD (nxI g0) noE).3])) 3)]] 0))),(264,.itm [.map 201] 150 E.2 (S++[(E.fst.getD (nxI g0) noE).born]) E.2)]))) (.leaf (.tup (QTx m o)) ([(201,.mp E.1 E.2),(QIt o),(264,.itm [.map 201] 150 E.2 (S++[(E.fst.getD (nxI g0) noE).born]) E.2)]))) (.leaf (.tup (QTx m o)) ([(201,.mp E.1 E.2),(QIt o),(264,.itm [.map 201] 150 E.2 (S++[(E.fst.getD (nxI g0) noE).born]) E.2)]))))))):=by kernel_rfl
abbrev wa3(E:ECt)(o:List Jn)(o':List Jn):List Prop:=[E.1=E.1,E.2=E.2,o'.length<=o.length,QB (4:Nat) o'.length (λi=>QA.enc (o.getD i (Jn.mk (0:Int) (0:Int) (0:Int) (0:Int)))) λi=>QA.enc (o'.getD i (Jn.mk (0:Int) (0:Int) (0:Int) (0:Int)))]
theorem QfC(o o':List Jn):QF 216 [AV.slz (256:Nat) (0:Nat) o.length cO] ([((201:Nat),Blk.mp E.1 E.2),((256:Nat),Blk.rowz true (67:Nat) [CK.int i64,CK.int i64,CK.int i64,CK.int i64] o.length λi=>QA.enc (o.getD i (Jn.mk (0:Int) (0:Int) (0:Int) (0:Int))))]) (jnE E o')=( some [0=0,o.length=o'.length,cO=cO,E.1=E.1,E.2=E.2,o'.length<=o.length,QB (4:Nat) o'.length (λi=>QA.enc (o.getD i (Jn.mk (0:Int) (0:Int) (0:Int) (0:Int)))) λi=>QA.enc (o'.getD i (Jn.mk (0:Int) (0:Int) (0:Int) (0:Int)))]):=by kernel_rfl
abbrev QTH:List AV:=(waR E S g0)
theorem QhN(o o':List Jn)(g0:Nat->Value):QF 216 [vi m,.slz 552 0 (o.length+1) cO,.ptr 264 201 0] ([(201,.mp E.1 E.2),(552,.rowz true 67 QIZ (o.length+1) (KQ o.length (λi=>QA.enc (o.getD i (Jn.mk (0:Int) (0:Int) (0:Int) (0:Int)))) (KD [(QTH E S g0)] 0))),(264,.itm [.map 201] 150 E.2 (S++[(E.fst.getD (nxI g0) noE).born]) E.2)]) (jnJ E m S' o')=(some [m=m,0=0,o.length+1=o'.length,cO=cO,201=201,0=0,E.2=E.2,S++[(E.1.getD (nxI g0) noE).3]=S',E.2=E.2,E.1=E.1,E.2=E.2,o'.length<=o.length+1,QB 4 o'.length (KQ o.length (λi=>QA.enc (o.getD i (Jn.mk (0:Int) (0:Int) (0:Int) (0:Int)))) (KD [(QTH E S g0)] 0)) λi=>QA.enc (o'.getD i (Jn.mk (0:Int) (0:Int) (0:Int) (0:Int)))]):=by kernel_rfl
abbrev wcj(E:ECt)(S:List Nat)(S':List Nat)(g0:Nat->Value):List Prop:=[(201:Nat)=(201:Nat),0=0,E.2=E.2,S++[(E.1.getD (nxI g0) noE).3]=S',E.2=E.2]
theorem Qki(o o':List Jn)(g0:Nat->Value):QF 216 [vi m,AV.slz (256:Nat) (0:Nat) o.length cO,AV.ptr (264:Nat) (201:Nat) (0:Nat)] ([((201:Nat),Blk.mp E.1 E.2),((256:Nat),Blk.rowz true (67:Nat) [CK.int i64,CK.int i64,CK.int i64,CK.int i64] o.length λi=>QA.enc (o.getD i (Jn.mk (0:Int) (0:Int) (0:Int) (0:Int)))),((264:Nat),Blk.itm [AV.map (201:Nat)] (150:Nat) E.2 (S++[(E.fst.getD (nxI g0) noE).born]) E.2)]) (jnJ E m S' o')=( some [m=m,0=0,o.length=o'.length,cO=cO,(201:Nat)=(201:Nat),0=0,E.2=E.2,S++[(E.1.getD (nxI g0) noE).3]=S',E.2=E.2,E.1=E.1,E.2=E.2,o'.length<=o.length,QB (4:Nat) o'.length (λi=>QA.enc (o.getD i (Jn.mk (0:Int) (0:Int) (0:Int) (0:Int)))) λi=>QA.enc (o'.getD i (Jn.mk (0:Int) (0:Int) (0:Int) (0:Int)))]):=by kernel_rfl
theorem QZH(o o':List Jn)(g0:Nat->Value):QF 216 [vi m,AV.slz (256:Nat) (0:Nat) o.length cO,AV.ptr (264:Nat) (201:Nat) (0:Nat)] ([((201:Nat),Blk.mp E.1 E.2),((256:Nat),Blk.rowz true (67:Nat) [CK.int i64,CK.int i64,CK.int i64,CK.int i64] o.length λi=>QA.enc (o.getD i (Jn.mk (0:Int) (0:Int) (0:Int) (0:Int)))),((264:Nat),Blk.itm [AV.map (201:Nat)] (150:Nat) E.2 (S++[(E.fst.getD (nxI g0) noE).born]) E.2)]) (jnJ E m S' o')=( some [m=m,0=0,o.length=o'.length,cO=cO,(201:Nat)=(201:Nat),0=0,E.2=E.2,S++[(E.1.getD (nxI g0) noE).3]=S',E.2=E.2,E.1=E.1,E.2=E.2,o'.length<=o.length,QB (4:Nat) o'.length (λi=>QA.enc (o.getD i (Jn.mk (0:Int) (0:Int) (0:Int) (0:Int)))) λi=>QA.enc (o'.getD i (Jn.mk (0:Int) (0:Int) (0:Int) (0:Int)))]):=by kernel_rfl
theorem QbJ(g:Nat->Value):exec (mkF prog ZD) (hnd (mkF prog ZD) 1) (QI f89 0) (JSt.inst (HV E m S) g) (Q5 [201] QJ5) = .ask (QBx E.1 E.2 E.2) (.both (.asm (Z1 E.1 S) (.leaf (.tup [.ptr 0 0 0,.ptr 48 0 0,.nils]) ([(201,.mp E.1 E.2)]))) (.all (λ(g0:Nat->Value)=>.asm (QAi E.1 S (nxI g0)) (.need (decide (E.2=E.2)&&YW E.1 (S ++ [(E.1.getD (nxI g0) noE).3])&&wf4 i64 E.1) (.br (decide (intV (QL E.1 (S++[(E.1.getD (nxI g0) noE).3])).2≥m)) (.br (decide (QT (QL E.1 (S++[(E.1.getD (nxI g0) noE).3])) 0<QT (QL E.1 (S++[(E.1.getD (nxI g0) noE).3])) 2)) (.leaf (.tup [.nilp,.ptr 48 0 0,vi m,.slice true 552 0 1 cO,.ptr 264 201 0]) ([(201, .mp E.1 E.2),(552,.rowl 67 4 [[vi (QT (QL E.1 (S++[(E.1.getD (nxI g0) noE).3])) 0),vi (QT (QL E.1 (S++[(E.1.getD (nxI g0) noE).3])) 1),vi (QT (QL E.1 (S++[(E.1.getD (nxI g0) noE).3])) 2),vi (QT (QL E.1 (S++[(E.1.getD (nxI g0) noE).3])) 3)]]),(264,.itm [.map 201] 150 E.2 (S ++ [(E.fst.getD (nxI g0) noE).born]) E.2)])) (.leaf (.tup [.nilp,.ptr 48 0 0,vi m,.nils,.ptr 264 201 0]) ([(201,.mp E.1 E.2),(264,.itm [.map 201] 150 E.2 (S ++ [(E.fst.getD (nxI g0) noE).born]) E.2)]))) (.leaf (.tup [.nilp,.ptr 48 0 0,vi m,.nils,.ptr 264 201 0]) ([(201,.mp E.1 E.2),(264,.itm [.map 201] 150 E.2 (S ++ [(E.fst.getD (nxI g0) noE).born]) E.2)]))))))):=by kernel_rfl
theorem QfI:QF 216 [AV.nils] ([((201:Nat),Blk.mp E.1 E.2)]) (QEl E)=( some [E.1=E.1,E.2=E.2]):=by kernel_rfl
abbrev wbt(E:ECt)(S:List Nat)(g0:Nat->Value):List AV:=[vi (QT (QL E.1 (S++[(E.1.getD (nxI g0) noE).3])) (0:Nat)),vi (QT (QL E.1 (S++[(E.1.getD (nxI g0) noE).3])) (1:Nat)),vi (QT (QL E.1 (S++[(E.1.getD (nxI g0) noE).3])) (2:Nat)),vi (QT (QL E.1 (S++[(E.1.getD (nxI g0) noE).3])) (3:Nat))]
theorem Qik(o':List Jn)(g0:Nat->Value):QF 216 [vi m,AV.slice true (552:Nat) (0:Nat) (1:Nat) cO,AV.ptr (264:Nat) (201:Nat) (0:Nat)] ([((201:Nat),Blk.mp E.1 E.2),((552:Nat),Blk.rowl (67:Nat) (4:Nat) [[vi (QT (QL E.1 (S++[(E.1.getD (nxI g0) noE).3])) (0:Nat)),vi (QT (QL E.1 (S++[(E.1.getD (nxI g0) noE).3])) (1:Nat)),vi (QT (QL E.1 (S++[(E.1.getD (nxI g0) noE).3])) (2:Nat)),vi (QT (QL E.1 (S++[(E.1.getD (nxI g0) noE).3])) (3:Nat))]]),((264:Nat),Blk.itm [AV.map (201:Nat)] (150:Nat) E.2 (S++[(E.fst.getD (nxI g0) noE).born]) E.2)]) (jnJ E m S' o')=( some [m=m,0=0,(1:Nat)=o'.length,cO=cO,(201:Nat)=(201:Nat),0=0,E.2=E.2,S++[(E.1.getD (nxI g0) noE).3]=S',E.2=E.2,E.1=E.1,E.2=E.2,jy [CK.int i64,CK.int i64,CK.int i64,CK.int i64] [[vi (QT (QL E.1 (S ++ [(E.1.getD (nxI g0) noE).3])) (0:Nat)),vi (QT (QL E.1 (S++[(E.1.getD (nxI g0) noE).3])) (1:Nat)),vi (QT (QL E.1 (S ++ [(E.1.getD (nxI g0) noE).3])) (2:Nat)),vi (QT (QL E.1 (S++[(E.1.getD (nxI g0) noE).3])) (3:Nat))]] o'.length λi=>QA.enc (o'.getD i (Jn.mk (0:Int) (0:Int) (0:Int) (0:Int)))]):=by kernel_rfl
theorem Qec:QF 216 [vi m,AV.nils,AV.ptr (264:Nat) (201:Nat) (0:Nat)] ([((201:Nat),Blk.mp E.1 E.2),((264:Nat),Blk.itm [AV.map (201:Nat)] (150:Nat) E.2 (S++[(E.fst.getD (nxI g0) noE).born]) E.2)]) (HV E m S')=( some [m=m,(201:Nat)=(201:Nat),0=0,E.2=E.2,S++[(E.1.getD (nxI g0) noE).3]=S',E.2=E.2,E.1=E.1,E.2=E.2]):=by kernel_rfl
theorem QiU:QF 216 [vi m,AV.nils,AV.ptr (264:Nat) (201:Nat) (0:Nat)] ([((201:Nat),Blk.mp E.1 E.2),((264:Nat),Blk.itm [AV.map (201:Nat)] (150:Nat) E.2 (S++[(E.fst.getD (nxI g0) noE).born]) E.2)]) (HV E m S')=( some [m=m,(201:Nat)=(201:Nat),0=0,E.2=E.2,S++[(E.1.getD (nxI g0) noE).3]=S',E.2=E.2,E.1=E.1,E.2=E.2]):=by kernel_rfl
end Go.Proofs.YtekbmehgcofnkaaGreat
namespace Go.SX
open Go Go.RowKit Go.Proofs.YtekbmehgcofnkaaGreat Told
structure OkM (es:List MapEntry) (cl:Nat):Prop where
 born:(es.map (·.born)).Nodup
 low:∀ e∈es,e.born<cl
 keys:(es.map Kt).Nodup
theorem QLT{k:List Int}:∀{es:List MapEntry} {i:Nat},K8 k es i=none->∀ e∈es,Kt e≠k
 | [],_,_,e,h=>by cases h
 | x::es,i,h,e,he=>by
  simp only[K8]at h;cases hx:Kt x==k with
  | true=>rw[hx]at h;cases h
  | false=>
   rw[hx]at h;rcases List.mem_cons.1 he with rfl|he
   .simpa using hx
   .exact QLT h e he
theorem QOq(kv v:Value):∀(es:List MapEntry) (i:Nat),(VU kv v es i).map (·.born)=es.map (·.born)
 | [],i=>by cases i<;>rfl
 | e::es,0=>rfl
 | e::es,i+1=>by simp only[VU,List.map_cons,QOq kv v es i]
theorem QPG{k:List Int}{kv v:Value}(hk:∀ e:MapEntry,e.key=kv->Kt e=k):∀{es:List MapEntry} {i j:Nat} {u:Value},K8 k es i=some (j,u)->(VU kv v es (j-i)).map Kt=es.map Kt
 | [],_,_,_,h=>by cases h
 | e::es,i,j,u,h=>by
  simp only[K8]at h;cases hx:Kt e==k with
  | true=>
   rw[hx]at h;simp only[qsI,qpI]at h;obtain⟨rfl,rfl⟩:=h;rw[Nat.sub_self];simp only[VU,List.map_cons];rw[hk _ rfl,beq_iff_eq.1 hx]
  | false=>
   rw[hx]at h;have h1:=(QCp h).1;have:=QPG hk h (v:=v);rw[show j-i=(j-(i+1))+1 by omega]
   simp only[VU,List.map_cons,this]
variable {es:List MapEntry}{e:MapEntry}
theorem Qdm{k:List Int}{kv v:Value}(hk:∀ e:MapEntry,e.key=kv->Kt e=k){cl:Nat}(h:OkM es cl):OkM (JZ k kv v cl es) (clL k cl es):=by
 unfold JZ clL;cases hf:K8 k es 0 with
 | some q=>
  obtain⟨i,u⟩:=q;have hb:=QOq kv v es i;refine⟨by rw[hb];exact h.born,λe he=>?_,?_⟩
  .have:e.born∈(VU kv v es i).map (·.born):=List.mem_map_of_mem he;rw[hb]at this;obtain⟨e',he',hbe⟩:=List.mem_map.1 this;rw[<-hbe];exact h.low e' he'
  .have:=QPG hk hf (v:=v);rw[Nat.sub_zero]at this;show((VU kv v es i).map Kt).Nodup;rw[this];exact h.keys
 | none=>
  refine⟨?_,λe he=>?_,?_⟩
  .show((es++[({ key:=kv,val:=v,born:=cl }:MapEntry)]).map (·.born)).Nodup;rw[List.map_append,List.nodup_append];refine⟨h.born,by simp,λa ha b hb=>?_⟩
   obtain⟨e,he,rfl⟩:=List.mem_map.1 ha;have:b=cl:=by simpa using hb
   have:=h.low e he;omega
  .rcases List.mem_append.1 he with he|he
   .exact Nat.lt_succ_of_lt (h.low e he)
   .rw[List.mem_singleton.1 he];exact Nat.lt_succ_self _
  .show((es++[({ key:=kv,val:=v,born:=cl }:MapEntry)]).map Kt).Nodup;rw[List.map_append,List.nodup_append];refine⟨h.keys,by simp,λa ha b hb=>?_⟩
   obtain⟨e,he,rfl⟩:=List.mem_map.1 ha
   have hb:b=k:=by
    have:b=Kt { key:=kv,val:=v,born:=cl }:=by simpa using hb
    rw[this];exact hk _ rfl
   rw[hb];exact QLT hf e he
theorem vT:∀{es:List MapEntry} {e:MapEntry},(es.map (·.born)).Nodup->e∈es->es.find? (·.born==e.born)=some e
 | [],_,_,h=>by cases h
 | x::es,e,hn,h=>by
  rw[List.map_cons,List.nodup_cons]at hn;rw[List.find?_cons];rcases List.mem_cons.1 h with rfl|h
  .simp
  .have:(x.born==e.born)=false:=by
    rw[beq_eq_false_iff_ne];intro q;exact hn.1 (q ▸ List.mem_map_of_mem h)
   rw[this];exact vT hn.2 h
theorem QRX{j:Nat}(h:j<es.length):es.getD j noE∈es:=by
 rw[Jb h];exact List.getElem_mem h
structure Xr (es:List MapEntry) (S:List Nat):Prop where
 nd:S.Nodup
 sub:∀ b∈S,b∈es.map (·.born)
theorem QF6{S:List Nat}(h:Xr es S):S.length<=es.length:=by
 have:=h.nd.length_le_of_subset h.sub;simpa using this
theorem QSQ{S:List Nat}(h:Xr es S)(he:e∈es)(hn:e.born ∉ S):Xr es (S++[e.born]):=by
 refine⟨?_,λb hb=>?_⟩
 .rw[List.nodup_append];refine⟨h.nd,by simp,λa ha b hb=>?_⟩
  have:b=e.born:=by simpa using hb
  subst this;intro q;subst q;exact hn ha
 .rcases List.mem_append.1 hb with hb|hb
  .exact h.sub b hb
  .rw[List.mem_singleton.1 hb];exact List.mem_map_of_mem he
theorem QQi(hb:(es.map (·.born)).Nodup)(S:List Nat)(he:e∈es):QL es (S++[e.born])=e/\YW es (S++[e.born])=true:=by
 have hl:(S++[e.born]).getLast? = some e.born:=by simp
 unfold QL YW;rw[hl];simp only;rw[vT hb he];refine⟨rfl,?_⟩;rw[List.any_eq_true];exact⟨e,he,by simp⟩
theorem Qjj{S:List Nat}(hb:(es.map (·.born)).Nodup)(h:Xr es S)(ha:Z1 es S):S.Perm (es.map (·.born)):=by
 rw[List.perm_ext_iff_of_nodup h.nd hb];intro a;refine⟨h.sub a,λq=>?_⟩;obtain⟨e,he,rfl⟩:=List.mem_map.1 q;exact ha e he
end Go.SX
namespace Go.Proofs.YtekbmehgcofnkaaGreat
open Go.SX Go.SX.Told
variable {e:MapEntry}(d:Puz)(E:ECt)(m:Int)(o:List Jn)(S:List Nat)
theorem QYL{E:ECt}(hb:(E.1.map (·.born)).Nodup)(m:Int)(S:List Nat)(he:e∈E.1):Q2 E m (S++[e.born])=Q2 E m S++Vh m e:=by
 unfold Q2;rw[List.flatMap_append];congr 1;show Wt E m e.born++[]=_;rw[List.append_nil];unfold Wt;rw[vT hb he]
theorem QOs(e:MapEntry):(Vh m e).length<=1:=by
 unfold Vh;cases decide (m<=intV e.val)&&decide (QT e 0<QT e 2)<;>simp
theorem QHf(E:ECt)(m:Int):∀ S:List Nat,(Q2 E m S).length<=S.length
 | []=>qlr _
 | b::S=>by
  have h:=QHf E m S
  have h1:(Wt E m b).length<=1:=by
   unfold Wt;split
   .exact QOs _ _
   .exact Nat.zero_le _
  show(Wt E m b++Q2 E m S).length<=_;rw[List.length_append,List.length_cons];omega
theorem QZz(x:Jn):QB 4 (o.length+1) (KQ o.length (λi=>QA.enc (o.getD i ⟨0,0,0,0⟩)) (KD [[.int false .i64 x.a,.int false .i64 x.i,.int false .i64 x.b,.int false .i64 x.j]] 0)) λi=>QA.enc ((o++[x]).getD i ⟨0,0,0,0⟩):=by
 intro i hi
 by_cases h:i<o.length
 .have e:(o++[x]).getD i ⟨0,0,0,0⟩=o.getD i ⟨0,0,0,0⟩:=by
   rw[List.getD_eq_getElem?_getD,List.getD_eq_getElem?_getD,List.getElem?_append_left h]
  show eqF 4 0 _ (QA.enc ((o++[x]).getD _ ⟨0,0,0,0⟩));rw[e];refine⟨?_,?_,?_,?_,trivial⟩<;>(rw[X4,if_pos h])
 .have hi:i=o.length:=by omega
  subst hi
  have e:(o++[x]).getD o.length ⟨0,0,0,0⟩=x:=by
   rw[List.getD_eq_getElem?_getD,List.getElem?_append_right (qlr _)];simp
  show eqF 4 0 _ (QA.enc ((o++[x]).getD _ ⟨0,0,0,0⟩));rw[e];refine⟨?_,?_,?_,?_,trivial⟩<;>(rw[X4,if_neg h,Nat.sub_self];rfl)
def jnI:JSt:=cond (Q2 E m S).isEmpty (HV E m S) (jnJ E m S (Q2 E m S))
def jnD:JSt:=cond o.isEmpty (QEl E) (jnE E o)
def jnR(_:List Nat)(e:Ex)(J:JSt):Prop:=e = .exit 0/\∃ T,Xr E.1 T/\Z1 E.1 T/\J=jnD E (Q2 E m T)
theorem QCG{E:ECt}{m:Int}{S:List Nat}(h:(Q2 E m S).isEmpty=false):jnI E m S=jnJ E m S (Q2 E m S):=by unfold jnI;rw[h];rfl
theorem QIH{E:ECt}{m:Int}{S:List Nat}(h:(Q2 E m S).isEmpty=true):jnI E m S=HV E m S:=by unfold jnI;rw[h];rfl
set_option maxHeartbeats 1000000 in
theorem Qlg(hw:WfE E)(hE:OkM E.1 E.2)(hl:E.1.length<=1000000000):VH (jnI E m) (Xr E.1) (λS=>E.1.length-S.length) (jnR E m) 216 QJ5 [201] (mkF prog ZD) (λ_=>hnd (mkF prog ZD) 1) (QI f89 0):=by
 refine⟨λS g hS=>?_⟩;have hS:Xr E.1 S:=hS;have hw:wf4 .i64 E.1=true:=hw;have hS1:=QF6 hS;have hS2:=QHf E m S
 have fact:∀ g0:Nat->Value,QAi E.1 S (nxI g0)->∃ e,e=E.1.getD (nxI g0) noE/\e∈E.1/\QL E.1 (S++[e.born])=e/\YW E.1 (S++[e.born])=true/\Xr E.1 (S++[e.born])/\S.length+1<=E.1.length/\Q2 E m (S++[e.born])=Q2 E m S++Vh m e/\E.1.length-(S++[e.born]).length<E.1.length-S.length:=by
  rintro g0 ⟨hj,hn⟩;have hm:=QRX hj;obtain⟨hc,hh⟩:=QQi hE.born S hm;have hS':=QSQ hS hm hn;have hlen:=QF6 hS';rw[List.length_append,List.length_singleton]at hlen;exact⟨_,rfl,hm,hc,hh,hS',hlen,QYL hE.born m S hm,by rw[List.length_append,List.length_singleton];omega⟩
 have yes:∀ e:MapEntry,decide (intV e.2≥m)=true->decide (QT e 0<QT e 2)=true->Vh m e=[vc e]:=λe h1 h2=>by
  unfold Vh;rw[show decide (m<=intV e.val)=true from h1,h2];rfl
 have no1:∀ e:MapEntry,decide (intV e.2≥m)=false->Vh m e=[]:=λe h1=>by
  unfold Vh;rw[show decide (m<=intV e.val)=false from h1];rfl
 have no2:∀ e:MapEntry,decide (QT e 0<QT e 2)=false->Vh m e=[]:=λe h2=>by
  unfold Vh;rw[h2,Bool.and_false];rfl
 cases hem:(Q2 E m S).isEmpty with
 | true=>
  rw[QIH hem];have hnil:Q2 E m S=[]:=List.isEmpty_iff.1 hem;refine Qh (QbJ E m S g) ?_;refine Qt ⟨hE.low,qlr _⟩ (Kq (Qk λha=>?_) (Ql λg0=>Qk λho=>?_))
  .refine⟨_,⟨rfl,S,hS,ha,rfl⟩,?_⟩;rw[show jnD E (Q2 E m S)=QEl E by unfold jnD;rw[hem];rfl]
   refine⟨rfl,rfl,_,QfI E,?_⟩
   repeat' first|with_reducible refine QM ?_ ?_|exact tv|exact Nat.le_refl _|refine aI ?_ ?_
  .obtain⟨e,he,hm,hc,hh,hS',hlen,hJ,hmu⟩:=fact g0 ho;subst he;rw[hnil,List.nil_append]at hJ;have hc':QL E.1 (S++[(E.1.getD (nxI g0) noE).3])=E.1.getD (nxI g0) noE:=hc;refine QG (by rw[show YW E.1 (S++[(E.1.getD (nxI g0) noE).3])=true from hh,hw];simp) ?_
   refine QE (λh1=>QE (λh2=>?_) (λh2=>?_)) (λh1=>?_)
   .rw[yes _ (hc' ▸ h1) (hc' ▸ h2)]at hJ;refine⟨S++[(E.1.getD (nxI g0) noE).born],hS',hmu,λ_ _ r=>r,?_⟩;rw[QCG (by rw[hJ];rfl),hJ]
    refine⟨rfl,rfl,_,Qik E m S _ _ g0,?_⟩
    repeat' first|with_reducible refine QM ?_ ?_|exact tv|exact Nat.le_refl _|exact rfl|(intro i hi x hx r;obtain rfl:i=0:=(by simpa using hi);simp only[List.getElem?_cons_zero,qsI]at hx;subst hx;rw[hc'];rfl)|refine aI ?_ ?_
   .rw[no2 _ (hc' ▸ h2)]at hJ;refine⟨S++[(E.1.getD (nxI g0) noE).born],hS',hmu,λ_ _ r=>r,?_⟩;rw[QIH (by rw[hJ];rfl)]
    refine⟨rfl,rfl,_,Qec E m S _ g0,?_⟩
    repeat' first|with_reducible refine QM ?_ ?_|exact tv|exact Nat.le_refl _|refine aI ?_ ?_
   .rw[no1 _ (hc' ▸ h1)]at hJ;refine⟨S++[(E.1.getD (nxI g0) noE).born],hS',hmu,λ_ _ r=>r,?_⟩;rw[QIH (by rw[hJ];rfl)]
    refine⟨rfl,rfl,_,QiU E m S _ g0,?_⟩
    repeat' first|with_reducible refine QM ?_ ?_|exact tv|exact Nat.le_refl _|refine aI ?_ ?_
 | false=>
  rw[QCG hem];refine Qh (QdX E m S (Q2 E m S) g) ?_;refine Qt ⟨hE.low,qlr _⟩ (Kq (Qk λha=>?_) (Ql λg0=>Qk λho=>?_))
  .refine⟨_,⟨rfl,S,hS,ha,rfl⟩,?_⟩;rw[show jnD E (Q2 E m S)=jnE E (Q2 E m S) by unfold jnD;rw[hem];rfl]
   refine⟨rfl,rfl,_,QfC E (Q2 E m S) (Q2 E m S),?_⟩
   repeat' first|with_reducible refine QM ?_ ?_|exact tv|exact Nat.le_refl _|exact qRr|refine aI ?_ ?_
  .obtain⟨e,he,hm,hc,hh,hS',hlen,hJ,hmu⟩:=fact g0 ho;subst he;have hc':QL E.1 (S++[(E.1.getD (nxI g0) noE).3])=E.1.getD (nxI g0) noE:=hc
   have hne:(Q2 E m (S++[(E.1.getD (nxI g0) noE).born])).isEmpty=false:=by
    rw[hJ];cases h:Q2 E m S with
    | nil=>rw[h]at hem;cases hem
    | cons a l=>rfl
   refine QG (by rw[show YW E.1 (S++[(E.1.getD (nxI g0) noE).3])=true from hh,hw];simp) ?_
   refine QE (λh1=>QE (λh2=>QG (by simp;omega) ?_) (λh2=>?_)) (λh1=>?_)
   .rw[yes _ (hc' ▸ h1) (hc' ▸ h2)]at hJ;have hl1:(Q2 E m S).length+1=(Q2 E m (S++[(E.1.getD (nxI g0) noE).born])).length:=by rw[hJ];simp
    have hr:=QZz (Q2 E m S) (vc (QL E.1 (S++[(E.1.getD (nxI g0) noE).3])));rw[show Q2 E m S++[vc (QL E.1 (S++[(E.1.getD (nxI g0) noE).3]))]=Q2 E m (S++[(E.1.getD (nxI g0) noE).born]) by rw[hc',hJ],hl1]at hr
    refine⟨S++[(E.1.getD (nxI g0) noE).born],hS',hmu,λ_ _ r=>r,?_⟩;rw[QCG hne];refine⟨rfl,rfl,_,QhN E m S _ (Q2 E m S) _ g0,?_⟩
    repeat' first|with_reducible refine QM ?_ ?_|exact tv|exact Nat.le_refl _|exact qRr|exact hl1|exact Nat.le_of_eq hl1|exact Nat.le_of_eq hl1.symm|exact hr|refine aI ?_ ?_
   .rw[no2 _ (hc' ▸ h2),List.append_nil]at hJ;refine⟨S++[(E.1.getD (nxI g0) noE).born],hS',hmu,λ_ _ r=>r,?_⟩;rw[QCG hne,hJ];refine⟨rfl,rfl,_,Qki E m S _ (Q2 E m S) _ g0,?_⟩
    repeat' first|with_reducible refine QM ?_ ?_|exact tv|exact Nat.le_refl _|exact qRr|refine aI ?_ ?_
   .rw[no1 _ (hc' ▸ h1),List.append_nil]at hJ;refine⟨S++[(E.1.getD (nxI g0) noE).born],hS',hmu,λ_ _ r=>r,?_⟩;rw[QCG hne,hJ];refine⟨rfl,rfl,_,QZH E m S _ (Q2 E m S) _ g0,?_⟩
    repeat' first|with_reducible refine QM ?_ ?_|exact tv|exact Nat.le_refl _|exact qRr|refine aI ?_ ?_
def QA9:Prop:=Xr E.1 S/\Z1 E.1 S
abbrev joH(P:Program)(E:ECt)(m:Int):Hnd:={ hnd (mkF P ZD) 3 with loop:=λ_=>QJa 216 [201] (HV E m []) λg=>[(QA9 E (natsG g)/\Q2 E m (natsG g)=[],.exit 0,QEl E),(QA9 E (natsG g)/\0<(Q2 E m (natsG g)).length,.exit 0,jnE E (Q2 E m (natsG g)))] }
def joU(n:Nat)(E:ECt)(m:Int)(v:List Jn):UC:=⟨208,⟨2,[(0,.ptr 200 0 0),(1,.int false .i64 m)],brR d n++[(201,.mp E.1 E.2)],216⟩,λk=>.slz k 0 v.length (.of 0),λk=>[(201,.mp E.1 E.2),rwJ true k v]⟩
theorem QZQ(n:Nat)(E:ECt)(m:Int)(v:List Jn):VK (mkF prog ZD) (joH prog E m) f89 (joU d n E m v) = .ak [m=m,201=201,0=0,E.2=E.2,([]:List Nat)=[],E.2=E.2,E.1=E.1,E.2=E.2] (.all (λ(g0:Nat->Value)=>.both (.asm (QA9 E (natsG g0)/\Q2 E m (natsG g0)=[]) (.all (λ(g1:Nat->Value)=>.need (true) (.leaf (.nils) ([(201,.mp E.1 E.2)]))))) (.asm (QA9 E (natsG g0)/\0<(Q2 E m (natsG g0)).length) (.all (λ(g2:Nat->Value)=>.need (decide (0<(Q2 E m (natsG g0)).length/\(Q2 E m (natsG g0)).length<=(Q2 E m (natsG g0)).length)) (.need (true&&(decide ((Q2 E m (natsG g0)).length<=(Q2 E m (natsG g0)).length)&&decide ((0+(Q2 E m (natsG g0)).length+(0+(Q2 E m (natsG g0)).length) / 4+192)*32<=281474976710656/\0+(Q2 E m (natsG g0)).length<=9223372036854775807))) (.need (decide (0+(Q2 E m (natsG g0)).length=0+(Q2 E m (natsG g0)).length)&&decide (0+(Q2 E m (natsG g0)).length<4611686018427387904)) (.leaf (.slz 336 0 (0+(Q2 E m (natsG g0)).length) cO) ([(201,.mp E.1 E.2),(336,.rowz true 67 (List.append (waJ) ([.int .i64])) (0+(Q2 E m (natsG g0)).length) (ZW (0+(Q2 E m (natsG g0)).length) (KQ 0 (λx x_1=>(0:Int)) λi=>QA.enc ((Q2 E m (natsG g0)).getD i (Jn.mk (0:Int) (0:Int) (0:Int) (0:Int))))))]))))))))):=by kernel_rfl
theorem QfO(n:Nat)(E:ECt)(m:Int)(v:List Jn):QF 216 [(AV.nils)] ([((201:Nat),Blk.mp E.1 E.2)]) (KX (joU d n E m v))=( some [v.length=(0:Nat),E.1=E.1,E.2=E.2,v.length=(0:Nat)]):=by kernel_rfl
theorem Qc5(n:Nat)(E:ECt)(m:Int)(v:List Jn)(g0:Nat->Value):QF 216 [(AV.slz (336:Nat) (0:Nat) ((0:Nat)+(Q2 E m (natsG g0)).length) cO)] ([((201:Nat),Blk.mp E.1 E.2),((336:Nat),Blk.rowz true (67:Nat) [CK.int i64,CK.int i64,CK.int i64,CK.int i64] ((0:Nat)+(Q2 E m (natsG g0)).length) (ZW ((0:Nat)+(Q2 E m (natsG g0)).length) (KQ (0:Nat) (λx x_1=>(0:Int)) λi=>QA.enc ((Q2 E m (natsG g0)).getD i (Jn.mk (0:Int) (0:Int) (0:Int) (0:Int))))))]) (KX (joU d n E m v))=( some [0=0,(0:Nat)+(Q2 E m (natsG g0)).length=v.length,cO=cO,E.1=E.1,E.2=E.2,v.length<=(0:Nat)+(Q2 E m (natsG g0)).length,QB (4:Nat) v.length (ZW ((0:Nat)+(Q2 E m (natsG g0)).length) (KQ (0:Nat) (λx x_1=>(0:Int)) λi=>QA.enc ((Q2 E m (natsG g0)).getD i (Jn.mk (0:Int) (0:Int) (0:Int) (0:Int))))) λi=>QA.enc (v.getD i (Jn.mk (0:Int) (0:Int) (0:Int) (0:Int)))]):=by kernel_rfl
open Go.SX Go.SX.Told Go.Sort
variable {l:List Jn}{c i:Nat}(d:Puz)(E:ECt)(m:Int)(o:List Jn)
def VR:List Jn:=E.1.flatMap (Vh m)
theorem QMj{E:ECt}(hb:(E.1.map (·.born)).Nodup)(m:Int){S:List Nat}(h:QA9 E S):(Q2 E m S).Perm (VR E m):=by
 have h1:=(Qjj hb h.1 h.2).flatMap_right (Wt E m);refine h1.trans (List.Perm.of_eq ?_);unfold VR;rw[List.flatMap_map]
 have:∀ l:List MapEntry,(∀ e∈l,e∈E.1)->l.flatMap (λe=>Wt E m e.born)=l.flatMap (Vh m):=by
  intro l
  induction l with
  | nil=>intro _;rfl
  | cons e l ih=>
   intro hl;rw[List.flatMap_cons,List.flatMap_cons,ih λx hx=>hl x (List.mem_cons_of_mem _ hx)];congr 1;unfold Wt;rw[vT hb (hl e qmc)]
 exact this _ λ_ h=>h
def leJ(x y:Jn):Bool := !(ltOf Vx) y x
theorem QTu(a b c:Jn)(h1:leJ a b=true)(h2:leJ b c=true):leJ a c=true:=by
 unfold leJ at *;rw[Bool.not_eq_true']at *;exact QBD.ntrans c b a h2 h1
theorem QOE(a b:Jn):(leJ a b||leJ b a)=true:=by
 unfold leJ;cases h:ltOf Vx b a with
 | false=>rfl
 | true=>
  cases h2:ltOf Vx a b with
  | false=>rfl
  | true=>
   have:=QBD.trans _ _ _ h h2;rw[QBD.irrefl]at this;cases this
theorem QMI{l':List Jn}(h:l.Perm l'):Jd l=Jd l':=by
 unfold Jd;refine List.Perm.eq_of_pairwise (le:=λa b=>leJ a b=true) ?_ (List.pairwise_mergeSort (le:=leJ) QTu QOE l) (List.pairwise_mergeSort (le:=leJ) QTu QOE l') (((List.mergeSort_perm l _).trans h).trans (List.mergeSort_perm l' _).symm);intro a b _ _ h1 h2;unfold leJ at h1 h2;rw[Bool.not_eq_true']at h1 h2;exact QUY a b h2 h1
theorem QaW:(List.range (0+o.length)).map (Yj (KQ 0 (λ_ _=>0) λi=>QA.enc (o.getD i ⟨0,0,0,0⟩)))=o:=by
 apply List.ext_getElem
 .simp
 .intro i h1 h2;rw[List.getElem_map,List.getElem_range]
  have e:∀ j,KQ 0 (λ_ _=>0) (λi=>QA.enc (o.getD i ⟨0,0,0,0⟩)) i j=QA.enc (o.getD i (⟨0,0,0,0⟩:Jn)) j:=λj=>by
   rw[X4,if_neg (by omega),Nat.sub_zero]
  unfold Yj;rw[e,e,e,e,Jb h2];rfl
theorem Km(N M k nid:Nat)(h:N<=M):Jt N M nid (M+k)=nid+k:=by
 have:Nat.blt (M+k) N=false:=QRW (by omega)
 simp only[Jt,this];omega
theorem Qcn(hw:WfE E)(hE:OkM E.1 E.2)(hl:E.1.length<=1000000000)(G:Ctx)(hrd:G.rd=none)(hG:G.n<=216):Q0 (mkF prog ZD) G (joH prog E m) (Qn f89):=by
 refine KO (body:=QI f89 0) (KS QEw) hrd (by kernel_rfl) ?_
 refine QXJ (I:=jnI E m) (n0:=216) (KS QEw) hG (λS _=>Qz (KS QEw) 1 G _ hrd) (λS _=>?_) ?_ (Qlg E m hw hE hl) (s0:=[]) ⟨List.nodup_nil,λb h=>(by cases h)⟩ ?_
 .unfold jnI;cases (Q2 E m S).isEmpty<;>exact(by decide:216<=272)
 .rintro s e J ⟨_,T,_,_,rfl⟩;unfold jnD;cases (Q2 E m T).isEmpty<;>exact(by decide:216<=272)
 .rintro e J ⟨rfl,T,h1,h2,rfl⟩;obtain⟨g,hg⟩:=Qbu T;refine⟨g,?_⟩;unfold jnD;rw[hg];cases h:(Q2 E m T).isEmpty with
  | true=>exact⟨_,qmc,⟨⟨h1,h2⟩,List.isEmpty_iff.1 h⟩,rfl,rfl⟩
  | false=>
   refine⟨_,List.mem_cons_of_mem _ qmc,⟨⟨h1,h2⟩,?_⟩,rfl,rfl⟩;cases hh:Q2 E m T with
   | nil=>rw[hh]at h;cases h
   | cons a l=>exact Nat.succ_pos _
theorem QlA(n:Nat)(E:ECt)(m:Int)(v:List Jn):(joU d n E m v).Ok:=by
 refine⟨(by decide:208<=216),rfl,rfl,?_,rfl,λnid h=>?_,λnid h=>?_⟩
 .intro q hq;simp only[UC.po,joU,rwJ,List.mem_cons,List.not_mem_nil,or_false]at hq;rcases hq with rfl|rfl
  .exact⟨rfl,rfl,rfl,λ_=>rfl⟩
  .exact⟨rfl,rfl,rfl,λh=>absurd (show 216<208 from h) (by decide)⟩
 .have e0:=Km 208 216 0 nid (by decide)
  simp only[UC.va,joU,AV.mapId,Nat.add_zero]at e0 ⊢;rw[e0]
 .have e0:=Km 208 216 0 nid (by decide)
  simp only[UC.po,joU,rwJ,List.map_cons,List.map_nil,Blk.mapId,Nat.add_zero]at e0 ⊢;rw[e0];rfl
theorem QfL(n:Nat)(E:ECt)(m:Int)(hw:WfE E)(hE:OkM E.1 E.2)(hl:E.1.length<=1000000000):QS prog 89 (uFC (joU d n E m (Jd (VR E m)))):=by
 refine K0 (E:=mkF prog ZD) (KS QEw) func89 (by kernel_rfl) (by kernel_rfl) (QlA ..) (λG h1 h2=>Qcn E m hw hE hl G h1 (by rw[h2];exact qlr _)) ⟨?_⟩
 refine Qh (QZQ d n E m (Jd (VR E m))) ?_
 repeat' first|refine Qt (p:=_=_) rfl ?_
 refine Ql λg0=>Kq (Qk λha=>Ql λ_=>QG rfl ?_) (Qk λha=>Ql λ_=>?_)
 .have hp:=QMj hE.born m ha.1;rw[ha.2]at hp;have hnil:=List.Perm.eq_nil hp.symm;refine⟨rfl,rfl,_,QfO d n E m (Jd (VR E m)),?_⟩;rw[hnil]
  repeat' first|exact QCM _|exact(QCM _).symm|exact tv|exact rfl|refine aI ?_ ?_
 .have hp:=QMj hE.born m ha.1;have hs:=QMI hp;have h1:=QF6 ha.1.1;have h2:=QHf E m (natsG g0);have hlen:0+(Q2 E m (natsG g0)).length=(Jd (VR E m)).length:=by rw[<-hs,QCM,Nat.zero_add]
  have hr:∀ k,QB 4 k (ZW (0+(Q2 E m (natsG g0)).length) (KQ 0 (λ_ _=>0) λi=>QA.enc ((Q2 E m (natsG g0)).getD i ⟨0,0,0,0⟩))) λi=>QA.enc ((Jd (VR E m)).getD i ⟨0,0,0,0⟩):=by
   intro k i _;show eqF 4 0 (QA.enc ((Jd _).getD i (⟨0,0,0,0⟩:Jn))) _;rw[QaW,hs];exact⟨rfl,rfl,rfl,rfl,trivial⟩
  have hpos:=ha.2;refine QG (by simp;omega) (QG (by simp;omega) (QG (by simp;omega) ?_))
  refine⟨rfl,rfl,_,Qc5 d n E m (Jd (VR E m)) g0,?_⟩
  repeat' first|exact tv|exact hlen|exact Nat.le_of_eq hlen|exact Nat.le_of_eq hlen.symm|exact hr _|exact rfl|refine aI ?_ ?_
structure OkE (E:ECt) (c:Nat):Prop where
 w:WfE E
 m:OkM E.1 E.2
 l:E.1.length<=c
theorem Qb0(k:List Int)(kv v:Value)(cl:Nat)(es:List MapEntry):(JZ k kv v cl es).length<=es.length+1:=by
 have hs:∀(es:List MapEntry) (i:Nat),(VU kv v es i).length=es.length:=by
  intro es
  induction es with
  | nil=>intro i;cases i<;>rfl
  | cons e es ih=>intro i;cases i with
   | zero=>rfl
   | succ i=>simp only[VU,List.length_cons,ih]
 unfold JZ;split
 .rw[hs];exact Nat.le_succ _
 .simp
theorem QZf{E:ECt}(h:OkE E c)(i s k t:Nat)(n:Int):OkE (QE5 i s k t n E) (c+1):=
 ⟨QVe h.w ..,Qdm (λe he=>HK he) h.m,Nat.le_trans (Qb0 ..) (Nat.succ_le_succ h.l)⟩
theorem QAm{E:ECt}{c':Nat}(h:OkE E c)(hc:c<=c'):OkE E c':=⟨h.w,h.m,Nat.le_trans h.l hc⟩
theorem QiC{d:Puz}{p q:Qb}{k s t:Nat}{E:ECt}(h:OkE E c):OkE (stE d p q i k s t E) (c+1):=by
 unfold stE;cases ((i:Int) != (k:Int))&&(meF d p q s t != 0)
 .exact QAm h (Nat.le_succ _)
 .exact QZf h ..
theorem QOr{d:Puz}{p q:Qb}{i k s:Nat}{E:ECt}{c:Nat}(h:OkE E c):∀ t,OkE (m4 d p q i k s E t) (c+t)
 | 0=>h
 | t+1=>QiC (QOr h t)
theorem QLW{d:Puz}{p q:Qb}{i k:Nat}{E:ECt}{c:Nat}(h:OkE E c):∀ s,OkE (m3 d p q i k E s) (c+4*s)
 | 0=>h
 | s+1=>QAm (QOr (QLW h s) 4) (by omega)
theorem QNp{d:Puz}{p:Qb}{i:Nat}{E:ECt}{c:Nat}(h:OkE E c):∀ k,OkE (m2 d p i E k) (c+16*k)
 | 0=>h
 | k+1=>QAm (QLW (QNp h k) 4) (by omega)
theorem QUe(d:Puz):∀ i,OkE (m1 d i) (16*d.ps.n*i)
 | 0=>⟨rfl,⟨List.nodup_nil,λe h=>(by cases h),List.nodup_nil⟩,Nat.zero_le _⟩
 | i+1=>QAm (QNp (QUe d i) d.ps.n) (by rw[Nat.mul_succ];exact qlr _)
def QH:ECt:=m1 d d.ps.n
theorem qH(hn:d.ps.n<=1000):OkE (QH d) 16000000:=QAm (QUe d d.ps.n) (by
 have:=Nat.mul_le_mul (Nat.mul_le_mul (qlr 16) hn) hn;omega)
end Go.Proofs.YtekbmehgcofnkaaGreat
namespace Go.SX
open Go Go.RowKit Go.Proofs.YtekbmehgcofnkaaGreat Told
theorem QDy(k:List Int):∀(es:List MapEntry) (i:Nat),(K8 k es i).map (·.2)=(K8 k es 0).map (·.2)
 | [],_=>rfl
 | e::es,i=>by
  simp only[K8];cases Kt e==k with
  | true=>rfl
  | false=>exact(QDy k es (i+1)).trans (QDy k es 1).symm
theorem ZU(k:List Int)(e:MapEntry)(es:List MapEntry):Kc (e::es) k=cond (Kt e==k) (intV e.val) (Kc es k):=by
 unfold Kc;simp only[K8];cases Kt e==k with
 | true=>rfl
 | false=>
  have h:=QDy k es 1;simp only[cond_false];cases h1:K8 k es (0+1)with
  | none=>rw[Nat.zero_add]at h1;rw[h1]at h;cases h0:K8 k es 0 with
   | none=>rfl
   | some q=>rw[h0]at h;cases h
  | some q=>rw[Nat.zero_add]at h1;rw[h1]at h;cases h0:K8 k es 0 with
   | none=>rw[h0]at h;cases h
   | some q'=>
    rw[h0]at h;simp only[Option.map_some,qsI]at h;obtain⟨a,b⟩:=q;obtain⟨a',b'⟩:=q';simp only at h;subst h;rfl
theorem QMF(k:List Int)(e:MapEntry):∀ es:List MapEntry,K8 k es 0=none->Kc (es++[e]) k=cond (Kt e==k) (intV e.val) 0
 | [],_=>by rw[List.nil_append,ZU];rfl
 | x::es,h=>by
  have hx:=QLT h x qmc;rw[List.cons_append,ZU,beq_false_of_ne hx,cond_false];refine QMF k e es ?_;have:=QDy k es 1;simp only[K8,beq_false_of_ne hx]at h;rw[show K8 k es 1=none from h]at this;cases h0:K8 k es 0 with
  | none=>rfl
  | some q=>rw[h0]at this;cases this
theorem QUo(k:List Int)(e:MapEntry)(hk:Kt e≠k):∀ es:List MapEntry,Kc (es++[e]) k=Kc es k
 | []=>by rw[List.nil_append,ZU,beq_false_of_ne hk];rfl
 | x::es=>by rw[List.cons_append,ZU,ZU,QUo k e hk es]
theorem QNo{k:List Int}{kv v:Value}(hk:∀ e:MapEntry,e.key=kv->Kt e=k)(k':List Int):∀{es:List MapEntry} {i j:Nat} {u:Value},K8 k es i=some (j,u)->Kc (VU kv v es (j-i)) k'=cond (k==k') (intV v) (Kc es k')
 | [],_,_,_,h=>by cases h
 | e::es,i,j,u,h=>by
  simp only[K8]at h;cases hx:Kt e==k with
  | true=>
   rw[hx]at h;simp only[qsI,qpI]at h;obtain⟨rfl,rfl⟩:=h;rw[Nat.sub_self];simp only[VU];rw[ZU,hk _ rfl,ZU,beq_iff_eq.1 hx];cases k==k'<;>rfl
  | false=>
   rw[hx]at h;have h1:=(QCp h).1;have ih:=QNo hk k' h (v:=v);rw[show j-i=(j-(i+1))+1 by omega]
   simp only[VU];rw[ZU,ih,ZU];cases he:Kt e==k' with
   | false=>rfl
   | true=>
    have:(k==k')=false:=by
     rw[beq_iff_eq.1 he]at hx;rw[beq_eq_false_iff_ne]at hx ⊢;exact λq=>hx q.symm
    rw[this];rfl
theorem QXN{k:List Int}{kv v:Value}(hk:∀ e:MapEntry,e.key=kv->Kt e=k)(cl:Nat)(es:List MapEntry)(k':List Int):Kc (JZ k kv v cl es) k'=cond (k==k') (intV v) (Kc es k'):=by
 unfold JZ;cases hf:K8 k es 0 with
 | some q=>
  obtain⟨i,u⟩:=q;have:=QNo hk k' hf (v:=v);rw[Nat.sub_zero]at this;exact this
 | none=>
  have hkk:=hk { key:=kv,val:=v,born:=cl } rfl;show Kc (es++[_]) k'=_;cases hq:k==k' with
  | true=>
   have:k=k':=beq_iff_eq.1 hq;subst this;rw[QMF k _ es hf,hkk,hq];rfl
  | false=>rw[QUo k' _ (by rw[hkk];exact beq_eq_false_iff_ne.1 hq) es];rfl
theorem QHJ:∀{es:List MapEntry} {e:MapEntry},(es.map Kt).Nodup->e∈es->Kc es (Kt e)=intV e.val
 | [],_,_,h=>by cases h
 | x::es,e,hn,h=>by
  rw[List.map_cons,List.nodup_cons]at hn;rw[ZU];rcases List.mem_cons.1 h with rfl|h
  .simp
  .have:(Kt x==Kt e)=false:=by
    rw[beq_eq_false_iff_ne];intro q;exact hn.1 (q ▸ List.mem_map_of_mem h)
   rw[this];exact QHJ hn.2 h
theorem QN1:∀{es:List MapEntry} {k:List Int},Kc es k≠0->∃ e∈es,Kt e=k
 | [],k,h=>absurd rfl h
 | x::es,k,h=>by
  rw[ZU]at h;cases hx:Kt x==k with
  | true=>exact⟨x,qmc,beq_iff_eq.1 hx⟩
  | false=>
   rw[hx]at h;obtain⟨e,he,hk⟩:=QN1 h;exact⟨e,List.mem_cons_of_mem _ he,hk⟩
end Go.SX
namespace Go.Proofs.YtekbmehgcofnkaaGreat
open Go.SX Go.SX.Told
variable {i:Nat}(d:Puz)
theorem Qbh{d:Puz}{p q:Qb}{k s t:Nat}{E:ECt}(K:List Int):Kc (stE d p q i k s t E).1 K=cond ((((i:Int) != (k:Int))&&(meF d p q s t != 0))&&([(i:Int),(s:Int),(k:Int),(t:Int)]==K)) (meF d p q s t) (Kc E.1 K):=by
 unfold stE;cases ((i:Int) != (k:Int))&&(meF d p q s t != 0)with
 | false=>rfl
 | true=>
  rw[Bool.true_and];exact QXN (λe he=>HK he) _ _ K
theorem QPJ{d:Puz}{p q:Qb}{i k s:Nat}{E:ECt}(a b c e:Int):∀ t:Nat,Kc (m4 d p q i k s E t).1 [a,b,c,e]=if (a=i/\b=s/\c=k/\0<=e/\e<t/\a≠c)/\meF d p q s e.toNat≠0 then meF d p q s e.toNat else Kc E.1 [a,b,c,e]
 | 0=>by rw[if_neg (by omega)];rfl
 | t+1=>by
  show Kc (stE d p q i k s t (m4 d p q i k s E t)).1 _=_;rw[Qbh,QPJ a b c e t]
  by_cases h:(i:Int)≠k/\meF d p q s t≠0/\a=i/\b=s/\c=k/\e=t
  .obtain⟨h1,h2,rfl,rfl,rfl,rfl⟩:=h;have:((((i:Int) != (k:Int))&&(meF d p q s t != 0))&&([(i:Int),(s:Int),(k:Int),(t:Int)]==[(i:Int),(s:Int),(k:Int),(t:Int)]))=true:=by simp[h2];omega
   rw[this,cond_true,if_pos ⟨by omega,by simpa using h2⟩]
   simp
  .have:((((i:Int) != (k:Int))&&(meF d p q s t != 0))&&([(i:Int),(s:Int),(k:Int),(t:Int)]==[a,b,c,e]))=false:=by
    rw[Bool.eq_false_iff];intro q;simp only[qbA,bne_iff_ne,ne_eq,beq_iff_eq,List.cons.injEq,and_true]at q;exact h ⟨q.1.1,q.1.2,q.2.1.symm,q.2.2.1.symm,q.2.2.2.1.symm,q.2.2.2.2.symm⟩
   rw[this,cond_false]
   by_cases h2:(a=i/\b=s/\c=k/\0<=e/\e<t/\a≠c)/\meF d p q s e.toNat≠0
   .rw[if_pos h2,if_pos ⟨by omega,h2.2⟩]
   .rw[if_neg h2,if_neg];rintro⟨⟨h3,h4,h5,h6,h7,h8⟩,h9⟩
    by_cases he:e=t
    .subst he;exact h ⟨by omega,by simpa using h9,h3,h4,h5,rfl⟩
    .exact h2 ⟨⟨h3,h4,h5,h6,by omega,h8⟩,h9⟩
theorem QR4{d:Puz}{p q:Qb}{i k:Nat}{E:ECt}(a b c e:Int):∀ s:Nat,Kc (m3 d p q i k E s).1 [a,b,c,e]=if (a=i/\0<=b/\b<s/\c=k/\0<=e/\e<4/\a≠c)/\meF d p q b.toNat e.toNat≠0 then meF d p q b.toNat e.toNat else Kc E.1 [a,b,c,e]
 | 0=>by rw[if_neg (by omega)];rfl
 | s+1=>by
  show Kc (m4 d p q i k s (m3 d p q i k E s) 4).1 _=_;rw[QPJ,QR4 a b c e s]
  by_cases hb:b=s
  .subst hb;rw[Int.toNat_natCast]
   by_cases h:(a=i/\(s:Int)=s/\c=k/\0<=e/\e<(4:Nat)/\a≠c)/\meF d p q s e.toNat≠0
   .rw[if_pos h,if_pos ⟨by omega,h.2⟩]
   .rw[if_neg h,if_neg (by omega),if_neg]
    rintro⟨h1,h2⟩;exact h ⟨by omega,h2⟩
  .rw[if_neg (λh=>hb h.1.2.1)]
   by_cases h:(a=i/\0<=b/\b<s/\c=k/\0<=e/\e<4/\a≠c)/\meF d p q b.toNat e.toNat≠0
   .rw[if_pos h,if_pos ⟨by omega,h.2⟩]
   .rw[if_neg h,if_neg];rintro⟨h1,h2⟩;exact h ⟨by omega,h2⟩
theorem QQs{d:Puz}{p:Qb}{i:Nat}{E:ECt}(a b c e:Int):∀ k:Nat,Kc (m2 d p i E k).1 [a,b,c,e]=if (a=i/\0<=b/\b<4/\0<=c/\c<k/\0<=e/\e<4/\a≠c)/\meF d p (d.ps.get c.toNat) b.toNat e.toNat≠0 then meF d p (d.ps.get c.toNat) b.toNat e.toNat else Kc E.1 [a,b,c,e]
 | 0=>by rw[if_neg (by omega)];rfl
 | k+1=>by
  show Kc (m3 d p (d.ps.get k) i k (m2 d p i E k) 4).1 _=_;rw[QR4,QQs a b c e k]
  by_cases hc:c=k
  .subst hc;rw[Int.toNat_natCast]
   by_cases h:(a=i/\0<=b/\b<(4:Nat)/\(k:Int)=k/\0<=e/\e<4/\a≠k)/\meF d p (d.ps.get k) b.toNat e.toNat≠0
   .rw[if_pos h,if_pos ⟨by omega,h.2⟩]
   .rw[if_neg h,if_neg (by omega),if_neg]
    rintro⟨h1,h2⟩;exact h ⟨by omega,h2⟩
  .rw[if_neg (λh=>hc h.1.2.2.2.1)]
   by_cases h:(a=i/\0<=b/\b<4/\0<=c/\c<k/\0<=e/\e<4/\a≠c)/\meF d p (d.ps.get c.toNat) b.toNat e.toNat≠0
   .rw[if_pos h,if_pos ⟨by omega,h.2⟩]
   .rw[if_neg h,if_neg];rintro⟨h1,h2⟩;exact h ⟨by omega,h2⟩
theorem QOF(d:Puz)(a b c e:Int):∀ i:Nat,Kc (m1 d i).1 [a,b,c,e]=if (0<=a/\a<i/\0<=b/\b<4/\0<=c/\c<d.ps.n/\0<=e/\e<4/\a≠c)/\meF d (d.ps.get a.toNat) (d.ps.get c.toNat) b.toNat e.toNat≠0 then meF d (d.ps.get a.toNat) (d.ps.get c.toNat) b.toNat e.toNat else 0
 | 0=>by rw[if_neg (by omega)];rfl
 | i+1=>by
  show Kc (m2 d (d.ps.get i) i (m1 d i) d.ps.n).1 _=_;rw[QQs,QOF d a b c e i]
  by_cases ha:a=i
  .subst ha;rw[Int.toNat_natCast]
   by_cases h:((i:Int)=i/\0<=b/\b<4/\0<=c/\c<d.ps.n/\0<=e/\e<4/\(i:Int)≠c)/\meF d (d.ps.get i) (d.ps.get c.toNat) b.toNat e.toNat≠0
   .rw[if_pos h,if_pos ⟨by omega,h.2⟩]
   .rw[if_neg h,if_neg (by omega),if_neg]
    rintro⟨h1,h2⟩;exact h ⟨by omega,h2⟩
  .rw[if_neg (λh=>ha h.1.1)]
   by_cases h:(0<=a/\a<i/\0<=b/\b<4/\0<=c/\c<d.ps.n/\0<=e/\e<4/\a≠c)/\meF d (d.ps.get a.toNat) (d.ps.get c.toNat) b.toNat e.toNat≠0
   .rw[if_pos h,if_pos ⟨by omega,h.2⟩]
   .rw[if_neg h,if_neg];rintro⟨h1,h2⟩;exact h ⟨by omega,h2⟩
theorem QB1(a b c e:Int):Kc (QH d).1 [a,b,c,e]=if 0<=a/\a<d.ps.n/\0<=b/\b<4/\0<=c/\c<d.ps.n/\0<=e/\e<4/\a≠c then meF d (d.ps.get a.toNat) (d.ps.get c.toNat) b.toNat e.toNat else 0:=by
 rw[QH,QOF]
 by_cases h:0<=a/\a<d.ps.n/\0<=b/\b<4/\0<=c/\c<d.ps.n/\0<=e/\e<4/\a≠c
 .rw[if_pos h]
  by_cases h2:meF d (d.ps.get a.toNat) (d.ps.get c.toNat) b.toNat e.toNat≠0
  .rw[if_pos ⟨h,h2⟩]
  .rw[if_neg (λq=>h2 q.2)];exact(Classical.not_not.1 h2).symm
 .rw[if_neg h,if_neg (λq=>h q.1)]
open Go.SX Go.SX.Told Go.Sort
variable {e:MapEntry}{x:Jn}{c p i:Nat}(d:Puz)(m:Int)
theorem QDh{E:ECt}(h:WfE E)(he:e∈E.1):Kt e=[QT e 0,QT e 1,QT e 2,QT e 3]:=by
 have:=List.all_eq_true.1 (show wf4 .i64 E.1=true from h) e he;rw[qbA]at this;obtain⟨a,b,c,d,hk⟩:=QDW this.1;have hl:=HK hk;unfold QT;rw[hl];rfl
theorem QFs{m:Int}:x∈Vh m e↔(m<=intV e.val/\QT e 0<QT e 2)/\x=vc e:=by
 unfold Vh
 by_cases h:m<=intV e.val/\QT e 0<QT e 2
 .rw[qde h.1,qde h.2];simp[h]
 .have:(decide (m<=intV e.val)&&decide (QT e 0<QT e 2))=false:=by
   rw[Bool.eq_false_iff];intro q;simp only[qbA,qdE]at q;exact h q
  rw[this];simp[h]
theorem QfT{E:ECt}(h:OkE E c){m:Int}(hm:1<=m)(x:Jn):x∈VR E m↔m<=Kc E.1 [x.a,x.i,x.b,x.j]/\x.a<x.b:=by
 unfold VR;rw[List.mem_flatMap];constructor
 .rintro⟨e,he,hx⟩;obtain⟨⟨h1,h2⟩,rfl⟩:=QFs.1 hx;have hk:=QDh h.w he;have hl:=QHJ h.m.keys he;rw[hk]at hl;exact⟨by show m<=Kc E.1 [QT e 0,QT e 1,QT e 2,QT e 3];rw[hl];exact h1,h2⟩
 .rintro⟨h1,h2⟩;obtain⟨e,he,hk⟩:=QN1 (es:=E.1) (k:=[x.a,x.i,x.b,x.j]) (by omega)
  have hk4:=QDh h.w he;have hl:=QHJ h.m.keys he;rw[hk]at hl;rw[hk]at hk4;simp only[List.cons.injEq,and_true]at hk4;obtain⟨e1,e2,e3,e4⟩:=hk4;refine⟨e,he,QFs.2 ⟨⟨by rw[<-hl];exact h1,by rw[<-e1,<-e3];exact h2⟩,?_⟩⟩
  obtain⟨a,i,b,j⟩:=x;simp only at e1 e2 e3 e4;unfold vc;rw[<-e1,<-e2,<-e3,<-e4]
theorem QgV{E:ECt}(h:OkE E c)(m:Int):(VR E m).Nodup:=by
 unfold VR List.Nodup;rw[List.pairwise_flatMap];constructor
 .intro e _;unfold Vh;cases decide (m<=intV e.val)&&decide (QT e 0<QT e 2)
  .exact List.Pairwise.nil
  .exact List.pairwise_singleton _ _
 .have hp:E.1.Pairwise λa b=>Kt a≠Kt b:=List.pairwise_map.1 h.m.keys;refine hp.imp_of_mem ?_;intro a b ha hb hab x hx y hy;obtain⟨_,rfl⟩:=QFs.1 hx;obtain⟨_,rfl⟩:=QFs.1 hy;intro q;apply hab;rw[QDh h.w ha,QDh h.w hb];simp only[vc,Jn.mk.injEq]at q;rw[q.1,q.2.1,q.2.2.1,q.2.2.2]
def isJ(p i q j:Nat):Bool:=decide (p<q)&&decide (m<=meF d (d.ps.get p) (d.ps.get q) i j)
def QD3(p i q:Nat):List Jn:=(List.range 4).flatMap λj=>cond (isJ d m p i q j) [⟨p,i,q,j⟩] []
def QFt(p i:Nat):List Jn:=(List.range d.ps.n).flatMap (QD3 d m p i)
def QE8(p:Nat):List Jn:=(List.range 4).flatMap (QFt d m p)
def jM:List Jn:=(List.range d.ps.n).flatMap (QE8 d m)
theorem QF1{d:Puz}{m:Int}{q:Nat}:x∈QD3 d m p i q↔∃ j,j<4/\isJ d m p i q j=true/\x=⟨p,i,q,j⟩:=by
 unfold QD3;rw[List.mem_flatMap];constructor
 .rintro⟨j,hj,hx⟩;cases hb:isJ d m p i q j with
  | false=>rw[hb]at hx;cases hx
  | true=>
   rw[hb]at hx;exact⟨j,List.mem_range.1 hj,hb,by simpa using hx⟩
 .rintro⟨j,hj,hb,rfl⟩;exact⟨j,List.mem_range.2 hj,by rw[hb];exact List.mem_singleton.2 rfl⟩
theorem QFm{d:Puz}{m:Int}:x∈QFt d m p i↔∃ q j,q<d.ps.n/\j<4/\isJ d m p i q j=true/\x=⟨p,i,q,j⟩:=by
 unfold QFt;rw[List.mem_flatMap];constructor
 .rintro⟨q,hq,hx⟩;obtain⟨j,hj,hb,rfl⟩:=QF1.1 hx;exact⟨q,j,List.mem_range.1 hq,hj,hb,rfl⟩
 .rintro⟨q,j,hq,hj,hb,rfl⟩;exact⟨q,List.mem_range.2 hq,QF1.2 ⟨j,hj,hb,rfl⟩⟩
theorem QDd{d:Puz}{m:Int}:x∈QE8 d m p↔∃ i q j,i<4/\q<d.ps.n/\j<4/\isJ d m p i q j=true/\x=⟨p,i,q,j⟩:=by
 unfold QE8;rw[List.mem_flatMap];constructor
 .rintro⟨i,hi,hx⟩;obtain⟨q,j,hq,hj,hb,rfl⟩:=QFm.1 hx;exact⟨i,q,j,List.mem_range.1 hi,hq,hj,hb,rfl⟩
 .rintro⟨i,q,j,hi,hq,hj,hb,rfl⟩;exact⟨i,List.mem_range.2 hi,QFm.2 ⟨q,j,hq,hj,hb,rfl⟩⟩
theorem QgK{d:Puz}{m:Int}:x∈jM d m↔∃ p i q j,p<d.ps.n/\i<4/\q<d.ps.n/\j<4/\isJ d m p i q j=true/\x=⟨p,i,q,j⟩:=by
 unfold jM;rw[List.mem_flatMap];constructor
 .rintro⟨p,hp,hx⟩;obtain⟨i,q,j,hi,hq,hj,hb,rfl⟩:=QDd.1 hx;exact⟨p,i,q,j,List.mem_range.1 hp,hi,hq,hj,hb,rfl⟩
 .rintro⟨p,i,q,j,hp,hi,hq,hj,hb,rfl⟩;exact⟨p,List.mem_range.2 hp,QDd.2 ⟨i,q,j,hi,hq,hj,hb,rfl⟩⟩
theorem QVN:(jM d m).Pairwise λx y=>Vx x y<0:=by
 unfold jM;rw[List.pairwise_flatMap];refine⟨λp _=>?_,List.pairwise_lt_range.imp λ{p p'} hp x hx y hy=>?_⟩
 .unfold QE8;rw[List.pairwise_flatMap];refine⟨λi _=>?_,List.pairwise_lt_range.imp λ{i i'} hi x hx y hy=>?_⟩
  .unfold QFt;rw[List.pairwise_flatMap];refine⟨λq _=>?_,List.pairwise_lt_range.imp λ{q q'} hq x hx y hy=>?_⟩
   .unfold QD3;rw[List.pairwise_flatMap];refine⟨λj _=>?_,List.pairwise_lt_range.imp λ{j j'} hj x hx y hy=>?_⟩
    .cases isJ d m p i q j
     .exact List.Pairwise.nil
     .exact List.pairwise_singleton _ _
    .cases hb:isJ d m p i q j with
     | false=>rw[hb]at hx;cases hx
     | true=>
      cases hb':isJ d m p i q j' with
      | false=>rw[hb']at hy;cases hy
      | true=>
       rw[hb]at hx;rw[hb']at hy;have hx:x=⟨p,i,q,j⟩:=by simpa using hx
       have hy:y=⟨p,i,q,j'⟩:=by simpa using hy
       subst hx hy;have hj:j<j':=hj;rw[Zc];exact .inr ⟨rfl,.inr ⟨rfl,.inr ⟨rfl,by show(j:Int)<j';omega⟩⟩⟩
   .obtain⟨j,_,_,rfl⟩:=QF1.1 hx;obtain⟨j',_,_,rfl⟩:=QF1.1 hy;have hq:q<q':=hq;rw[Zc];exact .inr ⟨rfl,.inr ⟨rfl,.inl (by show(q:Int)<q';omega)⟩⟩
  .obtain⟨q,j,_,_,_,rfl⟩:=QFm.1 hx;obtain⟨q',j',_,_,_,rfl⟩:=QFm.1 hy;have hi:i<i':=hi;rw[Zc];exact .inr ⟨rfl,.inl (by show(i:Int)<i';omega)⟩
 .obtain⟨i,q,j,_,_,_,_,rfl⟩:=QDd.1 hx;obtain⟨i',q',j',_,_,_,_,rfl⟩:=QDd.1 hy;have hp:p<p':=hp;rw[Zc];simp only;omega
theorem QX8(x:Jn):¬ Vx x x<0:=by rw[Zc];omega
theorem Qdh(hn:d.ps.n<=1000){m:Int}(hm:1<=m):Jd (VR (QH d) m)=jM d m:=by
 have hE:=qH d hn;have hnd:(jM d m).Nodup:=(QVN d m).imp λ{x y} h q=>by subst q;exact QX8 x h
 have hp:(VR (QH d) m).Perm (jM d m):=by
  rw[List.perm_ext_iff_of_nodup (QgV hE m) hnd];intro x;rw[QfT hE hm,QgK,QB1];constructor
  .rintro⟨h1,h2⟩
   by_cases h:0<=x.a/\x.a<d.ps.n/\0<=x.i/\x.i<4/\0<=x.b/\x.b<d.ps.n/\0<=x.j/\x.j<4/\x.a≠x.b
   .rw[if_pos h]at h1;refine⟨x.a.toNat,x.i.toNat,x.b.toNat,x.j.toNat,by omega,by omega,by omega,by omega,?_,?_⟩
    .unfold isJ;rw[qde h1,qde (by omega)];rfl
    .obtain⟨a,i,b,j⟩:=x;simp only[Jn.mk.injEq]at *;omega
   .rw[if_neg h]at h1;omega
  .rintro⟨p,i,q,j,hp,hi,hq,hj,hb,rfl⟩;simp only[isJ,qbA,qdE]at hb;refine⟨?_,by show(p:Int)<q;omega⟩
   rw[if_pos (by simp only;omega)]
   exact hb.2
 rw[QMI hp];unfold Jd;refine List.mergeSort_of_pairwise ((QVN d m).imp λ{x y} h=>?_);have:¬ Vx y x<0:=by rw[Zc]at h ⊢;omega
 simp[ltOf,this]
