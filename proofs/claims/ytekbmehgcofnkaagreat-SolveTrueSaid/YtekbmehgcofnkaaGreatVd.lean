/- - -/
import Derived.Test.YtekbmehgcofnkaaGreatVc
import Derived.Great.BuildSlice
namespace Go.SX
open Go Go.RowKit Go.Proofs.YtekbmehgcofnkaaGreat
structure Eff where
 known:Bool
 pre:Bool
 val:AV
 upd:List (Nat×Blk)
abbrev jf:=List Nat×(List Blk->Option Eff)
def noV:jf:=([],λ_=>none)
abbrev FC:=List AV->Nat->List Nat->jf
def inR(nid id:Nat):Bool:=nid<=id&&id<nid+8
structure Fr (w w':World) (ch:Nat->Prop):Prop where
 os:w'.os=w.os
 tape:w'.tape=w.tape
 output:w'.output=w.output
 size:w.heap.size<=w'.heap.size
 drawn:w.drawn<=w'.drawn
 block:∀ k,k<w.heap.size->¬ ch k->bk w' k=bk w k
def Chg(lk:Nat->Option Blk)(r:Nat->Loc)(nid:Nat)(u:List (Nat×Blk))(k:Nat):Prop:=∃ p∈u,inR nid p.1=false/\∃ b,lk p.1=some b/\Qo r p.1 b k
structure Qv (lk:Nat->Option Blk) (r:Nat->Loc) (nid:Nat) (u:List (Nat×Blk)) (w:World) (r':Nat->Loc) (w':World):Prop where
 same:∀ id,inR nid id=false->r' id=r id
 rep:∀ p∈u,QN r' p.1 w' p.2
 fr:Fr w w' (Chg lk r nid u)
 new:∀ p∈u,inR nid p.1=true->p.2.live=true->∀ k,Qo r' p.1 p.2 k->(w.heap.size<=k∨(∃ q∈u,inR nid q.1=false/\(∀ z∈u,z.1=q.1->z.2.live=false)/\∃ b,lk q.1=some b/\Qo r q.1 b k)∨(p.2.own=false/\∃ id b,lk id=some b/\b.own=false/\Qo r id b k))
 stay:∀ p∈u,inR nid p.1=false->p.2.live=true->∀ k,Qo r' p.1 p.2 k->∃ b,lk p.1=some b/\Qo r p.1 b k
 apart:∀ p∈u,∀ q∈u,inR nid p.1=true->inR nid q.1=true->p.1≠q.1->p.2.own=true->q.2.live=true->∀ k,Qo r' p.1 p.2 k->¬ Qo r' q.1 q.2 k
structure HOk (r:Nat->Loc) (w:World) (nid:Nat) (look:Nat->Option Blk):Prop where
 out:∀ id b,look id=some b->inR nid id=false
 rep:∀ id b,look id=some b->QN r id w b
 scope:∀ id b,look id=some b->b.all (λi=>!inR nid i)=true
 sep:∀ id id' b b',look id=some b->look id'=some b'->id≠id'->b.own=true->b'.live=true->∀ k,Qo r id b k->¬ Qo r id' b' k
def J8(P:Program)(f:FuncId):Bool:=match P.funcs[f]? with
 | some fn => fn.name != "runtime.NumGoroutine" && fn.body.isSome
 | none=>false
variable {P:Program}{r:Nat->Loc}{w w':World}{b:Blk}{t ty:TypeId}{n z:Nat}{v:AV}{get:Nat->List AV}{o:Oper}{a:Act}{K:Act->World->Prop}{Q:Exit->Act->World->Prop}
theorem Wd{f:FuncId}(h:J8 P f=true)(args:Array Value)(w:World):(callFunc f args).run P w = .ok (.enter f args) w:=by
 unfold J8 at h;split at h
 .rename_i fn hf;simp only[qbA,bne_iff_ne,ne_eq]at h;simp[callFunc,hf,h.1,Option.isNone_iff_eq_none];intro hb;rw[hb]at h;exact absurd h.2 (by simp)
 .cases h
def QS(P:Program)(f:FuncId)(fc:FC):Prop:=
 J8 P f=true/\∀(args:List AV) (nid:Nat) (all:List Nat) (r:Nat->Loc) (w:World) (look:Nat->Option Blk) (blks:List Blk) (eff:Eff),
  HOk r w nid look->AV.allL (λi=>!inR nid i) args=true->(fc args nid all).1.map look=blks.map some->(fc args nid all).2 blks=some eff->eff.pre=true ->
  Calls P f (AV.denL r args).toArray w λe w'=>∃ r',e = .returned (eff.val.den r')/\Qv look r nid eff.upd w r' w'
def QBI(P:Program)(M:TypeId->String->Option FuncId):Prop:=
 ∀ t name f,M t name=some f->∀ v w,(method (P.types.size+Made.depth) t v name).run P w = .ok (f,v) w
def Xa(P:Program)(t:TypeId)(e j:Nat):Blk->Option Eff
 | .cells z _ l=>match szT P t,VI P t with
  | some n,some row=>(VL row n l (e*z+j)).map λv=>⟨true,true,v,[]⟩
  | _,_=>none
 | .rowl _ _ l=>match szT P t,VI P t,l[e]? with
  | some n,some row,some cs=>(VL row n cs j).map λv=>⟨true,true,v,[]⟩
  | _,_,_=>none
 | .gone=>none
 | .cellsR .. => none
 | .rowlR .. => none
 | .lp .. => none
 | .dfr=>none
 | .mp .. => none
 | .rowz _ _ ks n g=>match szT P t,VI P t with
  | some m,some row=>(VL row m (QY ks g e) j).map λv=>⟨false,decide (e<n),v,[]⟩
  | _,_=>none
 | .frz ks n g=>match szT P t,VI P t with
  | some m,some row=>(VL row m (QY ks g e) j).map λv=>⟨false,decide (e<n),v,[]⟩
  | _,_=>none
 | .itm .. => none
def Vg(P:Program)(t:TypeId)(e j:Nat)(v:AV):Blk->Option Blk
 | .cells z ty l=>if v.storable&&szT P t==some v.cells.length&&decide (e*z+j+v.cells.length<=l.length)then some (.cells z ty (XH l (e*z+j) v.cells))else none
 | .rowl ty esz l=>match l[e]? with
  | some cs=>if v.storable&&szT P t==some v.cells.length&&decide (j+v.cells.length<=cs.length)then some (.rowl ty esz (l.set e (XH cs j v.cells)))else none
  | none=>none
 | _=>none
def okC:CK->AV->Bool
 | .int k,.int _ k' _=>k==k'
 | .bool,.bool _ _=>true
 | _,_=>false
def unC:AV->Int
 | .int _ _ n=>n
 | .bool _ b=>cond b 1 0
 | _=>0
def Xd:List CK->List AV->Bool
 | [],[]=>true
 | k::ks,v::l=>okC k v&&Xd ks l
 | _,_=>false
def qf:List AV->Nat->Int
 | [],_=>0
 | v::_,0=>unC v
 | _::l,j+1=>qf l j
def Ki:List AV->Nat->(Nat->Int)->Nat->Int
 | [],_,f,i=>f i
 | v::l,j,f,i=>match Nat.beq i j with
  | true=>unC v
  | false=>Ki l (j+1) f i
def QI9(P:Program)(t:TypeId)(e j:Nat)(v:AV):Blk->Option (Bool×Blk)
 | .rowz true ty ks n g=>match v.storable&&szT P t==some v.cells.length&&Xd ((ks.drop j).take v.cells.length) v.cells&&decide (j+v.cells.length<=ks.length)with
  | true=>some (decide (e<n),.rowz true ty ks n λi=>cond (decide (i=e)) (Ki v.cells j (g e)) (g i))
  | false=>none
 | _=>none
def zY(P:Program)(t:TypeId):Nat:=match P.underlying t with
 | some (.array _ e)=>(szT P e).getD 0
 | some (.struct fs)=>(match fs[0]? with
  | some f=>(match P.underlying f.type with
   | some (.array _ e)=>(szT P e).getD 0
   | _=>0)
  | none=>0)
 | _=>0
def rep:Nat->List AV->List (List AV)
 | 0,_=>[]
 | n+1,z=>z::rep n z
def VY(sz:Nat):Nat->List AV->List (List AV)
 | 0,_=>[]
 | n+1,l=>l.take sz::VY sz n (l.drop sz)
theorem Fr.refl(w:World)(ch:Nat->Prop):Fr w w ch:=⟨rfl,rfl,rfl,qlr _,qlr _,λ_ _ _=>rfl⟩
theorem Qv.id(lk:Nat->Option Blk)(r:Nat->Loc)(nid:Nat)(w:World):Qv lk r nid [] w r w:=
 ⟨λ_ _=>rfl,by simp,Fr.refl w _,by simp,by simp,by simp⟩
theorem Qv.mono{lk lk':Nat->Option Blk}(hl:∀ id b,lk id=some b->lk' id=some b){r':Nat->Loc}{nid:Nat}{u:List (Nat×Blk)}(h:Qv lk r nid u w r' w'):Qv lk' r nid u w r' w':=by
 refine⟨h.same,h.rep,⟨h.fr.os,h.fr.tape,h.fr.output,h.fr.size,h.fr.drawn,λk hk hc=>h.fr.block k hk λ⟨p,h1,h2,b,h3,h4⟩=>hc ⟨p,h1,h2,b,hl _ _ h3,h4⟩⟩,λp hp hin hlv k hk=>?_,λp hp hin hlv k hk=>?_,h.apart⟩
 .rcases h.new p hp hin hlv k hk with h1|⟨q,h1,h2,h3,b,h4,h5⟩|⟨h1,id,b,h2,h3,h4⟩
  .exact .inl h1
  .exact .inr (.inl ⟨q,h1,h2,h3,b,hl _ _ h4,h5⟩)
  .exact .inr (.inr ⟨h1,id,b,hl _ _ h2,h3,h4⟩)
 .obtain⟨b,h1,h2⟩:=h.stay p hp hin hlv k hk;exact⟨b,hl _ _ h1,h2⟩
def Blk.plain:Blk->Bool
 | .rowz .. | .frz .. | .dfr=>false
 | _=>true
theorem VJ{id:Nat}(h:b.plain=true){k:Nat}:Qo r id b k↔k=(r id).blk:=by
 cases b<;>first|exact Iff.rfl|cases h
theorem Qf1{id:Nat}(h:∀ k,(r id).foot k->k=(r id).blk){k:Nat}(hk:Qo r id b k):k=(r id).blk:=by
 cases b<;>first|exact hk|exact h k hk
theorem Qkj(w:World)(o:Obj)(ch:Nat->Prop):Fr w (w.alloc o) ch:=
 ⟨rfl,rfl,rfl,by show w.heap.size<=(w.heap.push o).size;simp,qlr _,λk hk _=>by rw[ji,if_neg (by omega)]⟩
def Qw(r:Nat->Loc)(n:Nat)(l:Loc):Nat->Loc:=λi=>if i=n then l else r i
theorem Zu(n:Nat):inR n n=true:=by simp[inR]
theorem jQ{n id:Nat}(h:inR n id=false):id≠n:=by rintro rfl;rw[Zu]at h;cases h
theorem Qv.new1{lk:Nat->Option Blk}{nid:Nat}{o:Obj}{l:Loc}(hl:l.blk=w.heap.size)(hl2:∀ k,l.foot k->k=l.blk)(hb:QN (Qw r nid l) nid (w.alloc o) b):Qv lk r nid [(nid,b)] w (Qw r nid l) (w.alloc o):=by
 refine⟨λid h=>?_,λp hp=>?_,Qkj _ _ _,λp hp _ _ k hk=>.inl ?_,λp hp h=>?_,λp hp q hq _ _ h=>?_⟩
 .unfold Qw;rw[if_neg (jQ h)]
 .simp only[List.mem_singleton]at hp;subst hp;exact hb
 .simp only[List.mem_singleton]at hp;subst hp;have:=Qf1 (r:=Qw r nid l) (id:=nid) (by simp only[Qw,if_true];exact hl2) hk
  simp only[Qw,if_true]at this;omega
 .simp only[List.mem_singleton]at hp;subst hp;rw[Zu]at h;cases h
 .simp only[List.mem_singleton]at hp hq;subst hp;subst hq;exact absurd rfl h
theorem QWi(v:Value):(XL v).cells=[XL v]:=by
 unfold XL;split<;>rfl
theorem QPv(r:Nat->Loc)(z:Value):z.cells=(AV.denL r (ofValue z).cells).toArray:=by
 cases z<;>first
  | (simp only[ofValue,AV.cells,Value.cells,QAS];done)
  | (simp only[ofValue,QWi,Value.cells,AV.denL,QIw];done)
  | (simp only[ofValue,AV.cells,Value.cells,AV.denL,AV.den,QAS];done)
theorem Qfc{z:Value}(h:(P.info? t).bind (·.zero)=some z)(w:World):
  (Instr.alloc t true (.tuple #[])).run P w = .ok (.pointer (some ⟨w.heap.size,0,none⟩)) (w.alloc (.cells z.cells t)):=by
 cases hi:P.info? t with
 | none=>simp[hi]at h
 | some i=>
  simp only[hi,Option.bind_some]at h;simp[Instr.alloc,zeroValue,typeInfo,hi,h,newVar,newRow]
theorem Qj0(v:Value)(w:World):
  (Instr.box t v).run P w = .ok (.pointer (some ⟨w.heap.size,0,none⟩)) (w.alloc (.cells v.cells t)):=by
 simp[Instr.box,newVar,newRow]
theorem QFh{row:Bool}{l:List AV}{j b o:Nat}{v:AV}(hr:VI P t=some row)(hn:szT P t=some n)(hc:∀ i v,l[i]? = some v->w.cell? ⟨b,o+i,none⟩=some (v.den r))(h:VL row n l j=some v):(loadVar t ⟨b,o+j,none⟩).run P w = .ok (v.den r) w:=by
 have hu:∃ d,P.underlying t=some d/\d.isRow=row:=by
  unfold VI at hr;cases hu:P.underlying t with
  | none=>simp[hu]at hr
  | some d=>exact⟨d,rfl,by simpa[hu]using hr⟩
 obtain⟨d,hu,hd⟩:=hu;unfold VL at h;cases row with
 | true=>
  simp only[if_true]at h;split at h<;>(try (cases h;done))
  rename_i hl;simp only[qsI]at h;subst h;have hlen:((l.drop j).take n).length=n:=by simp;omega
  simp only[AV.den];refine run_loadVar_mid w b (o+j) t _ d (λi x hx=>?_) hu hd (by rw[Kf,hlen];exact hn)
  rw[Qy,List.getElem?_map]at hx;obtain⟨y,hy,rfl⟩:=Option.map_eq_some_iff.1 hx;rw[Nat.add_assoc];refine hc (j+i) y ?_
  have hi:i<n:=by
   have:=(List.getElem?_eq_some_iff.1 hy).1;omega
  rw[List.getElem?_take_of_lt hi,List.getElem?_drop]at hy;exact hy
 | false=>
  simp only[Bool.false_eq_true,if_false]at h;exact QgM (hc j v h) hu hd
theorem Yg{b:Nat}{l:List Value}{fr:Nat×Nat}(h:bk w b=some (.cells l.toArray t fr))(i:Nat):w.cell? ⟨b,i,none⟩=l[i]? := by
 unfold bk at h;simp[World.cell?,h]
theorem jL(sz:Nat):∀(l:List (List AV)),(∀ x∈l,x.length=sz)->∀(e:Nat) (cs:List AV),l[e]? = some cs->∀ i,i<sz->e*sz+i<l.flatten.length/\l.flatten[e*sz+i]? = cs[i]?
 | [],_,e,cs,h,_,_=>by simp at h
 | x::l,hl,0,cs,h,i,hi=>by
  simp only[List.getElem?_cons_zero,qsI]at h;subst h;have hx:=hl x (by simp)
  rw[List.flatten_cons,Nat.zero_mul,Nat.zero_add];exact⟨by rw[List.length_append];omega,List.getElem?_append_left (by omega)⟩
 | x::l,hl,e+1,cs,h,i,hi=>by
  simp only[List.getElem?_cons_succ]at h;have hx:=hl x (by simp)
  obtain⟨h1,h2⟩:=jL sz l (λy hy=>hl y (by simp[hy])) e cs h i hi
  have e1:(e+1)*sz+i=x.length+(e*sz+i):=by rw[hx,Nat.add_mul];omega
  rw[List.flatten_cons,e1];refine⟨by rw[List.length_append];omega,?_⟩
  rw[List.getElem?_append_right (by omega),Nat.add_sub_cancel_left];exact h2
theorem Y0(sz:Nat):∀(l:List (List AV)),(∀ x∈l,x.length=sz)->l.flatten.length=l.length*sz
 | [],_=>by simp
 | x::l,hl=>by
  rw[List.flatten_cons,List.length_append,Y0 sz l (λy hy=>hl y (by simp[hy])),hl x (by simp),List.length_cons,Nat.add_mul];omega
theorem Qad(r:Nat->Loc){k:CK}(h:okC k v=true):(mkC k (unC v)).den r=v.den r:=by
 cases k<;>cases v<;>simp only[okC,Bool.false_eq_true]at h
 .have:=beq_iff_eq.1 h;subst this;rfl
 .rename_i c b;cases b<;>rfl
theorem QLJ(r:Nat->Loc):∀(ks:List CK) (l:List AV) (j:Nat) (f:Nat->Int),Xd ks l=true->(∀ i,i<ks.length->f (j+i)=qf l i)->AV.denL r (cellsOf ks j f)=AV.denL r l
 | [],[],_,_,_,_=>rfl
 | [],_::_,_,_,h,_=>by cases h
 | _::_,[],_,_,h,_=>by cases h
 | k::ks,v::l,j,f,h,hf=>by
  simp only[Xd,qbA]at h;have h0:=hf 0 (by simp)
  simp only[Nat.add_zero,qf]at h0
  rw[cellsOf,AV.denL,AV.denL,h0,Qad r h.1,QLJ r ks l (j+1) f h.2 (λi hi=>by
   have:=hf (i+1) (by simpa using hi)
   simp only[qf]at this;rw[<-this,show j+1+i=j+(i+1) by omega])]
theorem QGF:∀(l:List AV) (j:Nat) (f:Nat->Int) (i:Nat),Ki l j f i=if j<=i/\i<j+l.length then qf l (i-j)else f i
 | [],j,f,i=>by
  rw[if_neg (by simp only[List.length_nil];omega)];rfl
 | v::l,j,f,i=>by
  unfold Ki;cases hb:Nat.beq i j with
  | true=>
   have:=qnb hb;subst this;simp only;rw[if_pos (by simp),Nat.sub_self];rfl
  | false=>
   have hne:i≠j:=λe=>by subst e;simp at hb
   simp only;rw[QGF l (j+1) f i]
   by_cases h:j+1<=i/\i<j+1+l.length
   .rw[if_pos h,if_pos (by simp;omega),show i-j=(i-(j+1))+1 by omega];rfl
   .rw[if_neg h,if_neg (by simp;omega)]
theorem QPm:∀(ks:List CK) (j m:Nat) (f:Nat->Int),(cellsOf ks j f).drop m=cellsOf (ks.drop m) (j+m) f
 | ks,j,0,f=>rfl
 | [],j,m+1,f=>rfl
 | k::ks,j,m+1,f=>by
  rw[cellsOf,List.drop_succ_cons,List.drop_succ_cons,QPm ks (j+1) m f];congr 1;omega
theorem QSv:∀(ks:List CK) (j m:Nat) (f:Nat->Int),(cellsOf ks j f).take m=cellsOf (ks.take m) j f
 | ks,j,0,f=>by simp[cellsOf]
 | [],j,m+1,f=>rfl
 | k::ks,j,m+1,f=>by
  rw[cellsOf,List.take_succ_cons,List.take_succ_cons,cellsOf,QSv ks (j+1) m f]
theorem ql:∀(ks:List CK) (j:Nat) {f g:Nat->Int},(∀ i,i<ks.length->f (j+i)=g (j+i))->cellsOf ks j f=cellsOf ks j g
 | [],_,_,_,_=>rfl
 | k::ks,j,f,g,h=>by
  have h0:=h 0 (by simp)
  rw[Nat.add_zero]at h0
  have ih:=ql ks (j+1) (f:=f) (g:=g) (λi hi=>by
   have:=h (i+1) (by simp;omega)
   rw[show j+1+i=j+(i+1) by omega];exact this)
  rw[cellsOf,cellsOf,h0,ih]
theorem QKr:∀(ks ks':List CK) (j:Nat) (f:Nat->Int),cellsOf (ks++ks') j f=cellsOf ks j f++cellsOf ks' (j+ks.length) f
 | [],ks',j,f=>by simp[cellsOf]
 | k::ks,ks',j,f=>by
  rw[List.cons_append,cellsOf,cellsOf,List.cons_append,QKr ks ks' (j+1) f,List.length_cons,show j+1+ks.length=j+(ks.length+1) by omega]
theorem QQx:∀(vs l:List AV) (j:Nat),j+vs.length<=l.length->XH l j vs=l.take j++vs++l.drop (j+vs.length)
 | [],l,j,_=>by simp[XH]
 | v::vs,l,j,h=>by
  simp only[List.length_cons]at h;rw[XH,QQx vs (l.set j v) (j+1) (by rw[List.length_set];omega)]
  apply List.ext_getElem?;intro i;simp only[List.getElem?_append,List.getElem?_take,List.getElem?_drop,List.getElem?_set,List.length_append,List.length_take,List.length_set,List.length_cons];rcases Nat.lt_trichotomy i j with hi|hi|hi
  .rw[if_pos (by omega),if_pos (by omega),if_pos (by omega),if_neg (by omega),if_pos (by omega),if_pos (by omega),if_pos (by omega)]
  .subst hi;rw[if_pos (by omega),if_pos (by omega),if_pos (by omega),if_pos rfl,if_pos (by omega),if_pos (by omega),if_neg (by omega)]
   have:i-min i l.length=0:=by omega
   rw[this];rfl
  .by_cases h2:i<j+1+vs.length
   .rw[if_pos (by omega),if_neg (by omega),if_pos (by omega),if_neg (by omega)]
    have e:i-min j l.length=(i-min (j+1) l.length)+1:=by omega
    rw[e,List.getElem?_cons_succ]
   .rw[if_neg (by omega),if_neg (by omega),if_neg (by omega)]
    congr 1;omega
theorem Qel(r:Nat->Loc){ks:List CK}{f:Nat->Int}{j:Nat}{cs:List AV}(hj:j+cs.length<=ks.length)(ho:Xd ((ks.drop j).take cs.length) cs=true):AV.denL r (XH (cellsOf ks 0 f) j cs)=AV.denL r (cellsOf ks 0 (Ki cs j f)):=by
 rw[QQx cs _ j (by rw[XZ];exact hj)]
 have e:ks=ks.take j++((ks.drop j).take cs.length++ks.drop (j+cs.length)):=by
  rw[<-List.drop_drop,List.take_append_drop,List.take_append_drop]
 have l1:(ks.take j).length=j:=by rw[List.length_take];omega
 have l2:((ks.drop j).take cs.length).length=cs.length:=by rw[List.length_take,List.length_drop];omega
 have e2:cellsOf ks 0 (Ki cs j f)=cellsOf (ks.take j) 0 (Ki cs j f)++(cellsOf ((ks.drop j).take cs.length) j (Ki cs j f)++cellsOf (ks.drop (j+cs.length)) (j+cs.length) (Ki cs j f)):=by
  conv=>lhs;rw[e]
  rw[QKr,QKr,l1,l2];simp only[Nat.zero_add]
 rw[e2,Qy,Qy,List.map_append,List.map_append,List.map_append,List.map_append,<-Qy,<-Qy,<-Qy,<-Qy,<-Qy,<-Qy,List.append_assoc];congr 1
 .rw[QSv];congr 1;exact ql _ 0 λi hi=>by rw[QGF,if_neg (by omega)]
 .congr 1
  .exact(QLJ r _ cs j _ ho (λi hi=>by rw[QGF,if_pos (by omega)];congr 1;omega)).symm
  .rw[QPm,Nat.zero_add];congr 1;exact ql _ _ λi hi=>by rw[QGF,if_neg (by omega)]
theorem QFk{r:Nat->Loc}:∀{l l':List (List AV)},l.map (AV.denL r)=l'.map (AV.denL r)->AV.denL r l.flatten=AV.denL r l'.flatten
 | [],[],_=>rfl
 | [],_::_,h=>by simp at h
 | _::_,[],h=>by simp at h
 | x::l,y::l',h=>by
  simp only[List.map_cons,List.cons.injEq]at h;rw[List.flatten_cons,List.flatten_cons,Qy,Qy,List.map_append,List.map_append,<-Qy,<-Qy,<-Qy,<-Qy,h.1,QFk h.2]
theorem JV(n:Nat)(get:Nat->List AV):(Q9 n get).length=n:=by simp[Q9]
theorem YN{i:Nat}(h:i<n):(Q9 n get)[i]? = some (get i):=by
 unfold Q9;rw[List.getElem?_map,List.getElem?_range h];rfl
theorem Wi{x:List AV}(h:x∈Q9 n get):∃ i,i<n/\x=get i:=by
 obtain⟨i,hi,rfl⟩:=List.mem_map.1 h;exact⟨i,List.mem_range.1 hi,rfl⟩
theorem QAs{id:Nat}(h:Kl r id w ty z n get)(hn:(r id).nil=false):QN r id w (.rowl ty z (Q9 n get)):=by
 obtain⟨h1,h2,_,_,h5,h6⟩:=h;obtain⟨h7,rest,h8,h9⟩:=h6 hn;refine⟨h1,h2,λx hx=>?_,by rw[JV];exact h7,rest,by rw[JV];exact h8,h9⟩
 obtain⟨i,hi,rfl⟩:=Wi hx;exact(h5 i hi).1
theorem QCd{id:Nat}(h:Kl r id w ty z n get)(hn:0<n):(r id).nil=false:=by
 cases hh:(r id).nil with
 | false=>rfl
 | true=>have:=h.2.2.2.1 hh;omega
theorem QAz{id:Nat}{l:List (List AV)}(h:QN r id w (.rowl ty z l))(hn:(r id).nil=false)(hf:∀ k,(r id).foot k↔k=(r id).blk)(hl:l.length=n)(hg:∀ i x,l[i]? = some x->AV.denL r x=AV.denL r (get i))(hc:∀ i,i<n->Jr (get i)=true):Kl r id w ty z n get:=by
 obtain⟨h1,h2,h3,h4,rest,h5,h6⟩:=h
 have hm:l.map (AV.denL r)=(Q9 n get).map (AV.denL r):=by
  apply List.ext_getElem?;intro i;rw[List.getElem?_map,List.getElem?_map];rcases Nat.lt_or_ge i n with hi|hi
  .rw[YN hi];cases hx:l[i]? with
   | none=>rw[List.getElem?_eq_none_iff]at hx;omega
   | some x=>simp only[Option.map_some,hg i x hx]
  .rw[List.getElem?_eq_none (by omega),List.getElem?_eq_none (by rw[JV];omega)]
 refine⟨h1,h2,λk=>⟨λhk=>⟨hn,(hf k).1 hk⟩,λhk=>(hf k).2 hk.2⟩,λhh=>(by rw[hn]at hh;cases hh),λi hi=>⟨?_,hc i hi⟩,λ_=>⟨by omega,rest,by rw[<-hl];exact h5,?_⟩⟩
 .have hx:=List.getElem?_eq_getElem (l:=l) (i:=i) (by omega)
  have h7:=hg i _ hx;have h8:=h3 _ (List.mem_of_getElem? hx);rw[<-Kf r (get i),<-h7,Kf];exact h8
 .rw[h6,QFk hm]
theorem QHc{id:Nat}(h:Kl r id w ty z n get){e:Nat}(he:e<n){i:Nat}{x:AV}(hx:(get e)[i]? = some x):w.cell? ⟨(r id).blk,(r id).off+e*z+i,none⟩=some (x.den r):=by
 obtain⟨ho,hz,hlen,_,rest,_,hbk⟩:=QAs h (QCd h (by omega))
 have hcs:=YN (get:=get) he
 have hi:i<z:=by
  have h1:=(List.getElem?_eq_some_iff.1 hx).1;rw[hlen _ (List.mem_of_getElem? hcs)]at h1;exact h1
 have hflat:=jL z _ hlen e _ hcs i hi;rw[ho,Nat.zero_add,Yg hbk,List.getElem?_append_left (by rw[Kf];exact hflat.1),Qy,List.getElem?_map,hflat.2,hx];rfl
theorem QUa{id e j:Nat}{eff:Eff}(hb:QN r id w b)(h:Xa P t e j b=some eff)(hp:eff.pre=true):
  (Instr.loadAt t (AV.den r (.ptr id e j))).run P w = .ok (eff.val.den r) w/\eff.upd=[]:=by
 simp only[AV.den,Instr.loadAt,Instr.sureAddr,Sem.run_bind,Sem.run_pure,Result.andThen_ok];cases b with
 | cells z ty l=>
  simp only[Xa]at h;split at h<;>(try (cases h;done))
  rename_i n row hn hr;rw[Option.map_eq_some_iff]at h;obtain⟨v,hv,rfl⟩:=h;obtain⟨ho,hz,hbk⟩:=hb;refine⟨?_,rfl⟩;rw[ho,hz,Nat.zero_add,<-Nat.zero_add (e*z+j)];exact QFh hr hn (o:=0) (λi x hx=>by rw[Nat.zero_add,Yg hbk,Qy,List.getElem?_map,hx];rfl) hv
 | rowl ty esz l=>
  simp only[Xa]at h;split at h<;>(try (cases h;done))
  rename_i n row cs hn hr hcs;rw[Option.map_eq_some_iff]at h;obtain⟨v,hv,rfl⟩:=h;obtain⟨ho,hz,hlen,_,rest,_,hbk⟩:=hb;refine⟨?_,rfl⟩;rw[ho,hz,Nat.zero_add];refine QFh hr hn (o:=e*esz) (λi x hx=>?_) hv;rw[Yg hbk];have hel:=(List.getElem?_eq_some_iff.1 hcs)
  have hi:i<esz:=by
   have h1:=(List.getElem?_eq_some_iff.1 hx).1;rw[hlen cs (List.mem_of_getElem? hcs)]at h1;exact h1
  have hflat:=jL esz l hlen e cs hcs i hi;rw[List.getElem?_append_left (by rw[Kf];exact hflat.1),Qy,List.getElem?_map,hflat.2,hx];rfl
 | gone=>simp[Xa]at h
 | cellsR _ _ _=>simp[Xa]at h
 | rowlR _ _ _=>simp[Xa]at h
 | lp _ _ _ _ _ _=>simp[Xa]at h
 | dfr=>simp[Xa]at h
 | mp _ _=>simp[Xa]at h
 | itm _ _ _ _ _=>simp[Xa]at h
 | frz ks n g=>
  simp only[Xa]at h;split at h<;>(try (cases h;done))
  rename_i m row hm hr;rw[Option.map_eq_some_iff]at h;obtain⟨v,hv,rfl⟩:=h;simp only[qdE]at hp;obtain⟨hz,_,_,hget⟩:=hb;refine⟨?_,rfl⟩;rw[hz];refine QFh hr hm (o:=(r id).off+e*ks.length) (λi x hx=>?_) hv;exact((hget e hp).2.2 i x hx).2
 | rowz o ty ks n g=>
  simp only[Xa]at h;split at h<;>(try (cases h;done))
  rename_i m row hm hr;rw[Option.map_eq_some_iff]at h;obtain⟨v,hv,rfl⟩:=h;simp only[qdE]at hp;refine⟨?_,rfl⟩;rw[hb.2.1];refine QFh hr hm (o:=(r id).off+e*ks.length) (λi x hx=>?_) hv;exact QHc hb hp hx
theorem QCf(b:Nat):∀(vs:List Value) (o:Nat) (w:World),(w.setCells b o vs).drawn=w.drawn
 | [],_,_=>rfl
 | v::vs,o,w=>(QCf b vs (o+1) (w.setCell ⟨b,o,none⟩ v)).trans rfl
theorem QCZ(b:Nat):∀(vs:List Value) (o:Nat) (w:World),(w.setCells b o vs).os=w.os/\(w.setCells b o vs).tape=w.tape/\(w.setCells b o vs).output=w.output/\(w.setCells b o vs).heap.size=w.heap.size/\∀ k,k≠b->bk (w.setCells b o vs) k=bk w k
 | [],_,_=>⟨rfl,rfl,rfl,rfl,λ_ _=>rfl⟩
 | v::vs,o,w=>by
  obtain⟨h1,h2,h3,h4,h5⟩:=QCZ b vs (o+1) (w.setCell ⟨b,o,none⟩ v);rw[World.setCells];refine⟨h1.trans rfl,h2.trans rfl,h3.trans rfl,h4.trans (by simp[World.setCell]),λk hk=>(h5 k hk).trans (Qf8 _ _ _ _ hk)⟩
theorem QBO{t:TypeId}(b:Nat):∀(vs:List Value) (o:Nat) (w:World) (l:List Value),bk w b=some (.cells l.toArray t (0,0))->bk (w.setCells b o vs) b=some (.cells (Jk l o vs).toArray t (0,0))
 | [],_,_,_,h=>h
 | v::vs,o,w,l,h=>by
  rw[World.setCells,Jk];refine QBO b vs (o+1) _ _ ?_;have:=QYG w b o v h;rw[List.setIfInBounds_toArray]at this;exact this
theorem QVp{b o:Nat}{v:Value}{cs:List Value}(hcs:v.cells=cs.toArray)(hs:szT P t=some cs.length)(ht:w.there b o cs.length)(h1:∀ x∈cs,x.oneCell'=true):
  (storeVar t ⟨b,o,none⟩ v).run P w = .ok () (w.setCells b o cs):=by
 have:=run_storeCells_cells (P:=P) b o cs 0 w (λj hj=>by simpa using (ht j hj).1) (λj hj=>by simpa using (ht j hj).2) h1
 obtain⟨i,hi,hz⟩:=QKd hs;simp only[Nat.add_zero]at this;simp[storeVar,sizeOf,typeInfo,hi,hcs,hz,this]
theorem QGV{b:Nat}{l:List Value}(h:bk w b=some (.cells l.toArray t (0,0))){o:Nat}(hn:o+n<=l.length):w.there b o n:=λj hj=>by
 refine⟨?_,?_⟩
 .rw[Yg h];simp;omega
 .unfold bk at h;simp[World.frozen?,h]
theorem QFC:∀(vs a b:List Value) (o:Nat),o+vs.length<=a.length->Jk (a++b) o vs=Jk a o vs++b
 | [],_,_,_,_=>rfl
 | v::vs,a,b,o,h=>by
  simp only[List.length_cons]at h;rw[Jk,Jk,List.set_append_left _ _ (by omega),QFC vs _ b (o+1) (by simp;omega)]
theorem QFb:∀(vs a b:List Value) (o:Nat),Jk (a++b) (a.length+o) vs=a++Jk b o vs
 | [],_,_,_=>rfl
 | v::vs,a,b,o=>by
  rw[Jk,Jk,List.set_append_right _ _ (by omega),Nat.add_sub_cancel_left,Nat.add_assoc,QFb vs]
theorem QMR(r:Nat->Loc)(sz:Nat)(vs:List AV):∀(l:List (List AV)),(∀ x∈l,x.length=sz)->∀(e:Nat) (cs:List AV) (j:Nat),l[e]? = some cs->j+vs.length<=sz ->
  Jk (AV.denL r l.flatten) (e*sz+j) (AV.denL r vs)=AV.denL r (l.set e (XH cs j vs)).flatten
 | [],_,e,cs,_,h,_=>by simp at h
 | x::l,hl,0,cs,j,h,hj=>by
  simp only[List.getElem?_cons_zero,qsI]at h;subst h;have hx:=hl x (by simp)
  rw[List.set_cons_zero,List.flatten_cons,List.flatten_cons,Qy r (_++_),Qy r (_++_),List.map_append,List.map_append,<-Qy,<-Qy,<-Qy,Nat.zero_mul,Nat.zero_add,
   QFC _ _ _ _ (by rw[Kf,Kf];omega),QFp]
 | x::l,hl,e+1,cs,j,h,hj=>by
  simp only[List.getElem?_cons_succ]at h;have hx:=hl x (by simp)
  have ih:=QMR r sz vs l (λy hy=>hl y (by simp[hy])) e cs j h hj
  have e1:(e+1)*sz+j=(AV.denL r x).length+(e*sz+j):=by rw[Kf,hx,Nat.add_mul];omega
  rw[List.set_cons_succ,List.flatten_cons,List.flatten_cons,Qy r (_++_),Qy r (_++_),List.map_append,List.map_append,<-Qy,<-Qy,<-Qy,e1,QFb,ih]
theorem QL4{id e j:Nat}{b':Blk}(hb:QN r id w b)(h:Vg P t e j v b=some b'):
  ∃ w',(Instr.storeAt t (AV.den r (.ptr id e j)) (v.den r)).run P w = .ok () w'/\QN r id w' b'/\b'.live=true/\Fr w w' (λk=>k=(r id).blk):=by
 simp only[AV.den,Instr.storeAt,Instr.sureAddr,Sem.run_bind,Sem.run_pure,Result.andThen_ok];cases b with
 | cells z ty l=>
  simp only[Vg]at h;split at h<;>(try (cases h;done))
  rename_i hc;simp only[qbA,beq_iff_eq,qdE]at hc;obtain⟨⟨hst,hs⟩,hj⟩:=hc;simp only[qsI]at h;subst h;obtain⟨ho,hz,hbk⟩:=hb;have hlen:(AV.denL r v.cells).length=v.cells.length:=Kf _ _;obtain⟨s1,s2,s3,s4,s5⟩:=QCZ (r id).blk (AV.denL r v.cells) (e*z+j) w;refine⟨w.setCells (r id).blk (e*z+j) (AV.denL r v.cells),?_,⟨ho,hz,?_⟩,rfl,⟨s1,s2,s3,by omega,by rw[QCf];exact qlr _,λk _ hk=>s5 k hk⟩⟩
  .rw[ho,hz,Nat.zero_add];exact QVp (QGq r hst) (by rw[hlen];exact hs) (QGV hbk (by rw[Kf,Kf];omega)) (QT9 r hst)
  .rw[QBO _ _ _ _ _ hbk,QFp]
 | rowl ty esz l=>
  simp only[Vg]at h;split at h<;>(try (cases h;done))
  rename_i cs hcs;split at h<;>(try (cases h;done))
  rename_i hc;simp only[qbA,beq_iff_eq,qdE]at hc;obtain⟨⟨hst,hs⟩,hj⟩:=hc;simp only[qsI]at h;subst h;obtain⟨ho,hz,hlen,hcap,rest,hrest,hbk⟩:=hb;have hl2:(AV.denL r v.cells).length=v.cells.length:=Kf _ _;have hcl:=hlen cs (List.mem_of_getElem? hcs);obtain⟨s1,s2,s3,s4,s5⟩:=QCZ (r id).blk (AV.denL r v.cells) (e*esz+j) w
  have hin:e*esz+j+v.cells.length<=l.flatten.length:=by
   by_cases hv:v.cells.length=0
   .have:=Y0 esz l hlen;have he:=(List.getElem?_eq_some_iff.1 hcs).1
    have:e*esz+esz<=l.length*esz:=by
     have:(e+1)*esz<=l.length*esz:=Nat.mul_le_mul_right _ he;rw[Nat.add_mul]at this;omega
    omega
   .have:=(jL esz l hlen e cs hcs (j+v.cells.length-1) (by omega)).1
    omega
  refine⟨w.setCells (r id).blk (e*esz+j) (AV.denL r v.cells),?_,⟨ho,hz,?_,?_,rest,?_,?_⟩,rfl,⟨s1,s2,s3,by omega,by rw[QCf];exact qlr _,λk _ hk=>s5 k hk⟩⟩
  .rw[ho,hz,Nat.zero_add];exact QVp (QGq r hst) (by rw[hl2];exact hs) (QGV hbk (by rw[List.length_append,Kf,Kf];omega)) (QT9 r hst)
  .intro x hx;rcases List.mem_or_eq_of_mem_set hx with hx|rfl
   .exact hlen x hx
   .rw[QIW];exact hcl
  .rw[List.length_set];exact hcap
  .rw[List.length_set];exact hrest
  .rw[QBO _ _ _ _ _ hbk,QFC _ _ _ _ (by rw[Kf,Kf];omega),QMR r esz v.cells l hlen e cs j hcs (by omega)]
 | gone=>simp[Vg]at h
 | cellsR _ _ _=>simp[Vg]at h
 | rowlR _ _ _=>simp[Vg]at h
 | lp _ _ _ _ _ _=>simp[Vg]at h
 | dfr=>simp[Vg]at h
 | mp _ _=>simp[Vg]at h
 | rowz _ _ _ _ _=>simp[Vg]at h
 | frz _ _ _=>simp[Vg]at h
 | itm _ _ _ _ _=>simp[Vg]at h
theorem GM{p:Nat->Bool}:∀{l:List AV},AV.allL p l=true↔∀ v∈l,v.all p=true
 | []=>by simp[AV.allL]
 | x::l=>by simp only[AV.allL,qbA,List.mem_cons,forall_eq_or_imp,GM (l:=l)]
theorem QPM{p:Nat->Bool}:∀(vs l:List AV) (j:Nat),AV.allL p l=true->AV.allL p vs=true->AV.allL p (XH l j vs)=true
 | [],_,_,h,_=>h
 | v::vs,l,j,h,hv=>by
  simp only[AV.allL,qbA]at hv;refine QPM vs _ _ ?_ hv.2;rw[GM]at h ⊢;intro x hx;rcases List.mem_or_eq_of_mem_set hx with hx|rfl
  .exact h x hx
  .exact hv.1
theorem QZa{id e j:Nat}{b':Blk}{p:Bool}(hb:QN r id w b)(h:QI9 P t e j v b=some (p,b'))(hp:p=true):
  ∃ w',(Instr.storeAt t (AV.den r (.ptr id e j)) (v.den r)).run P w = .ok () w'/\QN r id w' b'/\b'.live=true/\Fr w w' (λk=>k=(r id).blk)/\Qo r id b (r id).blk/\∀ k,Qo r id b' k->Qo r id b k:=by
 unfold QI9 at h;split at h<;>(try (cases h;done))
 rename_i ty ks n g;split at h<;>(try (cases h;done))
 rename_i hc;simp only[qbA,beq_iff_eq,qdE]at hc;obtain⟨⟨⟨hst,hs⟩,hcl⟩,hj⟩:=hc;simp only[qsI,qpI]at h;obtain⟨h1,rfl⟩:=h;rw[hp]at h1;have he:e<n:=qdt h1;have hb:Kl r id w ty ks.length n (QY ks g):=hb;have hn:=QCd hb (by omega)
 have hfoot:=hb.2.2.1;have hrow:=hb.2.2.2.2.1
 have hset:Vg P t e j v (.rowl ty ks.length (Q9 n (QY ks g)))=some (.rowl ty ks.length ((Q9 n (QY ks g)).set e (XH (QY ks g e) j v.cells))):=by
  simp only[Vg,YN he];rw[if_pos];simp only[qbA,beq_iff_eq,qdE];exact⟨⟨hst,hs⟩,by rw[(hrow e he).1];exact hj⟩
 obtain⟨w',g1,g2,_,g4⟩:=QL4 (QAs hb hn) hset;refine⟨w',g1,?_,rfl,g4,(hfoot _).2 ⟨hn,rfl⟩,λk hk=>hk⟩;refine QAz g2 hn (λk=>by rw[hfoot k,hn];simp) (by rw[List.length_set,JV]) (λi x hx=>?_) (λi hi=>VD _ _ _)
 by_cases hie:i=e
 .subst hie;rw[List.getElem?_set_self (by rw[JV];exact he)]at hx
  simp only[qsI]at hx;subst hx;simp only[QY,decide_true,cond_true];exact Qel r hj hcl
 .rw[List.getElem?_set_ne (Ne.symm hie)]at hx;have hi:i<n:=by have:=(List.getElem?_eq_some_iff.1 hx).1;rw[JV]at this;exact this
  rw[YN hi]at hx;simp only[qsI]at hx;subst hx;simp[QY,hie]
theorem QRp{elem:TypeId}(hu:P.underlying t=some (.slice elem))(hn:szT P elem=some n)(b o len cap:Nat)(k:IntKind)(i:Int)(h:0<=i/\i<len)(w:World):
  (Instr.indexAt t (.slice (some ⟨b,o,none⟩) len cap) (.int k i)).run P w = .ok (.pointer (some ⟨b,o+i.toNat*n,none⟩)) w:=by
 simp[Instr.indexAt,asIntOf,run_underlying hu,XC hn,Ve,h.1,h.2]
theorem Jo{v:Value}(h:(execOp a.eval o).run P w = .ok (.value v) w')(k:K (a.put o.dst v) w'):o.wp P a w K Q:=by
 unfold Oper.wp;rw[h];exact k
theorem QFz(h:(execOp a.eval o).run P w = .ok .skip w')(k:K (a.put o.dst undef) w'):o.wp P a w K Q:=by
 unfold Oper.wp;rw[h];exact k
theorem QBc{f:FuncId}{args:Array Value}(h:(execOp a.eval o).run P w = .ok (.enter f args) w)(k:Calls P f args w λe w'=>∃ v,e = .returned v/\K (a.put o.dst v) w'):o.wp P a w K Q:=by
 unfold Oper.wp;rw[h];exact k.mono λe w' ⟨v,he,hk⟩=>by subst he;exact hk
theorem QEz{l:Loc}:∀ i,(!inR n i)=true->r i=Qw r n l i:=by
 intro i h;unfold Qw;rw[if_neg (jQ (by simpa using h))]
theorem QLO{p:Nat->Bool}(h:v.all p=true):AV.allL p v.cells=true:=by
 cases v<;>first|(simp only[AV.cells,AV.allL,h,Bool.and_true];done)|exact h
theorem Zp{p:Nat->Bool}{ev:Operand->AV}:∀{l:List Operand},(∀ x∈l,(ev x).all p=true)->AV.allL p (l.map ev)=true
 | [],_=>rfl
 | x::l,h=>by
  have h1:=Zp (p:=p) (ev:=ev) (l:=l) (λy hy=>h y (by simp[hy]))
  simp only[List.map_cons,AV.allL,h x (by simp),h1,Bool.and_self]
theorem qY(r:Nat->Loc)(a b:List AV):AV.denL r (a++b)=AV.denL r a++AV.denL r b:=by rw[Qy,Qy,Qy,List.map_append]
theorem Hd{x:Option Blk}{l:List Blk}(h:[x]=l.map some):∃ b,l=[b]:=by
 match l,h with
 | [b],_=>exact⟨b,rfl⟩
