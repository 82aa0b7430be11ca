/- - -/
import Derived.WalkSpells
import Derived.WalkLawsBesides
import Derived.Deep.MidRow
theorem qbA (a b:Bool):((a&&b)=true)=(a=true/\b=true):=Bool.and_eq_true a b
theorem qbO (a b:Bool):((a||b)=true)=(a=true∨b=true):=Bool.or_eq_true a b
theorem qdE {p:Prop}[Decidable p]:(decide p=true)=p:=decide_eq_true_eq
theorem qsJ {α:Type _}{a b:α}(h:some a=some b):a=b:=Option.some.inj h
theorem qli (n:Nat):¬n<n:=Nat.lt_irrefl n
theorem qpI {α:Type _}{β:Type _}(a:α)(b:β)(c:α)(d:β):((a,b)=(c,d))=(a=c/\b=d):=Prod.mk.injEq a b c d
theorem qsI{α:Type _}(a b:α):(some a=some b)=(a=b):=Option.some.injEq a b
variable (n:Nat)
theorem qlr:n<=n:=Nat.le_refl n
theorem qdt{p:Prop}[Decidable p](h:decide p=true):p:=of_decide_eq_true h
theorem aI{a b:Prop}(h:a)(g:b):a/\b:=⟨h,g⟩
theorem qmc{α:Type _}{a:α}{l:List α}:a∈a::l:=List.mem_cons_self
theorem qdf{p:Prop}[Decidable p](h:decide p=false):¬p:=of_decide_eq_false h
theorem qde{p:Prop}[Decidable p](h:p):decide p=true:=decide_eq_true h
theorem qnb{a b:Nat}(h:Nat.beq a b=true):a=b:=Nat.eq_of_beq_eq_true h
class Tv(p:Prop):Prop where
 o:p
theorem tv{p:Prop}[Tv p]:p:=Tv.o
instance:Tv True:=⟨trivial⟩
instance{α:Sort _}{a:α}:Tv (a=a):=⟨rfl⟩
instance{a:Nat}:Tv (a<=a):=⟨Nat.le_refl a⟩
namespace Go.Proofs.YtekbmehgcofnkaaGreat
open Go.RowKit
variable {b:Nat}(w:World)(n:Nat)
def bk:Option Obj:=w.heap[n]?
theorem ji(o:Obj)(n:Nat):bk (w.alloc o) n=if n=w.heap.size then some o else bk w n:=by
 show(w.heap.push o)[n]? = _;rw[Array.getElem?_push];rfl
theorem QYG(b i:Nat)(v:Value){c:Array Value}{t:TypeId}(h:bk w b=some (.cells c t (0,0))):bk (w.setCell ⟨b,i,none⟩ v) b=some (.cells (c.setIfInBounds i v) t (0,0)):=by
 unfold bk at *;simp[World.setCell,Array.getElem?_modify,h]
theorem Qf8(a:Addr)(n:Nat)(v:Value)(h:n≠a.block):bk (w.setCell a v) n=bk w n:=Below.heap_setCell w a v n h
@[reducible] def Has(b:Nat)(c:Array Value)(t:TypeId):Prop:=
 (∀ o,w.cell? ⟨b,o,none⟩=c[o]?)/\(∀ o,w.frozen? ⟨b,o,none⟩=false)/\bk w b=some (.cells c t (0,0))
def put(r:Nat)(c:Array Value)(t:TypeId):World:={ w with heap:=w.heap.setIfInBounds r (.cells c t (0,0)) }
theorem put_size(r:Nat)(c:Array Value)(t:TypeId):(put w r c t).heap.size=w.heap.size:=by simp[put]
theorem QgM{P:Program}{w:World}{i:Nat}{v:Value}{ty:TypeId}{d:TypeDesc}(hc:w.cell? ⟨b,i,none⟩=some v)(hu:P.underlying ty=some d)(hd:d.isRow=false):
  (loadVar ty ⟨b,i,none⟩).run P w = .ok v w:=by
 have ha:(isAgg ty).run P w = .ok false w:=by
  cases d<;>simp_all [isAgg,underlying,TypeDesc.isRow]
 unfold loadVar;simp[Sem.run_bind,ha,hc]
end Go.Proofs.YtekbmehgcofnkaaGreat
namespace Go.SX
open Go Go.RowKit Go.Proofs.YtekbmehgcofnkaaGreat
structure Loc where
 blk:Nat
 off:Nat
 esz:Nat
 cap:Nat
 nil:Bool
 nb:Option Addr
 foot:Nat->Prop
def Loc.of(blk off esz cap:Nat):Loc:=⟨blk,off,esz,cap,false,.none,λk=>k=blk⟩
def Loc.none(esz:Nat):Loc:=⟨0,0,esz,0,true,.none,λ_=>False⟩
def Loc.base(l:Loc)(e:Nat):Option Addr:=match l.nil with
 | true=>l.nb
 | false=>some ⟨l.blk,l.off+e*l.esz,.none⟩
def Loc.room(l:Loc)(n:Nat):Nat:=match l.nil with
 | true=>0
 | false=>n
inductive Cap where
 | lit (n:Nat)
 | of (k:Nat)
inductive AV where
 | int (c:Bool) (k:IntKind) (n:Int)
 | bool (c:Bool) (b:Bool)
 | ptr (id e j:Nat)
 | addr (a:Addr)
 | nilp
 | slice (c:Bool) (id e len:Nat) (cap:Cap)
 | nils
 | slz (id e len:Nat) (cap:Cap)
 | map (id:Nat)
 | yld (id:Nat)
 | nilm
 | fn (f:Fn) (cap:List AV)
 | mth (f:Fn) (fst:List AV)
 | alt (b:Bool) (v w:AV)
 | nilf
 | ifc (t:TypeId) (v:AV)
 | nili
 | str (s:ByteArray)
 | agg (l:List AV)
 | tup (l:List AV)
 | raw (v:Value)
 | opt (b:Bool) (v:AV)
variable {b:Nat}(w:World)(n:Nat)
def Cap.den:Cap->Nat
 | .lit m=>m
 | .of k=>n-k
mutual
def AV.den(r:Nat->Loc):AV->Value
 | .int _ k n => .int k n
 | .bool _ b => .bool b
 | .ptr id e j => .pointer (some ⟨(r id).blk,(r id).off+e*(r id).esz+j,none⟩)
 | .addr a => .pointer (some a)
 | .nilp => .pointer none
 | .slice _ id e len c => .slice (some ⟨(r id).blk,(r id).off+e*(r id).esz,none⟩) len (c.den (r id).cap)
 | .nils => .slice none 0 0
 | .slz id e len c => .slice ((r id).base e) len ((r id).room (c.den (r id).cap))
 | .map id => .map (some (r id).blk)
 | .yld id => .func (.yield (r id).blk) #[] #[]
 | .nilm => .map none
 | .fn f cap => .func f #[] (AV.denL r cap).toArray
 | .mth f l => .func f (AV.denL r l).toArray #[]
 | .alt b v w=>match b with
  | true=>v.den r
  | false=>w.den r
 | .nilf => .nilFunc
 | .ifc t v => .iface t (v.den r)
 | .nili => .nilIface
 | .str s => .string s
 | .agg l => .agg (AV.denL r l).toArray
 | .tup l => .tuple (AV.denL r l).toArray
 | .raw v=>v
 | .opt b v=>match b with
  | true=>v.den r
  | false => .tuple #[]
def AV.denL(r:Nat->Loc):List AV->List Value
 | []=>[]
 | v::l=>v.den r::AV.denL r l
end
theorem Qy(r:Nat->Loc):∀ l,AV.denL r l=l.map (AV.den r)
 | []=>rfl
 | v::l=>by rw[AV.denL,Qy r l];rfl
mutual
def AV.all(p:Nat->Bool):AV->Bool
 | .ptr id _ _=>p id
 | .slice _ id _ _ _=>p id
 | .slz id _ _ _=>p id
 | .map id=>p id
 | .yld id=>p id
 | .fn _ cap=>AV.allL p cap
 | .mth _ l=>AV.allL p l
 | .alt _ v w=>v.all p&&w.all p
 | .ifc _ v=>v.all p
 | .opt _ v=>v.all p
 | .agg l=>AV.allL p l
 | .tup l=>AV.allL p l
 | _=>true
def AV.allL(p:Nat->Bool):List AV->Bool
 | []=>true
 | v::l=>v.all p&&AV.allL p l
end
mutual
theorem XT{p:Nat->Bool}{r r':Nat->Loc}(h:∀ id,p id=true->r id=r' id):∀ v:AV,v.all p=true->v.den r=v.den r'
 | .int ..,_ | .bool ..,_ | .addr ..,_ | .nilp,_ | .nils,_ | .nilm,_ | .nilf,_ | .nili,_ | .str ..,_ | .raw ..,_=>rfl
 | .ptr id _ _,hv=>by simp only[AV.den];rw[h id hv]
 | .slice _ id _ _ _,hv=>by simp only[AV.den];rw[h id hv]
 | .slz id _ _ _,hv=>by simp only[AV.den];rw[h id hv]
 | .map id,hv=>by simp only[AV.den];rw[h id hv]
 | .yld id,hv=>by simp only[AV.den];rw[h id hv]
 | .fn _ cap,hv=>by simp only[AV.den];rw[denL_congr h cap hv]
 | .mth _ l,hv=>by simp only[AV.den];rw[denL_congr h l hv]
 | .alt _ v w,hv=>by
  simp only[AV.all,Bool.and_eq_true]at hv;simp only[AV.den];rw[XT h v hv.1,XT h w hv.2]
 | .ifc _ v,hv=>by simp only[AV.den];rw[XT h v hv]
 | .opt _ v,hv=>by simp only[AV.den];rw[XT h v hv]
 | .agg l,hv=>by simp only[AV.den];rw[denL_congr h l hv]
 | .tup l,hv=>by simp only[AV.den];rw[denL_congr h l hv]
theorem denL_congr{p:Nat->Bool}{r r':Nat->Loc}(h:∀ id,p id=true->r id=r' id):∀ l:List AV,AV.allL p l=true->AV.denL r l=AV.denL r' l
 | [],_=>rfl
 | v::l,hv=>by
  simp only[AV.allL,Bool.and_eq_true]at hv;simp only[AV.denL];rw[XT h v hv.1,denL_congr h l hv.2]
end
mutual
theorem all_mono{p q:Nat->Bool}(h:∀ id,p id=true->q id=true):∀ v:AV,v.all p=true->v.all q=true
 | .int ..,_ | .bool ..,_ | .addr ..,_ | .nilp,_ | .nils,_ | .nilm,_ | .nilf,_ | .nili,_ | .str ..,_ | .raw ..,_=>rfl
 | .ptr id _ _,hv=>h id hv
 | .slice _ id _ _ _,hv=>h id hv
 | .slz id _ _ _,hv=>h id hv
 | .map id,hv=>h id hv
 | .yld id,hv=>h id hv
 | .fn _ cap,hv=>allL_mono h cap hv
 | .mth _ l,hv=>allL_mono h l hv
 | .alt _ v w,hv=>by
  simp only[AV.all,Bool.and_eq_true]at hv ⊢;exact⟨all_mono h v hv.1,all_mono h w hv.2⟩
 | .ifc _ v,hv=>all_mono h v hv
 | .opt _ v,hv=>all_mono h v hv
 | .agg l,hv=>allL_mono h l hv
 | .tup l,hv=>allL_mono h l hv
theorem allL_mono{p q:Nat->Bool}(h:∀ id,p id=true->q id=true):∀ l:List AV,AV.allL p l=true->AV.allL q l=true
 | [],_=>rfl
 | v::l,hv=>by
  simp only[AV.allL,Bool.and_eq_true]at hv ⊢;exact⟨all_mono h v hv.1,allL_mono h l hv.2⟩
end
def XL:Value->AV
 | .int k n => .int true k n
 | .bool b => .bool true b
 | .pointer none => .nilp
 | .pointer (some a) => .addr a
 | .slice none 0 0 => .nils
 | .map none => .nilm
 | .nilFunc => .nilf
 | .nilIface => .nili
 | .string s => .str s
 | v => .raw v
def ofValue:Value->AV
 | .agg cs => .agg (cs.toList.map XL)
 | .tuple cs => .tup (cs.toList.map XL)
 | v=>XL v
theorem QIw(r:Nat->Loc)(v:Value):(XL v).den r=v:=by
 unfold XL;split<;>rfl
theorem QAS(r:Nat->Loc)(l:List Value):AV.denL r (l.map XL)=l:=by
 rw[Qy,List.map_map]
 induction l with
 | nil=>rfl
 | cons v l ih=>simp only[List.map_cons,Function.comp,QIw];rw[ih]
theorem QhL(r:Nat->Loc)(v:Value):(ofValue v).den r=v:=by
 unfold ofValue;split
 .simp only[AV.den];rw[QAS]
 .simp only[AV.den];rw[QAS]
 .exact QIw r v
theorem QLv(p:Nat->Bool)(v:Value):(XL v).all p=true:=by
 unfold XL;split<;>rfl
theorem QKi(p:Nat->Bool):∀ l:List Value,AV.allL p (l.map XL)=true
 | []=>rfl
 | v::l=>by simp only[List.map_cons,AV.allL,QLv,QKi p l];rfl
theorem QOI(p:Nat->Bool)(v:Value):(ofValue v).all p=true:=by
 unfold ofValue;split
 .exact QKi p _
 .exact QKi p _
 .exact QLv p _
def AV.atom:AV->Bool
 | .agg _ | .tup _ | .raw _ | .opt .. | .alt .. => false
 | _=>true
def AV.cells:AV->List AV
 | .agg l=>l
 | v=>[v]
theorem QEH(r:Nat->Loc){v:AV}(h:v.atom=true):(v.den r).oneCell'=true:=by
 cases v<;>first|rfl|(simp[AV.atom]at h)
theorem Qhi(r:Nat->Loc)(v:AV)(h:v.atom=true∨∃ l,v = .agg l):(v.den r).cells=(AV.denL r v.cells).toArray:=by
 rcases h with h|⟨l,rfl⟩
 .cases v<;>first|rfl|(simp[AV.atom]at h)
 .rfl
inductive CK where
 | int (k:IntKind)
 | bool
abbrev waJ:List CK:=[.int .i64,.int .i64,.int .i64]
abbrev wae:List CK:=(List.append (waJ) (List.append (waJ) (List.append (waJ) (List.append (waJ) (List.append (waJ) (List.append (waJ) (List.append (waJ) (List.append (waJ) (List.append (waJ) ([.int .i64]))))))))))
abbrev kE:List CK:=(wae)
abbrev kB:List CK:=[.int .i64,.int .i64]
def mkC:CK->Int->AV
 | .int k,x => .int false k x
 | .bool,x => .bool false (decide (x=1))
def cellsOf:List CK->Nat->(Nat->Int)->List AV
 | [],_,_=>[]
 | k::ks,j,f=>mkC k (f j)::cellsOf ks (j+1) f
def QY(ks:List CK)(g:Nat->Nat->Int)(i:Nat):List AV:=cellsOf ks 0 (g i)
inductive Blk where
 | cells (z:Nat) (ty:TypeId) (l:List AV)
 | rowl (ty:TypeId) (esz:Nat) (l:List (List AV))
 | gone
 | cellsR (z:Nat) (ty:TypeId) (l:List AV)
 | rowlR (ty:TypeId) (esz:Nat) (l:List (List AV))
 | lp (s:LoopState) (pend:Option Code) (tms:List AV) (ps:Array Tmp) (assign body:Code)
 | dfr
 | mp (es:List MapEntry) (clock:Nat)
 | rowz (o:Bool) (ty:TypeId) (ks:List CK) (n:Nat) (get:Nat->Nat->Int)
 | frz (ks:List CK) (n:Nat) (get:Nat->Nat->Int)
 | itm (l:List AV) (t:TypeId) (since:Nat) (seen:List Nat) (last:Nat)
def Blk.all(p:Nat->Bool):Blk->Bool
 | .cells _ _ l=>AV.allL p l
 | .rowl _ _ l=>l.all (AV.allL p)
 | .gone=>true
 | .cellsR _ _ l=>AV.allL p l
 | .rowlR _ _ l=>l.all (AV.allL p)
 | .lp _ _ l _ _ _=>AV.allL p l
 | .dfr=>true
 | .mp .. => true
 | .rowz .. => true
 | .frz .. => true
 | .itm l _ _ _ _=>AV.allL p l
def Blk.own:Blk->Bool
 | .cells .. | .rowl .. | .lp .. | .mp .. | .itm .. => true
 | .rowz o .. => o
 | _=>false
def Blk.live:Blk->Bool
 | .gone=>false
 | _=>true
def Blk.peel:Blk->Blk
 | .cellsR z ty l => .cells z ty l
 | .rowlR ty z l => .rowl ty z l
 | .rowz _ ty z n g => .rowz true ty z n g
 | b=>b
def Blk.ro:Blk->Blk
 | .cells z ty l => .cellsR z ty l
 | .rowl ty z l => .rowlR ty z l
 | .rowz _ ty z n g => .rowz false ty z n g
 | b=>b
def qL(v:AV):Bool:=v.atom&&v.all (λ_=>false)
def Jr(l:List AV):Bool:=l.all qL
theorem QIg{v:AV}(h:qL v=true):v.all (λ_=>false)=true:=by
 simp only[qL,Bool.and_eq_true]at h;exact h.2
theorem Xu:∀{l:List AV},Jr l=true->AV.allL (λ_=>false) l=true
 | [],_=>rfl
 | v::l,h=>by
  simp only[Jr,List.all_cons,Bool.and_eq_true]at h;simp only[AV.allL,Bool.and_eq_true];exact⟨QIg h.1,Xu h.2⟩
def Q9(get:Nat->List AV):List (List AV):=(List.range n).map get
def Vm(r:Nat->Loc)(l:Loc)(esz n:Nat)(get:Nat->List AV):Prop:=
 (l.nil=true->n=0)/\∀ i,i<n->l.foot l.blk/\(get i).length=esz/\∀ j v,(get i)[j]? = some v->qL v=true/\w.cell? ⟨l.blk,l.off+i*esz+j,none⟩=some (v.den r)
theorem XZ:∀(ks:List CK) (j:Nat) (f:Nat->Int),(cellsOf ks j f).length=ks.length
 | [],_,_=>rfl
 | _::ks,j,f=>by rw[cellsOf,List.length_cons,XZ ks,List.length_cons]
theorem VD:∀(ks:List CK) (j:Nat) (f:Nat->Int),Jr (cellsOf ks j f)=true
 | [],_,_=>rfl
 | k::ks,j,f=>by
  rw[cellsOf,Jr,List.all_cons,Bool.and_eq_true];exact⟨by cases k<;>rfl,VD ks (j+1) f⟩
def Kl(r:Nat->Loc)(id:Nat)(w:World)(ty:TypeId)(esz n:Nat)(get:Nat->List AV):Prop:=
 (r id).off=0/\(r id).esz=esz/\(∀ k,(r id).foot k↔((r id).nil=false/\k=(r id).blk))/\((r id).nil=true->n=0)/\(∀ i,i<n->(get i).length=esz/\Jr (get i)=true) /\
   ((r id).nil=false->n<=(r id).cap/\∃ rest:List Value,((r id).cap-n)*esz<=rest.length/\bk w (r id).blk=some (.cells (AV.denL r (Q9 n get).flatten++rest).toArray ty (0,0)))
def QTI:List Value->Option Nat
 | [.map b]=>b
 | _=>none
def QN(r:Nat->Loc)(id:Nat)(w:World):Blk->Prop
 | .cells z ty l=>(r id).off=0/\(r id).esz=z/\bk w (r id).blk=some (.cells (AV.denL r l).toArray ty (0,0))
 | .rowl ty esz l=>(r id).off=0/\(r id).esz=esz/\(∀ x∈l,x.length=esz)/\l.length<=(r id).cap /\
   ∃ rest:List Value,((r id).cap-l.length)*esz<=rest.length/\bk w (r id).blk=some (.cells (AV.denL r l.flatten++rest).toArray ty (0,0))
 | .gone=>True
 | .cellsR z ty l=>(r id).off=0/\(r id).esz=z/\bk w (r id).blk=some (.cells (AV.denL r l).toArray ty (0,0))
 | .rowlR ty esz l=>(r id).off=0/\(r id).esz=esz/\(∀ x∈l,x.length=esz)/\l.length<=(r id).cap /\
   ∃ rest:List Value,((r id).cap-l.length)*esz<=rest.length/\bk w (r id).blk=some (.cells (AV.denL r l.flatten++rest).toArray ty (0,0))
 | .lp s pend l ps as body=>∃ fn D,bk w (r id).blk=some (.loop { state:=s,pending:=pend,fn,tmps:=(AV.denL r l).toArray,params:=ps,assign:=as,body,defers:=D })
 | .dfr=>∀ k,(r id).foot k->bk w k=some (.deferred (some []))
 | .mp es cl=>bk w (r id).blk=some (.map es.toArray cl)
 | .rowz _ ty ks n g=>Kl r id w ty ks.length n (QY ks g)
 | .frz ks n g=>(r id).esz=ks.length/\(∀ k,(r id).foot k->k<w.heap.size)/\Vm w r (r id) ks.length n (QY ks g)
 | .itm l _ since seen last=>(r id).off=0/\(r id).esz=0/\bk w (r id).blk=some (.mapIter (QTI (AV.denL r l)) since seen.toArray last)
def Qo(r:Nat->Loc)(id:Nat)(b:Blk)(k:Nat):Prop:=match b with
 | .rowz .. => (r id).foot k
 | .frz .. => (r id).foot k
 | .dfr=>(r id).foot k
 | _=>k=(r id).blk
theorem QN.peel{r:Nat->Loc}{id:Nat}{w:World}{b:Blk}(h:QN r id w b):QN r id w b.peel:=by cases b<;>exact h
theorem QN.ro{r:Nat->Loc}{id:Nat}{w:World}{b:Blk}(h:QN r id w b):QN r id w b.ro:=by cases b<;>exact h
theorem Blk.all_peel{p:Nat->Bool}{b:Blk}(h:b.all p=true):b.peel.all p=true:=by cases b<;>exact h
theorem Blk.own_ro(b:Blk):b.ro.own=true->b.ro=b:=by cases b<;>first|(intro h;cases h;done)|exact λ_=>rfl
theorem Blk.live_ro(b:Blk):b.ro.live=b.live:=by cases b<;>rfl
theorem j5(p:Nat->Bool):∀ a b:List AV,AV.allL p (a++b)=(AV.allL p a&&AV.allL p b)
 | [],b=>rfl
 | v::a,b=>by simp only[List.cons_append,AV.allL,j5 p a b,Bool.and_assoc]
theorem YG{p:Nat->Bool}:∀{l:List (List AV)},l.all (AV.allL p)=true->AV.allL p l.flatten=true
 | [],_=>rfl
 | x::l,h=>by
  simp only[List.all_cons,Bool.and_eq_true]at h;rw[List.flatten_cons,j5,h.1,YG h.2];rfl
theorem QJT{w w':World}{o:Nat}(h:bk w' b=bk w b):w'.cell? ⟨b,o,none⟩=w.cell? ⟨b,o,none⟩:=World.cell?_of_block (w:=w) (w':=w') (a:=⟨b,o,none⟩) h
theorem Yx{w:World}{o:Obj}(h:bk w b=some o):b<w.heap.size:=by
 unfold bk at h;rcases Nat.lt_or_ge b w.heap.size with g|g
 .exact g
 .rw[Array.getElem?_eq_none g]at h;cases h
theorem QN.lt{r:Nat->Loc}{id:Nat}{w:World}:∀{b:Blk},QN r id w b->b.live=true->∀ k,Qo r id b k->k<w.heap.size
 | .cells _ _ _,h,_,_,e=>e ▸ Yx h.2.2
 | .rowl _ _ _,⟨_,_,_,_,_,_,h⟩,_,_,e=>e ▸ Yx h
 | .gone,_,h,_,_=>by cases h
 | .cellsR _ _ _,h,_,_,e=>e ▸ Yx h.2.2
 | .rowlR _ _ _,⟨_,_,_,_,_,_,h⟩,_,_,e=>e ▸ Yx h
 | .lp ..,⟨_,_,h⟩,_,_,e=>e ▸ Yx h
 | .dfr,h,_,k,e=>Yx (h k e)
 | .mp ..,h,_,_,e=>e ▸ Yx h
 | .rowz ..,⟨_,_,hf,_,_,h⟩,_,k,e=>by
  obtain⟨hn,rfl⟩:=(hf k).1 e;obtain⟨_,_,_,h⟩:=h hn;exact Yx h
 | .frz ..,⟨_,h,_⟩,_,k,e=>h k e
 | .itm ..,h,_,_,e=>e ▸ Yx h.2.2
theorem Vm.keep{r r':Nat->Loc}{l:Loc}{w w':World}{esz n:Nat}{get:Nat->List AV}(h:Vm w r l esz n get)(hb:∀ k,l.foot k->bk w' k=bk w k):Vm w' r' l esz n get:=by
 refine⟨h.1,λi hi=>?_⟩;obtain⟨h0,h1,h2⟩:=h.2 i hi;refine⟨h0,h1,λj v hv=>?_⟩;obtain⟨h3,h4⟩:=h2 j v hv;refine⟨h3,?_⟩;rw[QJT (hb _ h0),h4,XT (p:=λ_=>false) (r:=r) (r':=r') (λ_ hf=>by cases hf) v (QIg h3)]
theorem GR{n:Nat}{get:Nat->List AV}(h:∀ i,i<n->AV.allL (λ_=>false) (get i)=true):AV.allL (λ_=>false) (Q9 n get).flatten=true:=by
 apply YG;rw[List.all_eq_true];intro x hx;obtain⟨i,hi,rfl⟩:=List.mem_map.1 hx;exact h i (List.mem_range.1 hi)
theorem QN.keep{r r':Nat->Loc}{id:Nat}{w w':World}{p:Nat->Bool}(hr:∀ i,p i=true->r i=r' i)(hid:r id=r' id)(hsz:w.heap.size<=w'.heap.size):∀{b:Blk},b.all p=true->(b.live=true->∀ k,Qo r id b k->bk w' k=bk w k)->QN r id w b->QN r' id w' b
 | .cells z ty l,ha,hb,h=>by
  have hb:=hb rfl _ rfl;simp only[QN]at h ⊢;rw[<-hid,hb,<-denL_congr hr l ha];exact h
 | .rowl ty esz l,ha,hb,h=>by
  have hb:=hb rfl _ rfl;simp only[QN]at h ⊢;rw[<-hid,hb,<-denL_congr hr _ (YG ha)];exact h
 | .gone,_,_,_=>trivial
 | .cellsR z ty l,ha,hb,h=>by
  have hb:=hb rfl _ rfl;simp only[QN]at h ⊢;rw[<-hid,hb,<-denL_congr hr l ha];exact h
 | .rowlR ty esz l,ha,hb,h=>by
  have hb:=hb rfl _ rfl;simp only[QN]at h ⊢;rw[<-hid,hb,<-denL_congr hr _ (YG ha)];exact h
 | .lp s pend l ps as body,ha,hb,h=>by
  have hb:=hb rfl _ rfl;simp only[QN]at h ⊢;rw[<-hid,hb,<-denL_congr hr l ha];exact h
 | .dfr,ha,hb,h=>by
  have hb:∀ k,(r id).foot k->bk w' k=bk w k:=hb rfl;simp only[QN]at h ⊢;rw[<-hid];exact λk hk=>(hb k hk).trans (h k hk)
 | .mp es cl,ha,hb,h=>by
  have hb:=hb rfl _ rfl;simp only[QN]at h ⊢;rw[<-hid,hb];exact h
 | .rowz o ty ks n get,ha,hb,h=>by
  have hb:∀ k,(r id).foot k->bk w' k=bk w k:=hb rfl;simp only[QN,Kl]at h ⊢;rw[<-hid];obtain⟨h1,h2,h3,h4,h5,h6⟩:=h;refine⟨h1,h2,h3,h4,h5,λhn=>?_⟩;obtain⟨h7,rest,h8,h9⟩:=h6 hn;refine⟨h7,rest,h8,?_⟩;rw[hb _ ((h3 _).2 ⟨hn,rfl⟩),h9,denL_congr (p:=λ_=>false) (r:=r) (r':=r') (λ_ hf=>by cases hf) _ (GR λi hi=>Xu (h5 i hi).2)]
 | .frz esz n get,ha,hb,h=>by
  have hb:∀ k,(r id).foot k->bk w' k=bk w k:=hb rfl;simp only[QN]at h ⊢;rw[<-hid];exact⟨h.1,λk hk=>Nat.lt_of_lt_of_le (h.2.1 k hk) hsz,h.2.2.keep hb⟩
 | .itm l t since seen last,ha,hb,h=>by
  have hb:=hb rfl _ rfl;simp only[QN]at h ⊢;rw[<-hid,hb,<-denL_congr hr l ha];exact h
abbrev vi(n:Int):AV:=.int false .i64 n
abbrev vj(n:Int):AV:=.int true .i64 n
abbrev cO:Cap:=.of 0
