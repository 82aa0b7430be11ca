/- - -/
import Derived.Test.YtbpffdkemeoajaaMxf
import Derived.RangeFuncRecord
namespace Go.SX
open Go Go.RowKit Go.Proofs.Ytbpffdkemeoajaa
def WI(v:AV):Value:=v.den fun _=>Loc.none 0
variable {v z:AV}{β:Type}{P:Program}{kt t et ty:TypeId}{k k':IntKind}{n:Int}{es es':List MapEntry}{w:World}{b cl:Nat}{eff:Eff}{r:Nat→Loc}{has:Int→Bool}{get:Int→AV}
theorem QA3(h:v.all (fun _=>false)=true)(r:Nat→Loc):v.den r=WI v:=JY (p:=fun _=>false) (fun _ hf=>by cases hf) v h
def Xj(P:Program)(kt:TypeId)(k:IntKind):Bool:=match P.underlying kt with
 | some (.int k')=>k==k'
 | _=>false
def Vs(k:IntKind)(n:Int):List MapEntry→Nat→Option (Option (Nat×Value))
 | [],_=>some none
 | e::es,i=>match e.key with
  | .int k' m=>match k==k' with
   | true=>(match decide (n=m)with|true=>some (some (i,e.val))|false=>Vs k n es (i+1))
   | false=>none
  | _=>none
def X9(key val:Value):List MapEntry→Nat→List MapEntry
 | [],_=>[]
 | e::es,0=>{ e with key,val }::es
 | e::es,i+1=>e::X9 key val es i
def XB:List MapEntry→Nat→List MapEntry
 | [],_=>[]
 | _::es,0=>es
 | e::es,i+1=>e::XB es i
def QAv(P:Program)(kt et:TypeId)(k:IntKind)(n:Int)(es:List MapEntry):Option Eff:=match Xj P kt k,Vs k n es 0 with
 | true,some (some (_,v))=>some ⟨true,true,ofValue v,[]⟩
 | true,some none=>match (P.info? et).bind (·.zero)with
  | some z=>some ⟨true,true,ofValue z,[]⟩
  | none=>none
 | _,_=>none
def zB(P:Program)(kt:TypeId)(id:Nat)(k:IntKind)(n:Int)(v:AV)(es:List MapEntry)(cl:Nat):Option Eff:=match Xj P kt k,v.all (fun _=>false),Vs k n es 0 with
 | true,true,some (some (i,_))=>some ⟨true,true,.tup [],[(id,.mp (X9 (.int k n) (WI v) es i) cl)]⟩
 | true,true,some none=>some ⟨true,true,.tup [],[(id,.mp (es++[{ key := .int k n,val:=WI v,born:=cl }]) (cl+1))]⟩
 | _,_,_=>none
def vV(P:Program)(kt:TypeId)(id:Nat)(k:IntKind)(n:Int)(es:List MapEntry)(cl:Nat):Option Eff:=match Xj P kt k,Vs k n es 0 with
 | true,some (some (i,_))=>some ⟨true,true,.tup [],[(id,.mp (XB es i) cl)]⟩
 | true,some none=>some ⟨true,true,.tup [],[(id,.mp es cl)]⟩
 | _,_=>none
def QDo:AV→Value→Bool
 | .bool _ b,.bool b'=>b==b'
 | .int _ k n,.int k' n'=>k==k'&&decide (n=n')
 | _,_=>false
def isI(k:IntKind):AV→Bool
 | .int _ k' _=>k==k'
 | _=>false
def toI:AV→Int
 | .int _ _ i=>i
 | _=>0
def ji(z v:AV):Eff:=match z with
 | .int _ kz _=>⟨false,isI kz v,.int false kz (toI v),[]⟩
 | _=>⟨true,true,v,[]⟩
theorem QUt(h:(ji z v).pre=true)(r:Nat→Loc):(ji z v).val.den r=v.den r∧(ji z v).upd=[]:=by
 unfold ji at h ⊢;split
 ·rename_i c kz i;simp only at h;cases v<;>(try (cases h;done))
  rename_i c' k' i';have e:kz=k':=by simpa[isI]using h
  subst e;exact⟨rfl,rfl⟩
 ·exact⟨rfl,rfl⟩
def QC2(P:Program)(kt et:TypeId)(k:IntKind)(n:Int)(k':IntKind)(z:AV)(get:Int→AV):Option Eff:=match Xj P kt k,k==k',(P.info? et).bind (·.zero)with
 | true,true,some zz=>(match QDo z zz with
  | true=>some (ji z (get n))
  | false=>none)
 | _,_,_=>none
def KH(n:Int)(v:AV)(get:Int→AV)(m:Int):AV:=match decide (m=n)with
 | true=>v
 | false=>get m
def Qp(n:Int)(b:Bool)(has:Int→Bool)(m:Int):Bool:=match decide (m=n)with
 | true=>b
 | false=>has m
def Jt{β:Type}(f:AV→(AV→β)→β):List AV→(List AV→β)→β
 | [],k=>k []
 | v::l,k=>f v fun v'=>Jt f l fun l'=>k (v'::l')
def Jr{β:Type}:Nat→AV→(AV→β)→β
 | 0,v,k=>k v
 | n+1,v,k=>match v with
  | .int c i x=>(match c with|true=>k (.int true i x)|false=>k (.int false i x))
  | .bool c x=>(match c with|true=>k (.bool true x)|false=>k (.bool false x))
  | .fn f l=>Jt (Jr n) l fun l'=>k (.fn f l')
  | .mth f l=>Jt (Jr n) l fun l'=>k (.mth f l')
  | .alt b v w=>Jr n v fun v'=>Jr n w fun w'=>k (.alt b v' w')
  | .ifc t v=>Jr n v fun v'=>k (.ifc t v')
  | .agg l=>Jt (Jr n) l fun l'=>k (.agg l')
  | .tup l=>Jt (Jr n) l fun l'=>k (.tup l')
  | .opt b v=>Jr n v fun v'=>k (.opt b v')
  | .ptr a b c=>k (.ptr a b c)
  | .slice a b c d e=>k (.slice a b c d e)
  | .slz a b c d=>k (.slz a b c d)
  | .map a=>k (.map a)
  | .yld a=>k (.yld a)
  | .addr a=>k (.addr a)
  | .nilp=>k .nilp
  | .nils=>k .nils
  | .nilm=>k .nilm
  | .nilf=>k .nilf
  | .nili=>k .nili
  | .str s=>k (.str s)
  | .raw v=>k (.raw v)
def VJ(m:Nat)(k:Nat→β):β:=match m with
 | 0=>k 0
 | j+1=>k (Nat.succ j)
def QCj(n:Int)(k:Int→β):β:=match n with
 | .ofNat m=>VJ m fun m=>k (.ofNat m)
 | .negSucc m=>VJ m fun m=>k (.negSucc m)
def QDT(c:Cap)(k:Cap→β):β:=match c with
 | .lit n=>VJ n fun n=>k (.lit n)
 | .of n=>VJ n fun n=>k (.of n)
def Xm{β:Type}:Nat→AV→(AV→β)→β
 | 0,v,k=>k v
 | n+1,v,k=>match v with
  | .int c i x=>(match c with|true=>QCj x fun x=>k (.int true i x)|false=>k (.int false i x))
  | .bool c x=>(match c with|true=>(match x with|true=>k (.bool true true)|false=>k (.bool true false))|false=>k (.bool false x))
  | .fn f l=>Jt (Xm n) l fun l'=>k (.fn f l')
  | .mth f l=>Jt (Xm n) l fun l'=>k (.mth f l')
  | .alt b v w=>Xm n v fun v'=>Xm n w fun w'=>k (.alt b v' w')
  | .ifc t v=>Xm n v fun v'=>k (.ifc t v')
  | .agg l=>Jt (Xm n) l fun l'=>k (.agg l')
  | .tup l=>Jt (Xm n) l fun l'=>k (.tup l')
  | .opt b v=>Xm n v fun v'=>k (.opt b v')
  | .ptr a b c=>VJ a fun a=>VJ b fun b=>VJ c fun c=>k (.ptr a b c)
  | .slice a b c d e=>VJ b fun b=>VJ c fun c=>VJ d fun d=>QDT e fun e=>(match a with|true=>k (.slice true b c d e)|false=>k (.slice false b c d e))
  | .slz a b c d=>k (.slz a b c d)
  | .map a=>VJ a fun a=>k (.map a)
  | .yld a=>VJ a fun a=>k (.yld a)
  | .addr a=>k (.addr a)
  | .nilp=>k .nilp
  | .nils=>k .nils
  | .nilm=>k .nilm
  | .nilf=>k .nilf
  | .nili=>k .nili
  | .str s=>k (.str s)
  | .raw v=>k (.raw v)
def HY{β:Type}:List (Nat×Blk)→(List (Nat×Blk)→β)→β
 | [],k=>k []
 | (i,b)::h,k=>VJ i fun i'=>HY h fun h'=>k ((i',b)::h')
def vy(v:AV)(k:AV→β):β:=match v with
 | .agg l=>k (.agg l)
 | .tup l=>k (.tup l)
 | v=>Xm 1 v k
def QMQ(l:List AV)(k:List AV→β):β:=Jt vy l k
def W6{α:Type}(on:Bool)(f:α→(α→β)→β)(x:α)(k:α→β):β:=match on with
 | false=>k x
 | true=>f x k
theorem Zs{β:Type}{f:AV→(AV→β)→β}(hf:∀ v k,f v k=k v):∀(l:List AV) (k:List AV→β),Jt f l k=k l
 | [],_=>rfl
 | v::l,k=>by rw[Jt,hf,Zs hf l]
theorem Zx{β:Type}:∀(n:Nat) (v:AV) (k:AV→β),Jr n v k=k v
 | 0,_,_=>rfl
 | n+1,v,k=>by
  cases v<;>simp only[Jr,Zx n,Zs (Zx n)]
  ·rename_i c i x;cases c<;>rfl
  ·rename_i c x;cases c<;>rfl
theorem vR(m:Nat)(k:Nat→β):VJ m k=k m:=by cases m<;>rfl
theorem QVh(n:Int)(k:Int→β):QCj n k=k n:=by cases n<;>simp only[QCj,vR]
theorem QNK(c:Cap)(k:Cap→β):QDT c k=k c:=by cases c<;>simp only[QDT,vR]
theorem QDj{β:Type}:∀(n:Nat) (v:AV) (k:AV→β),Xm n v k=k v
 | 0,_,_=>rfl
 | n+1,v,k=>by
  cases v<;>simp only[Xm,QDj n,Zs (QDj n),vR,QVh,QNK]
  ·rename_i c i x;cases c<;>rfl
  ·rename_i c x;cases c<;>cases x<;>rfl
  ·rename_i a b c d e;cases a<;>rfl
theorem QJ7{β:Type}:∀(l:List (Nat×Blk)) (k:List (Nat×Blk)→β),HY l k=k l
 | [],_=>rfl
 | (i,b)::h,k=>by rw[HY,vR,QJ7 h]
theorem QAi(v:AV)(k:AV→β):vy v k=k v:=by
 cases v<;>simp only[vy,QDj]
theorem QVj(l:List AV)(k:List AV→β):QMQ l k=k l:=Zs QAi l k
theorem Wk{α:Type}{f:α→(α→β)→β}(hf:∀ x k,f x k=k x)(on:Bool)(x:α)(k:α→β):W6 on f x k=k x:=by
 cases on with
 | false=>rfl
 | true=>exact hf x k
def QBx(P:Program)(kt:TypeId)(id:Nat)(k:IntKind)(n:Int)(v:AV)(k':IntKind)(z:AV)(has:Int→Bool)(get:Int→AV):Option Eff:=match Xj P kt k,k==k',v.all (fun _=>false)with
 | true,true,true=>some ⟨true,true,.tup [],[(id,.mpf k' z (Qp n true has) (KH n v get))]⟩
 | _,_,_=>none
def QCA(P:Program)(kt:TypeId)(id:Nat)(k:IntKind)(n:Int)(k':IntKind)(z:AV)(has:Int→Bool)(get:Int→AV):Option Eff:=match Xj P kt k,k==k' with
 | true,true=>some ⟨true,true,.tup [],[(id,.mpf k' z (Qp n false has) (KH n z get))]⟩
 | _,_=>none
def QEy:Blk→Option Nat
 | .rowz _ _ _ n _=>some n
 | .frz _ n _=>some n
 | _=>none
def jo(P:Program)(op:Op)(ev:Operand→AV)(nid:Nat):Option ZN:=match op with
 | .makeMap _ none=>some ([],fun _=>some ⟨true,true,.map nid,[(nid,.mp [] 0)]⟩)
 | .lookup t x ix false=>match P.underlying t,ev x,ev ix with
  | some (.map kt et),.map id,.int _ k n=>some ([id],fun|[.mp es _]=>QAv P kt et k n es|[.mpf k' z _ get]=>QC2 P kt et k n k' z get|_=>none)
  | _,_,_=>none
 | .mapUpdate t m x v=>match P.underlying t,ev m,ev x with
  | some (.map kt _),.map id,.int _ k n=>some ([id],fun|[.mp es cl]=>zB P kt id k n (ev v) es cl|[.mpf k' z has get]=>Jr 6 (ev v) fun u=>QBx P kt id k n u k' z has get|_=>none)
  | _,_,_=>none
 | .call ⟨.builtin .delete,args,ts⟩=>match args.toList,ts.toList with
  | [m,x],[t,_]=>match P.underlying t,ev m,ev x with
   | some (.map kt _),.map id,.int _ k n=>some ([id],fun|[.mp es cl]=>vV P kt id k n es cl|[.mpf k' z has get]=>QCA P kt id k n k' z has get|_=>none)
   | _,_,_=>none
  | _,_=>none
 | .binOp .eql t x y _=>match P.underlying t,ev x,ev y with
  | some (.slice _),.slz id _ len _,.nils=>some ([id],fun
   | [b]=>(match QEy b with
    | some n=>some ⟨false,decide (0<len∧len≤n),.bool true false,[]⟩
    | none=>none)
   | _=>none)
  | _,_,_=>none
 | _=>none
theorem QJS{k:IntKind}{n:Int}:∀{es:List MapEntry} {i:Nat} {x:Option (Nat×Value)},Vs k n es i=some x→Instr.findNow (.int k) (.int k n) es i=some x
 | [],i,x,h=>h
 | e::es,i,x,h=>by
  simp only[Vs]at h;split at h<;>(try (cases h;done))
  rename_i k' m he;split at h<;>(try (cases h;done))
  rename_i hk;have hk:k=k':=by simpa using hk
  subst hk;simp only[Instr.findNow,he,Instr.sameNow,if_true]
  by_cases hm:n=m
  ·subst hm;simp only[decide_true]at h;simp only[beq_self_eq_true];exact h
  ·simp only[hm,decide_false]at h;have:(n==m)=false:=by simpa using hm
   simp only[this];exact QJS h
theorem QHe(h:Xj P kt k=true):P.underlying kt=some (.int k):=by
 unfold Xj at h;split at h<;>(try (cases h;done))
 rename_i k' hu;have:k=k':=by simpa using h
 subst this;exact hu
theorem Xo{x:Option (Nat×Value)}(hk:Xj P kt k=true)(h:Vs k n es 0=some x)(w:World):
  (Instr.findKey kt (.int k n) es).run P w = .ok x w:=by
 simp only[Instr.findKey,Sem.run_bind,run_underlying (QHe hk),Result.andThen_ok,QJS h,Sem.run_pure]
theorem QO9(hk:Xj P kt k=true)(b:Bool)(m:Nat)(w:World):(Instr.checkKey b (m+1) kt (.int k n)).run P w = .ok () w:=by
 rw[Instr.checkKey,Sem.run_bind,run_underlying (QHe hk)];rfl
theorem X7(hk:Xj P kt k=true)(b:Bool)(w:World):(Instr.checkKey b 10000 kt (.int k n)).run P w = .ok () w:=QO9 hk b 9999 w
theorem YG{es:Array MapEntry}(h:bk w b=some (.map es cl)):(getObj b).run P w = .ok (.map es cl) w:=by
 unfold bk at h;simp[getObj,Sem.run,h]
theorem G0{es:Array MapEntry}{o':Obj}(h:bk w b=some (.map es cl)):(setObj b o').run P w = .ok () (w.putObj b o'):=by
 unfold bk at h;simp[setObj,Sem.run,h,World.putObj]
theorem QFy{z:Value}(h:(P.info? t).bind (·.zero)=some z)(w:World):(zeroValue t).run P w = .ok z w:=by
 cases hi:P.info? t with
 | none=>simp[hi]at h
 | some i=>
  simp only[hi,Option.bind_some]at h;simp[zeroValue,typeInfo,hi,h,Sem.run_bind]
theorem vh{k:IntKind}{n:Int}:∀{es:List MapEntry} {i j:Nat} {v:Value},Vs k n es i=some (some (j,v))→i≤j∧∃ e,es[j-i]? = some e∧e.key = .int k n∧e.val=v
 | [],i,j,v,h=>by simp[Vs]at h
 | e::es,i,j,v,h=>by
  simp only[Vs]at h;split at h<;>(try (cases h;done))
  rename_i k' m he;split at h<;>(try (cases h;done))
  rename_i hk;have hk:k=k':=by simpa using hk
  subst hk
  by_cases hm:n=m
  ·subst hm;simp only[decide_true,qsI,qpI]at h;obtain⟨rfl,rfl⟩:=h;exact⟨qlr _,e,by simp,he,rfl⟩
  ·simp only[hm,decide_false]at h;obtain⟨h1,e',h2,h3⟩:=vh h;exact⟨by omega,e',by rw[show j-i=(j-(i+1))+1 by omega];simpa using h2,h3⟩
theorem QJ8(key val:Value):∀(es:List MapEntry) (i:Nat),es.modify i (fun e=>{ e with key,val })=X9 key val es i
 | [],i=>by cases i<;>rfl
 | e::es,0=>rfl
 | e::es,i+1=>by rw[List.modify_succ_cons,QJ8 key val es i];rfl
theorem QKg:∀(es:List MapEntry) (i:Nat),es.eraseIdx i=XB es i
 | [],i=>by cases i<;>rfl
 | e::es,0=>rfl
 | e::es,i+1=>by rw[List.eraseIdx_cons_succ,QKg es i];rfl
theorem QGQ(w:World)(b:Nat)(o:Obj):Fr w (w.putObj b o) (fun k=>k=b):=by
 refine⟨rfl,rfl,rfl,by simp[World.putObj],fun k _ hk => ?_⟩
 unfold bk;exact World.putObj_heap_other hk
theorem QMR{o o':Obj}(h:bk w b=some o):bk (w.putObj b o') b=some o':=by
 unfold bk;exact World.putObj_heap_same (Vb h)
theorem QWF(hu:P.underlying t=some (.map kt et))(hb:bk w b=some (.map es.toArray cl))(h:QAv P kt et k n es=some eff)(r:Nat→Loc):
  (Instr.lookup t (.map (some b)) (.int k n) false).run P w = .ok (eff.val.den r) w∧eff.upd=[]:=by
 unfold QAv at h;split at h<;>(try (cases h;done))
 ·rename_i i v hk hf;simp only[qsI]at h;subst h;refine⟨?_,rfl⟩;simp only[Instr.lookup,Sem.run_bind,run_underlying hu,Result.andThen_ok,YG hb,Sem.run_pure,X7 hk,Xo hk hf,QCD];rfl
 ·rename_i hk hf;split at h<;>(try (cases h;done))
  rename_i z hz;simp only[qsI]at h;subst h;refine⟨?_,rfl⟩;simp only[Instr.lookup,Sem.run_bind,run_underlying hu,Result.andThen_ok,YG hb,Sem.run_pure,X7 hk,Xo hk hf,QCD,QFy hz];rfl
theorem QB0{id:Nat}(hu:P.underlying t=some (.map kt et))(hb:bk w b=some (.map es.toArray cl))(h:zB P kt id k n v es cl=some eff)(r:Nat→Loc):
  ∃ es' cl',(Instr.mapUpdate t (.map (some b)) (.int k n) (v.den r)).run P w = .ok () (w.putObj b (.map es'.toArray cl'))∧eff=⟨true,true,.tup [],[(id,.mp es' cl')]⟩:=by
 unfold zB at h;split at h<;>(try (cases h;done))
 ·rename_i i x hk hv hf;simp only[qsI]at h;obtain⟨_,e,he,hek,_⟩:=vh hf;refine⟨_,_,?_,h.symm⟩
  have hkey:((es.toArray[i]?).map (·.key)).getD (.int k n) = .int k n:=by
   rw[List.getElem?_toArray];simp only[Nat.sub_zero]at he;rw[he];simpa using hek
  have hst:(Instr.keyThatStays (.int k n) (.int k n)).run P w = .ok (.int k n) w:=by
   simp[Instr.keyThatStays,Instr.sameBits]
  simp only[Instr.mapUpdate,Sem.run_bind,run_underlying hu,Result.andThen_ok,YG hb,X7 hk,Xo hk hf,hkey,hst,QA3 hv r];rw[G0 hb];congr 2;rw[List.modify_toArray,QJ8]
 ·rename_i hk hv hf;simp only[qsI]at h;refine⟨_,_,?_,h.symm⟩;simp only[Instr.mapUpdate,Sem.run_bind,run_underlying hu,Result.andThen_ok,YG hb,X7 hk,Xo hk hf,QA3 hv r];rw[G0 hb];simp
theorem QBp{tys:Array TypeId}{id:Nat}(hu:P.underlying t=some (.map kt et))(hb:bk w b=some (.map es.toArray cl))(ht:tys[0]? = some t)(h:vV P kt id k n es cl=some eff):
  ∃ es' cl',(Builtin.delete_ tys ty #[.map (some b),.int k n]).run P w = .ok (.tuple #[]) (w.putObj b (.map es'.toArray cl'))∧eff=⟨true,true,.tup [],[(id,.mp es' cl')]⟩:=by
 unfold vV at h;split at h<;>(try (cases h;done))
 ·rename_i i x hk hf;simp only[qsI]at h;obtain⟨_,e,he,_⟩:=vh hf;refine⟨_,_,?_,h.symm⟩;simp only[Builtin.delete_,ht,Sem.run_bind,run_underlying hu,Result.andThen_ok,YG hb,X7 hk,Xo hk hf];simp only[List.getElem?_toArray,List.getElem?_cons_zero,List.getElem?_cons_succ,Sem.run_bind,run_underlying hu,Result.andThen_ok,YG hb,X7 hk,Xo hk hf];rw[G0 hb];simp only[Result.andThen_ok,Sem.run_pure];congr 3;rw[←QKg];apply Array.ext';rw[Array.toList_eraseIdxIfInBounds]
 ·rename_i hk hf;simp only[qsI]at h;refine⟨_,_,?_,h.symm⟩;simp only[Builtin.delete_,ht,Sem.run_bind,run_underlying hu,Result.andThen_ok,YG hb,X7 hk,Xo hk hf];simp only[List.getElem?_toArray,List.getElem?_cons_zero,List.getElem?_cons_succ,Sem.run_bind,run_underlying hu,Result.andThen_ok,YG hb,X7 hk,Xo hk hf];rw[G0 hb];simp only[Result.andThen_ok,Sem.run_pure]
theorem QLT{lk:Nat→Option Blk}{nid id cl:Nat}{es0:List MapEntry}{cl0:Nat}(hid:inR nid id=false)(hlk:lk id=some (.mp es0 cl0))(hb:bk w (r id).blk=some (.map es0.toArray cl0)):Qj lk r nid [(id,.mp es cl)] w r (w.putObj (r id).blk (.map es.toArray cl)):=
 Qj.same1 hid hlk rfl (fun _ h=>h) (QMR hb) (QGQ w _ _)
structure Jm (k:IntKind) (es:List MapEntry):Prop where
 keys:∀ e∈es,∃ m,e.key = .int k m
 once:(es.map (·.key)).Nodup
theorem Jm.tail{e:MapEntry}(h:Jm k (e::es)):Jm k es:=⟨fun x hx=>h.keys x (List.mem_cons_of_mem _ hx),(List.nodup_cons.1 h.once).2⟩
theorem QAr{k:IntKind}(n:Int):∀{es:List MapEntry} (i:Nat),Jm k es→∃ x,Vs k n es i=some x∧x.map (·.2)=KP k n es
 | [],i,_=>⟨none,rfl,rfl⟩
 | e::es,i,h=>by
  obtain⟨m,hm⟩:=h.keys e (by simp)
  by_cases hn:n=m
  ·exact⟨some (i,e.val),by simp[Vs,hm,hn],by simp[KP,hm,hn]⟩
  ·obtain⟨x,h1,h2⟩:=QAr n (i+1) h.tail;exact⟨x,by simp[Vs,hm,hn,h1],by simp[KP,hm,hn,h2]⟩
theorem QHM{k:IntKind}{n:Int}:∀{es:List MapEntry},Jm k es→KP k n es=none→∀ e∈es,e.key ≠ .int k n
 | [],_,_,e,he=>by cases he
 | e'::es,h,hg,e,he=>by
  obtain⟨m,hm⟩:=h.keys e' (by simp)
  by_cases hn:n=m
  ·simp[KP,hm,hn]at hg
  ·simp only[KP,hm,hn,and_false,decide_false]at hg;rcases List.mem_cons.1 he with rfl|he
   ·rw[hm];simp only[ne_eq,Value.int.injEq,true_and];exact fun h=>hn h.symm
   ·exact QHM h.tail hg e he
theorem QFP{key val:Value}:∀{es:List MapEntry} {i:Nat} {e:MapEntry},es[i]? = some e→e.key=key→(X9 key val es i).map (·.key)=es.map (·.key)
 | [],i,e,h,_=>by simp at h
 | x::es,0,e,h,hk=>by
  simp only[List.getElem?_cons_zero,qsI]at h;subst h;simp[X9,hk]
 | x::es,i+1,e,h,hk=>by
  simp only[List.getElem?_cons_succ]at h;simp[X9,QFP h hk]
theorem QR3(h:Jm k es)(he:es'.map (·.key)=es.map (·.key)):Jm k es':=by
 refine⟨fun e hm => ?_,by rw[he];exact h.once⟩
 have:e.key∈es'.map (·.key):=List.mem_map_of_mem hm;rw[he]at this;obtain⟨e2,h2,h3⟩:=List.mem_map.1 this;obtain⟨m,hm⟩:=h.keys e2 h2;exact⟨m,by rw[←h3,hm]⟩
theorem QJX{k:IntKind}{n:Int}{val:Value}(m:Int):∀{es:List MapEntry} {i:Nat} {e:MapEntry},Jm k es→es[i]? = some e→e.key = .int k n→KP k m (X9 (.int k n) val es i)=if m=n then some val else KP k m es
 | [],i,e,_,h,_=>by simp at h
 | x::es,0,e,hK,h,hk=>by
  simp only[List.getElem?_cons_zero,qsI]at h;subst h;simp only[X9,KP,hk,true_and]
  by_cases hm:m=n<;>simp[hm]
 | x::es,i+1,e,hK,h,hk=>by
  simp only[List.getElem?_cons_succ]at h;obtain⟨j,hj⟩:=hK.keys x (by simp)
  have hne:j≠n:=by
   intro hjn;have:=(List.nodup_cons.1 hK.once).1;refine this ?_;show x.key∈_;rw[hj,hjn,←hk];exact List.mem_map_of_mem (List.mem_of_getElem? h)
  simp only[X9,KP,hj,true_and]
  by_cases hm:m=j
  ·subst hm;simp[hne]
  ·simp only[hm,decide_false];exact QJX m hK.tail h hk
theorem QK2{k:IntKind}{n:Int}{val:Value}{cl:Nat}(m:Int):∀{es:List MapEntry},Jm k es→KP k n es=none→KP k m (es++[{ key := .int k n,val,born:=cl }])=if m=n then some val else KP k m es
 | [],_,_=>by
  simp only[List.nil_append,KP,true_and]
  by_cases hm:m=n<;>simp[hm]
 | x::es,hK,hg=>by
  obtain⟨j,hj⟩:=hK.keys x (by simp)
  have hne:n≠j:=fun h=>by simp[KP,hj,h]at hg
  have hg':KP k n es=none:=by simpa[KP,hj,hne]using hg
  simp only[List.cons_append,KP,hj,true_and]
  by_cases hm:m=j
  ·subst hm;simp[hne.symm]
  ·simp only[hm,decide_false];exact QK2 m hK.tail hg'
theorem QLt{x:MapEntry}:∀{es:List MapEntry} {i:Nat},x∈XB es i→x∈es
 | [],_,h=>h
 | _::_,0,h=>List.mem_cons_of_mem _ h
 | _::es,i+1,h=>by
  simp only[XB]at h;rcases List.mem_cons.1 h with rfl|h
  ·simp
  ·exact List.mem_cons_of_mem _ (QLt h)
theorem QLq{k:IntKind}:∀{es:List MapEntry} {i:Nat},Jm k es→Jm k (XB es i)
 | [],_,h=>h
 | _::_,0,h=>h.tail
 | x::es,i+1,h=>by
  have ht:=QLq (i:=i) h.tail;refine⟨fun e he => ?_,?_⟩
  ·simp only[XB]at he;rcases List.mem_cons.1 he with rfl|he
   ·exact h.keys _ (by simp)
   ·exact ht.keys e he
  ·simp only[XB,List.map_cons,List.nodup_cons];refine⟨fun hm => ?_,ht.once⟩;obtain⟨y,hy,hyk⟩:=List.mem_map.1 hm;exact(List.nodup_cons.1 h.once).1 (List.mem_map.2 ⟨y,QLt hy,hyk⟩)
theorem QLE{k:IntKind}{n:Int}:∀{es:List MapEntry},Jm k es→(∀ e∈es,e.key ≠ .int k n)→KP k n es=none
 | [],_,_=>rfl
 | x::es,hK,h=>by
  obtain⟨j,hj⟩:=hK.keys x (by simp)
  have hne:n≠j:=fun e=>h x (by simp) (by rw[hj,e])
  simp only[KP,hj,true_and,hne,decide_false];exact QLE hK.tail (fun e he=>h e (by simp[he]))
theorem QGE{k:IntKind}{n:Int}(m:Int):∀{es:List MapEntry} {i:Nat} {e:MapEntry},Jm k es→es[i]? = some e→e.key = .int k n→KP k m (XB es i)=if m=n then none else KP k m es
 | [],i,e,_,h,_=>by simp at h
 | x::es,0,e,hK,h,hk=>by
  simp only[List.getElem?_cons_zero,qsI]at h;subst h;simp only[XB,KP,hk,true_and]
  by_cases hm:m=n
  ·subst hm;simp only[if_true];refine QLE hK.tail fun e he hek => ?_;refine(List.nodup_cons.1 hK.once).1 ?_;show x.key∈_;rw[hk,←hek];exact List.mem_map_of_mem he
  ·simp[hm]
 | x::es,i+1,e,hK,h,hk=>by
  simp only[List.getElem?_cons_succ]at h;obtain⟨j,hj⟩:=hK.keys x (by simp)
  have hne:j≠n:=by
   intro hjn;have:=(List.nodup_cons.1 hK.once).1;refine this ?_;show x.key∈_;rw[hj,hjn,←hk];exact List.mem_map_of_mem (List.mem_of_getElem? h)
  simp only[XB,KP,hj,true_and]
  by_cases hm:m=j
  ·subst hm;simp[hne]
  ·simp only[hm,decide_false];exact QGE m hK.tail h hk
theorem JN.keysI(h:JN r k z has get es):Jm k es:=⟨h.keys,h.once⟩
theorem QOA{zz:Value}(h:QDo z zz=true)(r:Nat→Loc):zz=z.den r:=by
 unfold QDo at h;split at h
 ·simp only[AV.den];rw[eq_of_beq h]
 ·simp only[qbA,qdE,beq_iff_eq]at h;simp only[AV.den,h.1,h.2]
 ·cases h
theorem JN.put(h:JN r k z has get es)(hv:v.all (fun _=>false)=true)(hK:Jm k es')(hg:∀ m,KP k m es'=if m=n then some (WI v)else KP k m es):JN r k z (Qp n true has) (KH n v get) es':=by
 refine⟨hK.keys,hK.once,fun m => ?_,h.zero,fun m hm => ?_,fun m hm => ?_⟩
 ·unfold KH;split
  ·exact hv
  ·exact h.flat m
 ·rw[hg m];unfold Qp at hm;unfold KH
  by_cases e:m=n
  ·simp[e,QA3 hv r]
  ·simp only[e,decide_false,if_false]at hm ⊢;exact h.yes m hm
 ·rw[hg m];unfold Qp at hm;unfold KH
  by_cases e:m=n
  ·simp[e]at hm
  ·simp only[e,decide_false,if_false]at hm ⊢;exact h.no m hm
theorem JN.del(h:JN r k z has get es)(hK:Jm k es')(hg:∀ m,KP k m es'=if m=n then none else KP k m es):JN r k z (Qp n false has) (KH n z get) es':=by
 refine⟨hK.keys,hK.once,fun m => ?_,h.zero,fun m hm => ?_,fun m hm => ?_⟩
 ·unfold KH;split
  ·exact h.zero
  ·exact h.flat m
 ·rw[hg m];unfold Qp at hm;unfold KH
  by_cases e:m=n
  ·simp[e]at hm
  ·simp only[e,decide_false,if_false]at hm ⊢;exact h.yes m hm
 ·rw[hg m];unfold Qp at hm;unfold KH
  by_cases e:m=n
  ·simp[e]
  ·simp only[e,decide_false,if_false]at hm ⊢;exact h.no m hm
theorem QMz(hu:P.underlying t=some (.map kt et))(hb:bk w b=some (.map es.toArray cl))(hm:JN r k' z has get es)(h:QC2 P kt et k n k' z get=some eff)(hp:eff.pre=true):
  (Instr.lookup t (.map (some b)) (.int k n) false).run P w = .ok (eff.val.den r) w∧eff.upd=[]:=by
 unfold QC2 at h;split at h<;>(try (cases h;done))
 rename_i zz hk hkk hz;split at h<;>(try (cases h;done))
 rename_i hzz;have hkk:k=k':=by simpa using hkk
 subst hkk;simp only[qsI]at h;subst h;obtain⟨hv1,hv2⟩:=QUt hp r;refine⟨?_,hv2⟩;rw[hv1];obtain⟨x,hf,hx⟩:=QAr n 0 hm.keysI;cases hh:has n with
 | true=>
  rw[hm.yes n hh]at hx;cases x with
  | none=>cases hx
  | some x=>
   simp only[Option.map_some,qsI]at hx;simp only[Instr.lookup,Sem.run_bind,run_underlying hu,Result.andThen_ok,YG hb,Sem.run_pure,X7 hk,Xo hk hf];rw[←hx];rfl
 | false=>
  rw[(hm.no n hh).1]at hx;cases x with
  | some x=>cases hx
  | none=>
   simp only[Instr.lookup,Sem.run_bind,run_underlying hu,Result.andThen_ok,YG hb,Sem.run_pure,X7 hk,Xo hk hf,QFy hz];rw[(hm.no n hh).2,QOA hzz r];rfl
theorem QPF{id:Nat}(hu:P.underlying t=some (.map kt et))(hb:bk w b=some (.map es.toArray cl))(hm:JN r k' z has get es)(h:QBx P kt id k n v k' z has get=some eff):
  ∃ es' cl',(Instr.mapUpdate t (.map (some b)) (.int k n) (v.den r)).run P w = .ok () (w.putObj b (.map es'.toArray cl'))∧JN r k' z (Qp n true has) (KH n v get) es'∧eff=⟨true,true,.tup [],[(id,.mpf k' z (Qp n true has) (KH n v get))]⟩:=by
 unfold QBx at h;split at h<;>(try (cases h;done))
 rename_i hk hkk hv;have hkk:k=k':=by simpa using hkk
 subst hkk;simp only[qsI]at h;obtain⟨x,hf,hx⟩:=QAr n 0 hm.keysI;cases x with
 | some x=>
  obtain⟨i,x⟩:=x;obtain⟨es',cl',h1,h2⟩:=QB0 (id:=id) (k:=k) (n:=n) (v:=v) (P:=P) (kt:=kt) (cl:=cl) (eff:=⟨true,true,.tup [],[(id,.mp (X9 (.int k n) (WI v) es i) cl)]⟩) hu hb (by simp only[zB,hk,hv,hf]) r
  simp only[Eff.mk.injEq,List.cons.injEq,qpI,Blk.mp.injEq,true_and,and_true]at h2;obtain⟨rfl,rfl⟩:=h2;obtain⟨_,e,he,hek,_⟩:=vh hf;exact⟨_,_,h1,hm.put hv (QR3 hm.keysI (QFP he hek)) (fun m=>QJX m hm.keysI he hek),h.symm⟩
 | none=>
  obtain⟨es',cl',h1,h2⟩:=QB0 (id:=id) (k:=k) (n:=n) (v:=v) (P:=P) (kt:=kt) (cl:=cl) (eff:=⟨true,true,.tup [],[(id,.mp (es++[{ key := .int k n,val:=WI v,born:=cl }]) (cl+1))]⟩) hu hb (by simp only[zB,hk,hv,hf]) r
  simp only[Eff.mk.injEq,List.cons.injEq,qpI,Blk.mp.injEq,true_and,and_true]at h2;obtain⟨rfl,rfl⟩:=h2;have hg0:KP k n es=none:=by rw[←hx];rfl
  have hK:Jm k (es++[{ key := .int k n,val:=WI v,born:=cl }]):=by
   refine⟨fun e he => ?_,?_⟩
   ·rcases List.mem_append.1 he with he|he
    ·exact hm.keys e he
    ·simp only[List.mem_singleton]at he;subst he;exact⟨n,rfl⟩
   ·rw[List.map_append,List.map_cons,List.map_nil,List.nodup_append];refine⟨hm.once,by simp,fun a ha b hb' => ?_⟩
    obtain⟨e,he,rfl⟩:=List.mem_map.1 ha;simp only[List.mem_singleton]at hb';subst hb';exact QHM hm.keysI hg0 e he
  exact⟨_,_,h1,hm.put hv hK (fun m=>QK2 m hm.keysI hg0),h.symm⟩
theorem QO7{tys:Array TypeId}{id:Nat}(hu:P.underlying t=some (.map kt et))(hb:bk w b=some (.map es.toArray cl))(ht:tys[0]? = some t)(hm:JN r k' z has get es)(h:QCA P kt id k n k' z has get=some eff):
  ∃ es' cl',(Builtin.delete_ tys ty #[.map (some b),.int k n]).run P w = .ok (.tuple #[]) (w.putObj b (.map es'.toArray cl'))∧JN r k' z (Qp n false has) (KH n z get) es'∧eff=⟨true,true,.tup [],[(id,.mpf k' z (Qp n false has) (KH n z get))]⟩:=by
 unfold QCA at h;split at h<;>(try (cases h;done))
 rename_i hk hkk;have hkk:k=k':=by simpa using hkk
 subst hkk;simp only[qsI]at h;obtain⟨x,hf,hx⟩:=QAr n 0 hm.keysI;cases x with
 | some x=>
  obtain⟨i,x⟩:=x;obtain⟨es',cl',h1,h2⟩:=QBp (id:=id) (k:=k) (n:=n) (P:=P) (kt:=kt) (ty:=ty) (cl:=cl) (eff:=⟨true,true,.tup [],[(id,.mp (XB es i) cl)]⟩) hu hb ht (by simp only[vV,hk,hf])
  simp only[Eff.mk.injEq,List.cons.injEq,qpI,Blk.mp.injEq,true_and,and_true]at h2;obtain⟨rfl,rfl⟩:=h2;obtain⟨_,e,he,hek,_⟩:=vh hf;exact⟨_,_,h1,hm.del (QLq hm.keysI) (fun m=>QGE m hm.keysI he hek),h.symm⟩
 | none=>
  obtain⟨es',cl',h1,h2⟩:=QBp (id:=id) (k:=k) (n:=n) (P:=P) (kt:=kt) (ty:=ty) (cl:=cl) (eff:=⟨true,true,.tup [],[(id,.mp es cl)]⟩) hu hb ht (by simp only[vV,hk,hf])
  simp only[Eff.mk.injEq,List.cons.injEq,qpI,Blk.mp.injEq,true_and,and_true]at h2;obtain⟨rfl,rfl⟩:=h2;have hg0:KP k n es=none:=by rw[←hx];rfl
  refine⟨_,_,h1,hm.del hm.keysI (fun m => ?_),h.symm⟩
  by_cases e:m=n
  ·rw[if_pos e,e];exact hg0
  ·rw[if_neg e]
theorem Ka.zero{id:Nat}{z n:Nat}{g:Nat→List AV}(h:Ka r id w ty z n g)(hn:(r id).nil=true):n=0:=h.2.2.2.1 hn
theorem QGz{lk:Nat→Option Blk}{nid id cl:Nat}{has0:Int→Bool}{get0:Int→AV}{es0:List MapEntry}{cl0:Nat}(hid:inR nid id=false)(hlk:lk id=some (.mpf k z has0 get0))(hb:bk w (r id).blk=some (.map es0.toArray cl0))(hm:JN r k z has get es):Qj lk r nid [(id,.mpf k z has get)] w r (w.putObj (r id).blk (.map es.toArray cl)):=
 Qj.same1 hid hlk rfl (fun _ h=>h) ⟨es,cl,QMR hb,hm⟩ (QGQ w _ _)
theorem QSo{o:Oper}{ev:Operand→AV}{nid:Nat}{a:Act}{look:Nat→Option Blk}{blks:List Blk}(hH:HOk r w nid look){ids:List Nat}{g:List Blk→Option Eff}(hV:jo P o.op ev nid=some (ids,g))(hv:ids.map look=blks.map some)(he:g blks=some eff)(hp:eff.pre=true)(hρ:∀ x∈o.op.operands,a.eval x=(ev x).den r){K:Act→World→Prop}{Q:Exit→Act→World→Prop}(k:∀ r' w',Qj look r nid eff.upd w r' w'→K (a.put o.dst (eff.val.den r')) w'):o.wp P a w K Q:=by
 have KV:∀{s:Sem Value} {v:Value} {w':World},s.run P w = .ok v w'→(do pure (.value (←s)):Sem Next).run P w = .ok (.value v) w':=by
  intro s v w' hs;rw[Sem.run_bind,hs];rfl
 have KU:∀{s:Sem Unit} {w':World},s.run P w = .ok () w'→(do s;pure .skip:Sem Next).run P w = .ok .skip w':=by
  intro s w' hs;rw[Sem.run_bind,hs];rfl
 have one:∀{id:Nat},[id].map look=blks.map some→∃ b,blks=[b]∧look id=some b:=by
  intro id h;obtain⟨b,rfl⟩:=qW h;simp only[List.map_cons,List.map_nil,List.cons.injEq,and_true]at h;exact⟨b,rfl,h⟩
 unfold jo at hV;split at hV<;>(try (cases hV;done))<;>rename_i ho
 ·rename_i t;simp only[qsI,qpI]at hV;obtain⟨rfl,rfl⟩:=hV;simp only[qsI]at he;subst he
  have hb:QH (Qh r nid (Loc.of w.heap.size 0 0 0)) nid (w.alloc (.map #[] 0)) (.mp [] 0):=by
   simp only[QH,Qh,if_true];show bk _ w.heap.size=_;rw[jA,if_pos rfl]
  refine Jl (w':=w.alloc (.map #[] 0)) (v := .map (some w.heap.size)) ?_ ?_
  ·unfold execOp;simp only[ho];exact KV rfl
  ·have:=k _ _ (Qj.new1 (r:=r) rfl (fun _ h=>h) hb);simpa[AV.den,Qh,Loc.of]using this
 ·rename_i t x ix;have hx:=hρ x (by rw[ho];simp[Op.operands])
  have hix:=hρ ix (by rw[ho];simp[Op.operands])
  split at hV<;>(try (cases hV;done))
  rename_i kt et id c kk n hu hex hei;simp only[qsI,qpI]at hV;obtain⟨rfl,rfl⟩:=hV;obtain⟨b,rfl,hb⟩:=one hv
  have fin:(Instr.lookup t (.map (some (r id).blk)) (.int kk n) false).run P w = .ok (eff.val.den r) w∧eff.upd=[]→o.wp P a w K Q:=by
   rintro⟨h1,h2⟩;refine Jl (w':=w) (v:=eff.val.den r) ?_ (k r w (by rw[h2];exact Qj.id look r nid w))
   unfold execOp;simp only[ho];rw[hx,hix,hex,hei];exact KV h1
  cases b<;>(try (cases he;done))
  ·exact fin (QWF hu (hH.rep id _ hb) he r)
  ·obtain⟨es,cl,hbk,hm⟩:=hH.rep id _ hb;exact fin (QMz hu hbk hm he hp)
 ·rename_i t m x v;have hm:=hρ m (by rw[ho];simp[Op.operands])
  have hx:=hρ x (by rw[ho];simp[Op.operands])
  have hvv:=hρ v (by rw[ho];simp[Op.operands])
  split at hV<;>(try (cases hV;done))
  rename_i kt et id c kk n hu hem hex;simp only[qsI,qpI]at hV;obtain⟨rfl,rfl⟩:=hV;obtain⟨b,rfl,hb⟩:=one hv;cases b<;>(try (cases he;done))
  ·obtain⟨es',cl',h1,rfl⟩:=QB0 hu (hH.rep id _ hb) he r;refine Gb (w':=w.putObj (r id).blk (.map es'.toArray cl')) ?_ (k r _ (QLT (hH.out id _ hb) hb (hH.rep id _ hb)));unfold execOp;simp only[ho];rw[hm,hx,hvv,hem,hex];exact KU h1
  ·obtain⟨es,cl,hbk,hmi⟩:=hH.rep id _ hb;simp only[Zx]at he;obtain⟨es',cl',h1,h2,rfl⟩:=QPF hu hbk hmi he;refine Gb (w':=w.putObj (r id).blk (.map es'.toArray cl')) ?_ (k r _ (QGz (hH.out id _ hb) hb hbk h2));unfold execOp;simp only[ho];rw[hm,hx,hvv,hem,hex];exact KU h1
 ·rename_i args ts;split at hV<;>(try (cases hV;done))
  rename_i m x t t' hargs hts;have hargs':args = #[m,x]:=by apply Array.ext';simpa using hargs
  have hts':ts = #[t,t']:=by apply Array.ext';simpa using hts
  subst hargs' hts';have hm:=hρ m (by rw[ho];simp[Op.operands,Call.operands])
  have hx:=hρ x (by rw[ho];simp[Op.operands,Call.operands])
  split at hV<;>(try (cases hV;done))
  rename_i kt et id c kk n hu hem hex;simp only[qsI,qpI]at hV;obtain⟨rfl,rfl⟩:=hV;obtain⟨b,rfl,hb⟩:=one hv;cases b<;>(try (cases he;done))
  ·obtain⟨es',cl',h1,rfl⟩:=QBp (ty:=o.type) (tys := #[t,t']) hu (hH.rep id _ hb) rfl he;refine Jl (w':=w.putObj (r id).blk (.map es'.toArray cl')) (v := .tuple #[]) ?_ (k r _ (QLT (hH.out id _ hb) hb (hH.rep id _ hb)));unfold execOp;simp only[ho];simp[resolve,invoke,builtin,hm,hx,hem,hex,AV.den,h1,Result.andThen]
  ·obtain⟨es,cl,hbk,hmi⟩:=hH.rep id _ hb;obtain⟨es',cl',h1,h2,rfl⟩:=QO7 (ty:=o.type) (tys := #[t,t']) hu hbk rfl hmi he;refine Jl (w':=w.putObj (r id).blk (.map es'.toArray cl')) (v := .tuple #[]) ?_ (k r _ (QGz (hH.out id _ hb) hb hbk h2));unfold execOp;simp only[ho];simp[resolve,invoke,builtin,hm,hx,hem,hex,AV.den,h1,Result.andThen]
 ·rename_i t x y c;have hx:=hρ x (by rw[ho];simp[Op.operands])
  have hy:=hρ y (by rw[ho];simp[Op.operands])
  split at hV<;>(try (cases hV;done))
  rename_i elem id e len cp hu hex hey;simp only[qsI,qpI]at hV;obtain⟨rfl,rfl⟩:=hV;obtain⟨b,rfl,hb⟩:=one hv;simp only at he;split at he<;>(try (cases he;done))
  rename_i n hn;simp only[qsI]at he;subst he;obtain⟨h1,h2⟩:=qdt hp;have hrep:=hH.rep id _ hb
  have hnil:(r id).nil=false:=by
   cases hh:(r id).nil with
   | false=>rfl
   | true=>
    exfalso;cases b<;>simp only[QEy]at hn<;>(try (cases hn;done))<;>simp only[qsI]at hn<;>subst hn
    ·have:=Ka.zero hrep hh;omega
    ·have:=hrep.2.2.1 hh;omega
  have hden:(AV.slz id e len cp).den r=(AV.slice true id e len cp).den r:=by
   simp only[AV.den,Loc.base,Loc.room,hnil]
  refine Jl (w':=w) (v := .bool false) ?_ (k r w (Qj.id look r nid w));have:=QKT (P:=P) (op := .eql) (t:=t) (xo:=x) (yo:=y) (x := .slice true id e len cp) (y := .nils) (e:=⟨true,true,.bool true false⟩) (by simp[QAl,zR,eqA,hu,okE]) rfl r w
  unfold execOp;simp only[ho];rw[hx,hy,hex,hey,hden];exact KV this
end Go.SX
