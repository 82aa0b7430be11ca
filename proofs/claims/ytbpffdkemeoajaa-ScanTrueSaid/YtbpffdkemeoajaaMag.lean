/- - -/
import Derived.Test.YtbpffdkemeoajaaMaf
import Derived.RangeFuncRecord
namespace Go.SX
open Go Go.RowKit Go.Proofs.Ytbpffdkemeoajaa
def qx(v:AV):Value:=v.den fun _=>Loc.none 0
variable {v z:AV}{β:Type}{P:Program}{kt t et ty:TypeId}{k k':IntKind}{n:Int}{es es':List MapEntry}{w:World}{b cl:Nat}{eff:Eff}{r:Nat→Loc}{has:Int→Bool}{get:Int→AV}
theorem QG1(h:v.all (fun _=>false)=true)(r:Nat→Loc):v.den r=qx v:=J7 (p:=fun _=>false) (fun _ hf=>by cases hf) v h
def Yd(P:Program)(kt:TypeId)(k:IntKind):Bool:=match P.underlying kt with
 | some (.int k')=>k==k'
 | _=>false
def Xl(k:IntKind)(n:Int):List MapEntry→Nat→Option (Option (Nat×Value))
 | [],_=>some none
 | e::es,i=>match e.key with
  | .int k' m=>match k==k' with
   | true=>(match decide (n=m)with|true=>some (some (i,e.val))|false=>Xl k n es (i+1))
   | false=>none
  | _=>none
def Yv(key val:Value):List MapEntry→Nat→List MapEntry
 | [],_=>[]
 | e::es,0=>{ e with key,val }::es
 | e::es,i+1=>e::Yv key val es i
def YQ:List MapEntry→Nat→List MapEntry
 | [],_=>[]
 | _::es,0=>es
 | e::es,i+1=>e::YQ es i
def QFK(P:Program)(kt et:TypeId)(k:IntKind)(n:Int)(es:List MapEntry):Option Eff:=match Yd P kt k,Xl k n es 0 with
 | true,some (some (_,v))=>some ⟨true,true,ofValue v,[]⟩
 | true,some none=>match (P.info? et).bind (·.zero)with
  | some z=>some ⟨true,true,ofValue z,[]⟩
  | none=>none
 | _,_=>none
def JD(P:Program)(kt:TypeId)(id:Nat)(k:IntKind)(n:Int)(v:AV)(es:List MapEntry)(cl:Nat):Option Eff:=match Yd P kt k,v.all (fun _=>false),Xl k n es 0 with
 | true,true,some (some (i,_))=>some ⟨true,true,.tup [],[(id,.mp (Yv (.int k n) (qx v) es i) cl)]⟩
 | true,true,some none=>some ⟨true,true,.tup [],[(id,.mp (es++[{ key := .int k n,val:=qx v,born:=cl }]) (cl+1))]⟩
 | _,_,_=>none
def HM(P:Program)(kt:TypeId)(id:Nat)(k:IntKind)(n:Int)(es:List MapEntry)(cl:Nat):Option Eff:=match Yd P kt k,Xl k n es 0 with
 | true,some (some (i,_))=>some ⟨true,true,.tup [],[(id,.mp (YQ es i) cl)]⟩
 | true,some none=>some ⟨true,true,.tup [],[(id,.mp es cl)]⟩
 | _,_=>none
def QFZ:AV→Value→Bool
 | .bool _ b,.bool b'=>b==b'
 | .int _ k n,.int k' n'=>k==k'&&decide (n=n')
 | _,_=>false
def isI(k:IntKind):AV→Bool
 | .int _ k' _=>k==k'
 | _=>false
def toI:AV→Int
 | .int _ _ i=>i
 | _=>0
def GF(z v:AV):Eff:=match z with
 | .int _ kz _=>⟨false,isI kz v,.int false kz (toI v),[]⟩
 | _=>⟨true,true,v,[]⟩
theorem QJB(h:(GF z v).pre=true)(r:Nat→Loc):(GF z v).val.den r=v.den r∧(GF z v).upd=[]:=by
 unfold GF at h ⊢;split
 ·rename_i c kz i;simp only at h;cases v<;>(try (cases h;done))
  rename_i c' k' i';have e:kz=k':=by simpa[isI]using h
  subst e;exact⟨rfl,rfl⟩
 ·exact⟨rfl,rfl⟩
def Gv(P:Program)(kt et:TypeId)(k:IntKind)(n:Int)(k':IntKind)(z:AV)(get:Int→AV):Option Eff:=match Yd P kt k,k==k',(P.info? et).bind (·.zero)with
 | true,true,some zz=>(match QFZ z zz with
  | true=>some (GF z (get n))
  | false=>none)
 | _,_,_=>none
def QE5(P:Program)(kt et:TypeId)(k:IntKind)(n:Int)(k':IntKind)(z:AV)(has:Int→Bool)(get:Int→AV):Option Eff:=match Gv P kt et k n k' z get with
 | some e=>some ⟨false,e.pre,.tup [e.val,.bool false (has n)],[]⟩
 | none=>none
def Q9(n:Int)(v:AV)(get:Int→AV)(m:Int):AV:=match decide (m=n)with
 | true=>v
 | false=>get m
def QW(n:Int)(b:Bool)(has:Int→Bool)(m:Int):Bool:=match decide (m=n)with
 | true=>b
 | false=>has m
def Vl{β:Type}(f:AV→(AV→β)→β):List AV→(List AV→β)→β
 | [],k=>k []
 | v::l,k=>f v fun v'=>Vl f l fun l'=>k (v'::l')
def Vr{β:Type}:Nat→AV→(AV→β)→β
 | 0,v,k=>k v
 | n+1,v,k=>match v with
  | .int c i x=>(match c with|true=>k (.int true i x)|false=>k (.int false i x))
  | .bool c x=>(match c with|true=>k (.bool true x)|false=>k (.bool false x))
  | .fn f l=>Vl (Vr n) l fun l'=>k (.fn f l')
  | .mth f l=>Vl (Vr n) l fun l'=>k (.mth f l')
  | .alt b v w=>Vr n v fun v'=>Vr n w fun w'=>k (.alt b v' w')
  | .ifc t v=>Vr n v fun v'=>k (.ifc t v')
  | .agg l=>Vl (Vr n) l fun l'=>k (.agg l')
  | .tup l=>Vl (Vr n) l fun l'=>k (.tup l')
  | .opt b v=>Vr n v fun v'=>k (.opt b v')
  | .ptr a b c=>k (.ptr a b c)
  | .slice a b c d e=>k (.slice a b c d e)
  | .slz a b c d=>k (.slz a b c d)
  | .map a=>k (.map a)
  | .yld a=>k (.yld a)
  | .addr a=>k (.addr a)
  | .nilp=>k .nilp
  | .nils=>k .nils
  | .nilm=>k .nilm
  | .nilf=>k .nilf
  | .nili=>k .nili
  | .str s=>k (.str s)
  | .raw v=>k (.raw v)
def V1(m:Nat)(k:Nat→β):β:=match m with
 | 0=>k 0
 | j+1=>k (Nat.succ j)
def QE0(n:Int)(k:Int→β):β:=match n with
 | .ofNat m=>V1 m fun m=>k (.ofNat m)
 | .negSucc m=>V1 m fun m=>k (.negSucc m)
def QFl(c:Cap)(k:Cap→β):β:=match c with
 | .lit n=>V1 n fun n=>k (.lit n)
 | .of n=>V1 n fun n=>k (.of n)
def YW{β:Type}:Nat→AV→(AV→β)→β
 | 0,v,k=>k v
 | n+1,v,k=>match v with
  | .int c i x=>(match c with|true=>QE0 x fun x=>k (.int true i x)|false=>k (.int false i x))
  | .bool c x=>(match c with|true=>(match x with|true=>k (.bool true true)|false=>k (.bool true false))|false=>k (.bool false x))
  | .fn f l=>Vl (YW n) l fun l'=>k (.fn f l')
  | .mth f l=>Vl (YW n) l fun l'=>k (.mth f l')
  | .alt b v w=>YW n v fun v'=>YW n w fun w'=>k (.alt b v' w')
  | .ifc t v=>YW n v fun v'=>k (.ifc t v')
  | .agg l=>Vl (YW n) l fun l'=>k (.agg l')
  | .tup l=>Vl (YW n) l fun l'=>k (.tup l')
  | .opt b v=>YW n v fun v'=>k (.opt b v')
  | .ptr a b c=>V1 a fun a=>V1 b fun b=>V1 c fun c=>k (.ptr a b c)
  | .slice a b c d e=>V1 b fun b=>V1 c fun c=>V1 d fun d=>QFl e fun e=>(match a with|true=>k (.slice true b c d e)|false=>k (.slice false b c d e))
  | .slz a b c d=>k (.slz a b c d)
  | .map a=>V1 a fun a=>k (.map a)
  | .yld a=>V1 a fun a=>k (.yld a)
  | .addr a=>k (.addr a)
  | .nilp=>k .nilp
  | .nils=>k .nils
  | .nilm=>k .nilm
  | .nilf=>k .nilf
  | .nili=>k .nili
  | .str s=>k (.str s)
  | .raw v=>k (.raw v)
def QCb{β:Type}:List (Nat×Blk)→(List (Nat×Blk)→β)→β
 | [],k=>k []
 | (i,b)::h,k=>V1 i fun i'=>QCb h fun h'=>k ((i',b)::h')
def H6(v:AV)(k:AV→β):β:=match v with
 | .agg l=>k (.agg l)
 | .tup l=>k (.tup l)
 | v=>YW 1 v k
def QRW(l:List AV)(k:List AV→β):β:=Vl H6 l k
def vh{α:Type}(on:Bool)(f:α→(α→β)→β)(x:α)(k:α→β):β:=match on with
 | false=>k x
 | true=>f x k
theorem Z6{β:Type}{f:AV→(AV→β)→β}(hf:∀ v k,f v k=k v):∀(l:List AV) (k:List AV→β),Vl f l k=k l
 | [],_=>rfl
 | v::l,k=>by rw[Vl,hf,Z6 hf l]
theorem WS{β:Type}:∀(n:Nat) (v:AV) (k:AV→β),Vr n v k=k v
 | 0,_,_=>rfl
 | n+1,v,k=>by
  cases v<;>simp only[Vr,WS n,Z6 (WS n)]
  ·rename_i c i x;cases c<;>rfl
  ·rename_i c x;cases c<;>rfl
theorem HJ(m:Nat)(k:Nat→β):V1 m k=k m:=by cases m<;>rfl
theorem QZ9(n:Int)(k:Int→β):QE0 n k=k n:=by cases n<;>simp only[QE0,HJ]
theorem QTc(c:Cap)(k:Cap→β):QFl c k=k c:=by cases c<;>simp only[QFl,HJ]
theorem QDl{β:Type}:∀(n:Nat) (v:AV) (k:AV→β),YW n v k=k v
 | 0,_,_=>rfl
 | n+1,v,k=>by
  cases v<;>simp only[YW,QDl n,Z6 (QDl n),HJ,QZ9,QTc]
  ·rename_i c i x;cases c<;>rfl
  ·rename_i c x;cases c<;>cases x<;>rfl
  ·rename_i a b c d e;cases a<;>rfl
theorem QIv{β:Type}:∀(l:List (Nat×Blk)) (k:List (Nat×Blk)→β),QCb l k=k l
 | [],_=>rfl
 | (i,b)::h,k=>by rw[QCb,HJ,QIv h]
theorem QAU(v:AV)(k:AV→β):H6 v k=k v:=by
 cases v<;>simp only[H6,QDl]
theorem QTm(l:List AV)(k:List AV→β):QRW l k=k l:=Z6 QAU l k
theorem j4{α:Type}{f:α→(α→β)→β}(hf:∀ x k,f x k=k x)(on:Bool)(x:α)(k:α→β):vh on f x k=k x:=by
 cases on with
 | false=>rfl
 | true=>exact hf x k
def QFj(P:Program)(kt:TypeId)(id:Nat)(k:IntKind)(n:Int)(v:AV)(k':IntKind)(z:AV)(has:Int→Bool)(get:Int→AV):Option Eff:=match Yd P kt k,k==k',v.all (fun _=>false)with
 | true,true,true=>some ⟨true,true,.tup [],[(id,.mpf k' z (QW n true has) (Q9 n v get))]⟩
 | _,_,_=>none
def QHW(P:Program)(kt:TypeId)(id:Nat)(k:IntKind)(n:Int)(k':IntKind)(z:AV)(has:Int→Bool)(get:Int→AV):Option Eff:=match Yd P kt k,k==k' with
 | true,true=>some ⟨true,true,.tup [],[(id,.mpf k' z (QW n false has) (Q9 n z get))]⟩
 | _,_=>none
def QP6:Blk→Option Nat
 | .rowz _ _ _ n _=>some n
 | .frz _ n _=>some n
 | _=>none
def Ge(P:Program)(op:Op)(ev:Operand→AV)(nid:Nat):Option We:=match op with
 | .makeMap _ none=>some ([],fun _=>some ⟨true,true,.map nid,[(nid,.mp [] 0)]⟩)
 | .lookup t x ix false=>match P.underlying t,ev x,ev ix with
  | some (.map kt et),.map id,.int _ k n=>some ([id],fun|[.mp es _]=>QFK P kt et k n es|[.mpf k' z _ get]=>Gv P kt et k n k' z get|_=>none)
  | _,_,_=>none
 | .lookup t x ix true=>match P.underlying t,ev x,ev ix with
  | some (.map kt et),.map id,.int _ k n=>some ([id],fun|[.mpf k' z has get]=>QE5 P kt et k n k' z has get|_=>none)
  | _,_,_=>none
 | .mapUpdate t m x v=>match P.underlying t,ev m,ev x with
  | some (.map kt _),.map id,.int _ k n=>some ([id],fun|[.mp es cl]=>JD P kt id k n (ev v) es cl|[.mpf k' z has get]=>Vr 6 (ev v) fun u=>QFj P kt id k n u k' z has get|_=>none)
  | _,_,_=>none
 | .call ⟨.builtin .delete,args,ts⟩=>match args.toList,ts.toList with
  | [m,x],[t,_]=>match P.underlying t,ev m,ev x with
   | some (.map kt _),.map id,.int _ k n=>some ([id],fun|[.mp es cl]=>HM P kt id k n es cl|[.mpf k' z has get]=>QHW P kt id k n k' z has get|_=>none)
   | _,_,_=>none
  | _,_=>none
 | .binOp .eql t x y _=>match P.underlying t,ev x,ev y with
  | some (.slice _),.slz id _ len _,.nils=>some ([id],fun
   | [b]=>(match QP6 b with
    | some n=>some ⟨false,decide (0<len∧len≤n),.bool true false,[]⟩
    | none=>none)
   | _=>none)
  | _,_,_=>none
 | _=>none
theorem QLT{k:IntKind}{n:Int}:∀{es:List MapEntry} {i:Nat} {x:Option (Nat×Value)},Xl k n es i=some x→Instr.findNow (.int k) (.int k n) es i=some x
 | [],i,x,h=>h
 | e::es,i,x,h=>by
  simp only[Xl]at h;split at h<;>(try (cases h;done))
  rename_i k' m he;split at h<;>(try (cases h;done))
  rename_i hk;have hk:k=k':=by simpa using hk
  subst hk;simp only[Instr.findNow,he,Instr.sameNow,if_true]
  by_cases hm:n=m
  ·subst hm;simp only[decide_true]at h;simp only[beq_self_eq_true];exact h
  ·simp only[hm,decide_false]at h;have:(n==m)=false:=by simpa using hm
   simp only[this];exact QLT h
theorem QQ1(h:Yd P kt k=true):P.underlying kt=some (.int k):=by
 unfold Yd at h;split at h<;>(try (cases h;done))
 rename_i k' hu;have:k=k':=by simpa using h
 subst this;exact hu
theorem YG{x:Option (Nat×Value)}(hk:Yd P kt k=true)(h:Xl k n es 0=some x)(w:World):
  (Instr.findKey kt (.int k n) es).run P w = .ok x w:=by
 simp only[Instr.findKey,Sem.run_bind,run_underlying (QQ1 hk),Result.andThen_ok,QLT h,Sem.run_pure]
theorem Qbs(hk:Yd P kt k=true)(b:Bool)(m:Nat)(w:World):(Instr.checkKey b (m+1) kt (.int k n)).run P w = .ok () w:=by
 rw[Instr.checkKey,Sem.run_bind,run_underlying (QQ1 hk)];rfl
theorem YM(hk:Yd P kt k=true)(b:Bool)(w:World):(Instr.checkKey b 10000 kt (.int k n)).run P w = .ok () w:=Qbs hk b 9999 w
theorem YF{es:Array MapEntry}(h:bk w b=some (.map es cl)):(getObj b).run P w = .ok (.map es cl) w:=by
 unfold bk at h;simp[getObj,Sem.run,h]
theorem QB5{es:Array MapEntry}{o':Obj}(h:bk w b=some (.map es cl)):(setObj b o').run P w = .ok () (w.putObj b o'):=by
 unfold bk at h;simp[setObj,Sem.run,h,World.putObj]
theorem QHM{z:Value}(h:(P.info? t).bind (·.zero)=some z)(w:World):(zeroValue t).run P w = .ok z w:=by
 cases hi:P.info? t with
 | none=>simp[hi]at h
 | some i=>
  simp only[hi,Option.bind_some]at h;simp[zeroValue,typeInfo,hi,h,Sem.run_bind]
theorem Gr{k:IntKind}{n:Int}:∀{es:List MapEntry} {i j:Nat} {v:Value},Xl k n es i=some (some (j,v))→i≤j∧∃ e,es[j-i]? = some e∧e.key = .int k n∧e.val=v
 | [],i,j,v,h=>by simp[Xl]at h
 | e::es,i,j,v,h=>by
  simp only[Xl]at h;split at h<;>(try (cases h;done))
  rename_i k' m he;split at h<;>(try (cases h;done))
  rename_i hk;have hk:k=k':=by simpa using hk
  subst hk
  by_cases hm:n=m
  ·subst hm;simp only[decide_true,qsI,qpI]at h;obtain⟨rfl,rfl⟩:=h;exact⟨qlr _,e,by simp,he,rfl⟩
  ·simp only[hm,decide_false]at h;obtain⟨h1,e',h2,h3⟩:=Gr h;exact⟨by omega,e',by rw[show j-i=(j-(i+1))+1 by omega];simpa using h2,h3⟩
theorem QOr(key val:Value):∀(es:List MapEntry) (i:Nat),es.modify i (fun e=>{ e with key,val })=Yv key val es i
 | [],i=>by cases i<;>rfl
 | e::es,0=>rfl
 | e::es,i+1=>by rw[List.modify_succ_cons,QOr key val es i];rfl
theorem QKp:∀(es:List MapEntry) (i:Nat),es.eraseIdx i=YQ es i
 | [],i=>by cases i<;>rfl
 | e::es,0=>rfl
 | e::es,i+1=>by rw[List.eraseIdx_cons_succ,QKp es i];rfl
theorem QL3(w:World)(b:Nat)(o:Obj):Fr w (w.putObj b o) (fun k=>k=b):=by
 refine⟨rfl,rfl,rfl,by simp[World.putObj],fun k _ hk => ?_⟩
 unfold bk;exact World.putObj_heap_other hk
theorem QIn{o o':Obj}(h:bk w b=some o):bk (w.putObj b o') b=some o':=by
 unfold bk;exact World.putObj_heap_same (XL h)
theorem Qce(hu:P.underlying t=some (.map kt et))(hb:bk w b=some (.map es.toArray cl))(h:QFK P kt et k n es=some eff)(r:Nat→Loc):
  (Instr.lookup t (.map (some b)) (.int k n) false).run P w = .ok (eff.val.den r) w∧eff.upd=[]:=by
 unfold QFK at h;split at h<;>(try (cases h;done))
 ·rename_i i v hk hf;simp only[qsI]at h;subst h;refine⟨?_,rfl⟩;simp only[Instr.lookup,Sem.run_bind,run_underlying hu,Result.andThen_ok,YF hb,Sem.run_pure,YM hk,YG hk hf,QGT];rfl
 ·rename_i hk hf;split at h<;>(try (cases h;done))
  rename_i z hz;simp only[qsI]at h;subst h;refine⟨?_,rfl⟩;simp only[Instr.lookup,Sem.run_bind,run_underlying hu,Result.andThen_ok,YF hb,Sem.run_pure,YM hk,YG hk hf,QGT,QHM hz];rfl
theorem QDw{id:Nat}(hu:P.underlying t=some (.map kt et))(hb:bk w b=some (.map es.toArray cl))(h:JD P kt id k n v es cl=some eff)(r:Nat→Loc):
  ∃ es' cl',(Instr.mapUpdate t (.map (some b)) (.int k n) (v.den r)).run P w = .ok () (w.putObj b (.map es'.toArray cl'))∧eff=⟨true,true,.tup [],[(id,.mp es' cl')]⟩:=by
 unfold JD at h;split at h<;>(try (cases h;done))
 ·rename_i i x hk hv hf;simp only[qsI]at h;obtain⟨_,e,he,hek,_⟩:=Gr hf;refine⟨_,_,?_,h.symm⟩
  have hkey:((es.toArray[i]?).map (·.key)).getD (.int k n) = .int k n:=by
   rw[List.getElem?_toArray];simp only[Nat.sub_zero]at he;rw[he];simpa using hek
  have hst:(Instr.keyThatStays (.int k n) (.int k n)).run P w = .ok (.int k n) w:=by
   simp[Instr.keyThatStays,Instr.sameBits]
  simp only[Instr.mapUpdate,Sem.run_bind,run_underlying hu,Result.andThen_ok,YF hb,YM hk,YG hk hf,hkey,hst,QG1 hv r];rw[QB5 hb];congr 2;rw[List.modify_toArray,QOr]
 ·rename_i hk hv hf;simp only[qsI]at h;refine⟨_,_,?_,h.symm⟩;simp only[Instr.mapUpdate,Sem.run_bind,run_underlying hu,Result.andThen_ok,YF hb,YM hk,YG hk hf,QG1 hv r];rw[QB5 hb];simp
theorem QDx{tys:Array TypeId}{id:Nat}(hu:P.underlying t=some (.map kt et))(hb:bk w b=some (.map es.toArray cl))(ht:tys[0]? = some t)(h:HM P kt id k n es cl=some eff):
  ∃ es' cl',(Builtin.delete_ tys ty #[.map (some b),.int k n]).run P w = .ok (.tuple #[]) (w.putObj b (.map es'.toArray cl'))∧eff=⟨true,true,.tup [],[(id,.mp es' cl')]⟩:=by
 unfold HM at h;split at h<;>(try (cases h;done))
 ·rename_i i x hk hf;simp only[qsI]at h;obtain⟨_,e,he,_⟩:=Gr hf;refine⟨_,_,?_,h.symm⟩;simp only[Builtin.delete_,ht,Sem.run_bind,run_underlying hu,Result.andThen_ok,YF hb,YM hk,YG hk hf];simp only[List.getElem?_toArray,List.getElem?_cons_zero,List.getElem?_cons_succ,Sem.run_bind,run_underlying hu,Result.andThen_ok,YF hb,YM hk,YG hk hf];rw[QB5 hb];simp only[Result.andThen_ok,Sem.run_pure];congr 3;rw[←QKp];apply Array.ext';rw[Array.toList_eraseIdxIfInBounds]
 ·rename_i hk hf;simp only[qsI]at h;refine⟨_,_,?_,h.symm⟩;simp only[Builtin.delete_,ht,Sem.run_bind,run_underlying hu,Result.andThen_ok,YF hb,YM hk,YG hk hf];simp only[List.getElem?_toArray,List.getElem?_cons_zero,List.getElem?_cons_succ,Sem.run_bind,run_underlying hu,Result.andThen_ok,YF hb,YM hk,YG hk hf];rw[QB5 hb];simp only[Result.andThen_ok,Sem.run_pure]
theorem QPp{lk:Nat→Option Blk}{nid id cl:Nat}{es0:List MapEntry}{cl0:Nat}(hid:inR nid id=false)(hlk:lk id=some (.mp es0 cl0))(hb:bk w (r id).blk=some (.map es0.toArray cl0)):Qq lk r nid [(id,.mp es cl)] w r (w.putObj (r id).blk (.map es.toArray cl)):=
 Qq.same1 hid hlk rfl (fun _ h=>h) (QIn hb) (QL3 w _ _)
structure VZ (k:IntKind) (es:List MapEntry):Prop where
 keys:∀ e∈es,∃ m,e.key = .int k m
 once:(es.map (·.key)).Nodup
theorem VZ.tail{e:MapEntry}(h:VZ k (e::es)):VZ k es:=⟨fun x hx=>h.keys x (List.mem_cons_of_mem _ hx),(List.nodup_cons.1 h.once).2⟩
theorem GL{k:IntKind}(n:Int):∀{es:List MapEntry} (i:Nat),VZ k es→∃ x,Xl k n es i=some x∧x.map (·.2)=Kn k n es
 | [],i,_=>⟨none,rfl,rfl⟩
 | e::es,i,h=>by
  obtain⟨m,hm⟩:=h.keys e (by simp)
  by_cases hn:n=m
  ·exact⟨some (i,e.val),by simp[Xl,hm,hn],by simp[Kn,hm,hn]⟩
  ·obtain⟨x,h1,h2⟩:=GL n (i+1) h.tail;exact⟨x,by simp[Xl,hm,hn,h1],by simp[Kn,hm,hn,h2]⟩
theorem QJL{k:IntKind}{n:Int}:∀{es:List MapEntry},VZ k es→Kn k n es=none→∀ e∈es,e.key ≠ .int k n
 | [],_,_,e,he=>by cases he
 | e'::es,h,hg,e,he=>by
  obtain⟨m,hm⟩:=h.keys e' (by simp)
  by_cases hn:n=m
  ·simp[Kn,hm,hn]at hg
  ·simp only[Kn,hm,hn,and_false,decide_false]at hg;rcases List.mem_cons.1 he with rfl|he
   ·rw[hm];simp only[ne_eq,Value.int.injEq,true_and];exact fun h=>hn h.symm
   ·exact QJL h.tail hg e he
theorem QOw{key val:Value}:∀{es:List MapEntry} {i:Nat} {e:MapEntry},es[i]? = some e→e.key=key→(Yv key val es i).map (·.key)=es.map (·.key)
 | [],i,e,h,_=>by simp at h
 | x::es,0,e,h,hk=>by
  simp only[List.getElem?_cons_zero,qsI]at h;subst h;simp[Yv,hk]
 | x::es,i+1,e,h,hk=>by
  simp only[List.getElem?_cons_succ]at h;simp[Yv,QOw h hk]
theorem QcZ(h:VZ k es)(he:es'.map (·.key)=es.map (·.key)):VZ k es':=by
 refine⟨fun e hm => ?_,by rw[he];exact h.once⟩
 have:e.key∈es'.map (·.key):=List.mem_map_of_mem hm;rw[he]at this;obtain⟨e2,h2,h3⟩:=List.mem_map.1 this;obtain⟨m,hm⟩:=h.keys e2 h2;exact⟨m,by rw[←h3,hm]⟩
theorem QKi{k:IntKind}{n:Int}{val:Value}(m:Int):∀{es:List MapEntry} {i:Nat} {e:MapEntry},VZ k es→es[i]? = some e→e.key = .int k n→Kn k m (Yv (.int k n) val es i)=if m=n then some val else Kn k m es
 | [],i,e,_,h,_=>by simp at h
 | x::es,0,e,hK,h,hk=>by
  simp only[List.getElem?_cons_zero,qsI]at h;subst h;simp only[Yv,Kn,hk,true_and]
  by_cases hm:m=n<;>simp[hm]
 | x::es,i+1,e,hK,h,hk=>by
  simp only[List.getElem?_cons_succ]at h;obtain⟨j,hj⟩:=hK.keys x (by simp)
  have hne:j≠n:=by
   intro hjn;have:=(List.nodup_cons.1 hK.once).1;refine this ?_;show x.key∈_;rw[hj,hjn,←hk];exact List.mem_map_of_mem (List.mem_of_getElem? h)
  simp only[Yv,Kn,hj,true_and]
  by_cases hm:m=j
  ·subst hm;simp[hne]
  ·simp only[hm,decide_false];exact QKi m hK.tail h hk
theorem QQy{k:IntKind}{n:Int}{val:Value}{cl:Nat}(m:Int):∀{es:List MapEntry},VZ k es→Kn k n es=none→Kn k m (es++[{ key := .int k n,val,born:=cl }])=if m=n then some val else Kn k m es
 | [],_,_=>by
  simp only[List.nil_append,Kn,true_and]
  by_cases hm:m=n<;>simp[hm]
 | x::es,hK,hg=>by
  obtain⟨j,hj⟩:=hK.keys x (by simp)
  have hne:n≠j:=fun h=>by simp[Kn,hj,h]at hg
  have hg':Kn k n es=none:=by simpa[Kn,hj,hne]using hg
  simp only[List.cons_append,Kn,hj,true_and]
  by_cases hm:m=j
  ·subst hm;simp[hne.symm]
  ·simp only[hm,decide_false];exact QQy m hK.tail hg'
theorem QLh{x:MapEntry}:∀{es:List MapEntry} {i:Nat},x∈YQ es i→x∈es
 | [],_,h=>h
 | _::_,0,h=>List.mem_cons_of_mem _ h
 | _::es,i+1,h=>by
  simp only[YQ]at h;rcases List.mem_cons.1 h with rfl|h
  ·simp
  ·exact List.mem_cons_of_mem _ (QLh h)
theorem QQm{k:IntKind}:∀{es:List MapEntry} {i:Nat},VZ k es→VZ k (YQ es i)
 | [],_,h=>h
 | _::_,0,h=>h.tail
 | x::es,i+1,h=>by
  have ht:=QQm (i:=i) h.tail;refine⟨fun e he => ?_,?_⟩
  ·simp only[YQ]at he;rcases List.mem_cons.1 he with rfl|he
   ·exact h.keys _ (by simp)
   ·exact ht.keys e he
  ·simp only[YQ,List.map_cons,List.nodup_cons];refine⟨fun hm => ?_,ht.once⟩;obtain⟨y,hy,hyk⟩:=List.mem_map.1 hm;exact(List.nodup_cons.1 h.once).1 (List.mem_map.2 ⟨y,QLh hy,hyk⟩)
theorem QMF{k:IntKind}{n:Int}:∀{es:List MapEntry},VZ k es→(∀ e∈es,e.key ≠ .int k n)→Kn k n es=none
 | [],_,_=>rfl
 | x::es,hK,h=>by
  obtain⟨j,hj⟩:=hK.keys x (by simp)
  have hne:n≠j:=fun e=>h x (by simp) (by rw[hj,e])
  simp only[Kn,hj,true_and,hne,decide_false];exact QMF hK.tail (fun e he=>h e (by simp[he]))
theorem QOp{k:IntKind}{n:Int}(m:Int):∀{es:List MapEntry} {i:Nat} {e:MapEntry},VZ k es→es[i]? = some e→e.key = .int k n→Kn k m (YQ es i)=if m=n then none else Kn k m es
 | [],i,e,_,h,_=>by simp at h
 | x::es,0,e,hK,h,hk=>by
  simp only[List.getElem?_cons_zero,qsI]at h;subst h;simp only[YQ,Kn,hk,true_and]
  by_cases hm:m=n
  ·subst hm;simp only[if_true];refine QMF hK.tail fun e he hek => ?_;refine(List.nodup_cons.1 hK.once).1 ?_;show x.key∈_;rw[hk,←hek];exact List.mem_map_of_mem he
  ·simp[hm]
 | x::es,i+1,e,hK,h,hk=>by
  simp only[List.getElem?_cons_succ]at h;obtain⟨j,hj⟩:=hK.keys x (by simp)
  have hne:j≠n:=by
   intro hjn;have:=(List.nodup_cons.1 hK.once).1;refine this ?_;show x.key∈_;rw[hj,hjn,←hk];exact List.mem_map_of_mem (List.mem_of_getElem? h)
  simp only[YQ,Kn,hj,true_and]
  by_cases hm:m=j
  ·subst hm;simp[hne]
  ·simp only[hm,decide_false];exact QOp m hK.tail h hk
theorem Js.keysI(h:Js r k z has get es):VZ k es:=⟨h.keys,h.once⟩
theorem QQZ{zz:Value}(h:QFZ z zz=true)(r:Nat→Loc):zz=z.den r:=by
 unfold QFZ at h;split at h
 ·simp only[AV.den];rw[eq_of_beq h]
 ·simp only[qbA,qdE,beq_iff_eq]at h;simp only[AV.den,h.1,h.2]
 ·cases h
theorem Js.put(h:Js r k z has get es)(hv:v.all (fun _=>false)=true)(hK:VZ k es')(hg:∀ m,Kn k m es'=if m=n then some (qx v)else Kn k m es):Js r k z (QW n true has) (Q9 n v get) es':=by
 refine⟨hK.keys,hK.once,fun m => ?_,h.zero,fun m hm => ?_,fun m hm => ?_⟩
 ·unfold Q9;split
  ·exact hv
  ·exact h.flat m
 ·rw[hg m];unfold QW at hm;unfold Q9
  by_cases e:m=n
  ·simp[e,QG1 hv r]
  ·simp only[e,decide_false,if_false]at hm ⊢;exact h.yes m hm
 ·rw[hg m];unfold QW at hm;unfold Q9
  by_cases e:m=n
  ·simp[e]at hm
  ·simp only[e,decide_false,if_false]at hm ⊢;exact h.no m hm
theorem Js.del(h:Js r k z has get es)(hK:VZ k es')(hg:∀ m,Kn k m es'=if m=n then none else Kn k m es):Js r k z (QW n false has) (Q9 n z get) es':=by
 refine⟨hK.keys,hK.once,fun m => ?_,h.zero,fun m hm => ?_,fun m hm => ?_⟩
 ·unfold Q9;split
  ·exact h.zero
  ·exact h.flat m
 ·rw[hg m];unfold QW at hm;unfold Q9
  by_cases e:m=n
  ·simp[e]at hm
  ·simp only[e,decide_false,if_false]at hm ⊢;exact h.yes m hm
 ·rw[hg m];unfold QW at hm;unfold Q9
  by_cases e:m=n
  ·simp[e]
  ·simp only[e,decide_false,if_false]at hm ⊢;exact h.no m hm
theorem Qdb(hu:P.underlying t=some (.map kt et))(hb:bk w b=some (.map es.toArray cl))(hm:Js r k' z has get es)(h:Gv P kt et k n k' z get=some eff)(hp:eff.pre=true):
  (Instr.lookup t (.map (some b)) (.int k n) false).run P w = .ok (eff.val.den r) w∧eff.upd=[]:=by
 unfold Gv at h;split at h<;>(try (cases h;done))
 rename_i zz hk hkk hz;split at h<;>(try (cases h;done))
 rename_i hzz;have hkk:k=k':=by simpa using hkk
 subst hkk;simp only[qsI]at h;subst h;obtain⟨hv1,hv2⟩:=QJB hp r;refine⟨?_,hv2⟩;rw[hv1];obtain⟨x,hf,hx⟩:=GL n 0 hm.keysI;cases hh:has n with
 | true=>
  rw[hm.yes n hh]at hx;cases x with
  | none=>cases hx
  | some x=>
   simp only[Option.map_some,qsI]at hx;simp only[Instr.lookup,Sem.run_bind,run_underlying hu,Result.andThen_ok,YF hb,Sem.run_pure,YM hk,YG hk hf];rw[←hx];rfl
 | false=>
  rw[(hm.no n hh).1]at hx;cases x with
  | some x=>cases hx
  | none=>
   simp only[Instr.lookup,Sem.run_bind,run_underlying hu,Result.andThen_ok,YF hb,Sem.run_pure,YM hk,YG hk hf,QHM hz];rw[(hm.no n hh).2,QQZ hzz r];rfl
theorem QX7(hu:P.underlying t=some (.map kt et))(hb:bk w b=some (.map es.toArray cl))(hm:Js r k' z has get es)(h:QE5 P kt et k n k' z has get=some eff)(hp:eff.pre=true):
  (Instr.lookup t (.map (some b)) (.int k n) true).run P w = .ok (eff.val.den r) w∧eff.upd=[]:=by
 unfold QE5 at h;split at h<;>(try (cases h;done))
 rename_i e0 h';simp only[qsI]at h;subst h;have hp:e0.pre=true:=hp;have h:=h';clear h';unfold Gv at h;split at h<;>(try (cases h;done))
 rename_i zz hk hkk hz;split at h<;>(try (cases h;done))
 rename_i hzz;have hkk:k=k':=by simpa using hkk
 subst hkk;simp only[qsI]at h;subst h;obtain⟨hv1,hv2⟩:=QJB hp r;refine⟨?_,rfl⟩;simp only[AV.den,AV.denL];rw[hv1];obtain⟨x,hf,hx⟩:=GL n 0 hm.keysI;cases hh:has n with
 | true=>
  rw[hm.yes n hh]at hx;cases x with
  | none=>cases hx
  | some x=>
   simp only[Option.map_some,qsI]at hx;simp only[Instr.lookup,Sem.run_bind,run_underlying hu,Result.andThen_ok,YF hb,Sem.run_pure,YM hk,YG hk hf];rw[←hx];rfl
 | false=>
  rw[(hm.no n hh).1]at hx;cases x with
  | some x=>cases hx
  | none=>
   simp only[Instr.lookup,Sem.run_bind,run_underlying hu,Result.andThen_ok,YF hb,Sem.run_pure,YM hk,YG hk hf,QHM hz];rw[(hm.no n hh).2,QQZ hzz r];rfl
theorem QTV{id:Nat}(hu:P.underlying t=some (.map kt et))(hb:bk w b=some (.map es.toArray cl))(hm:Js r k' z has get es)(h:QFj P kt id k n v k' z has get=some eff):
  ∃ es' cl',(Instr.mapUpdate t (.map (some b)) (.int k n) (v.den r)).run P w = .ok () (w.putObj b (.map es'.toArray cl'))∧Js r k' z (QW n true has) (Q9 n v get) es'∧eff=⟨true,true,.tup [],[(id,.mpf k' z (QW n true has) (Q9 n v get))]⟩:=by
 unfold QFj at h;split at h<;>(try (cases h;done))
 rename_i hk hkk hv;have hkk:k=k':=by simpa using hkk
 subst hkk;simp only[qsI]at h;obtain⟨x,hf,hx⟩:=GL n 0 hm.keysI;cases x with
 | some x=>
  obtain⟨i,x⟩:=x;obtain⟨es',cl',h1,h2⟩:=QDw (id:=id) (k:=k) (n:=n) (v:=v) (P:=P) (kt:=kt) (cl:=cl) (eff:=⟨true,true,.tup [],[(id,.mp (Yv (.int k n) (qx v) es i) cl)]⟩) hu hb (by simp only[JD,hk,hv,hf]) r
  simp only[Eff.mk.injEq,List.cons.injEq,qpI,Blk.mp.injEq,true_and,and_true]at h2;obtain⟨rfl,rfl⟩:=h2;obtain⟨_,e,he,hek,_⟩:=Gr hf;exact⟨_,_,h1,hm.put hv (QcZ hm.keysI (QOw he hek)) (fun m=>QKi m hm.keysI he hek),h.symm⟩
 | none=>
  obtain⟨es',cl',h1,h2⟩:=QDw (id:=id) (k:=k) (n:=n) (v:=v) (P:=P) (kt:=kt) (cl:=cl) (eff:=⟨true,true,.tup [],[(id,.mp (es++[{ key := .int k n,val:=qx v,born:=cl }]) (cl+1))]⟩) hu hb (by simp only[JD,hk,hv,hf]) r
  simp only[Eff.mk.injEq,List.cons.injEq,qpI,Blk.mp.injEq,true_and,and_true]at h2;obtain⟨rfl,rfl⟩:=h2;have hg0:Kn k n es=none:=by rw[←hx];rfl
  have hK:VZ k (es++[{ key := .int k n,val:=qx v,born:=cl }]):=by
   refine⟨fun e he => ?_,?_⟩
   ·rcases List.mem_append.1 he with he|he
    ·exact hm.keys e he
    ·simp only[List.mem_singleton]at he;subst he;exact⟨n,rfl⟩
   ·rw[List.map_append,List.map_cons,List.map_nil,List.nodup_append];refine⟨hm.once,by simp,fun a ha b hb' => ?_⟩
    obtain⟨e,he,rfl⟩:=List.mem_map.1 ha;simp only[List.mem_singleton]at hb';subst hb';exact QJL hm.keysI hg0 e he
  exact⟨_,_,h1,hm.put hv hK (fun m=>QQy m hm.keysI hg0),h.symm⟩
theorem QXv{tys:Array TypeId}{id:Nat}(hu:P.underlying t=some (.map kt et))(hb:bk w b=some (.map es.toArray cl))(ht:tys[0]? = some t)(hm:Js r k' z has get es)(h:QHW P kt id k n k' z has get=some eff):
  ∃ es' cl',(Builtin.delete_ tys ty #[.map (some b),.int k n]).run P w = .ok (.tuple #[]) (w.putObj b (.map es'.toArray cl'))∧Js r k' z (QW n false has) (Q9 n z get) es'∧eff=⟨true,true,.tup [],[(id,.mpf k' z (QW n false has) (Q9 n z get))]⟩:=by
 unfold QHW at h;split at h<;>(try (cases h;done))
 rename_i hk hkk;have hkk:k=k':=by simpa using hkk
 subst hkk;simp only[qsI]at h;obtain⟨x,hf,hx⟩:=GL n 0 hm.keysI;cases x with
 | some x=>
  obtain⟨i,x⟩:=x;obtain⟨es',cl',h1,h2⟩:=QDx (id:=id) (k:=k) (n:=n) (P:=P) (kt:=kt) (ty:=ty) (cl:=cl) (eff:=⟨true,true,.tup [],[(id,.mp (YQ es i) cl)]⟩) hu hb ht (by simp only[HM,hk,hf])
  simp only[Eff.mk.injEq,List.cons.injEq,qpI,Blk.mp.injEq,true_and,and_true]at h2;obtain⟨rfl,rfl⟩:=h2;obtain⟨_,e,he,hek,_⟩:=Gr hf;exact⟨_,_,h1,hm.del (QQm hm.keysI) (fun m=>QOp m hm.keysI he hek),h.symm⟩
 | none=>
  obtain⟨es',cl',h1,h2⟩:=QDx (id:=id) (k:=k) (n:=n) (P:=P) (kt:=kt) (ty:=ty) (cl:=cl) (eff:=⟨true,true,.tup [],[(id,.mp es cl)]⟩) hu hb ht (by simp only[HM,hk,hf])
  simp only[Eff.mk.injEq,List.cons.injEq,qpI,Blk.mp.injEq,true_and,and_true]at h2;obtain⟨rfl,rfl⟩:=h2;have hg0:Kn k n es=none:=by rw[←hx];rfl
  refine⟨_,_,h1,hm.del hm.keysI (fun m => ?_),h.symm⟩
  by_cases e:m=n
  ·rw[if_pos e,e];exact hg0
  ·rw[if_neg e]
theorem K8.zero{id:Nat}{z n:Nat}{g:Nat→List AV}(h:K8 r id w ty z n g)(hn:(r id).nil=true):n=0:=h.2.2.2.1 hn
theorem QH6{lk:Nat→Option Blk}{nid id cl:Nat}{has0:Int→Bool}{get0:Int→AV}{es0:List MapEntry}{cl0:Nat}(hid:inR nid id=false)(hlk:lk id=some (.mpf k z has0 get0))(hb:bk w (r id).blk=some (.map es0.toArray cl0))(hm:Js r k z has get es):Qq lk r nid [(id,.mpf k z has get)] w r (w.putObj (r id).blk (.map es.toArray cl)):=
 Qq.same1 hid hlk rfl (fun _ h=>h) ⟨es,cl,QIn hb,hm⟩ (QL3 w _ _)
theorem QZ4{o:Oper}{ev:Operand→AV}{nid:Nat}{a:Act}{look:Nat→Option Blk}{blks:List Blk}(hH:HOk r w nid look){ids:List Nat}{g:List Blk→Option Eff}(hV:Ge P o.op ev nid=some (ids,g))(hv:ids.map look=blks.map some)(he:g blks=some eff)(hp:eff.pre=true)(hρ:∀ x∈o.op.operands,a.eval x=(ev x).den r){K:Act→World→Prop}{Q:Exit→Act→World→Prop}(k:∀ r' w',Qq look r nid eff.upd w r' w'→K (a.put o.dst (eff.val.den r')) w'):o.wp P a w K Q:=by
 have KV:∀{s:Sem Value} {v:Value} {w':World},s.run P w = .ok v w'→(do pure (.value (←s)):Sem Next).run P w = .ok (.value v) w':=by
  intro s v w' hs;rw[Sem.run_bind,hs];rfl
 have KU:∀{s:Sem Unit} {w':World},s.run P w = .ok () w'→(do s;pure .skip:Sem Next).run P w = .ok .skip w':=by
  intro s w' hs;rw[Sem.run_bind,hs];rfl
 have one:∀{id:Nat},[id].map look=blks.map some→∃ b,blks=[b]∧look id=some b:=by
  intro id h;obtain⟨b,rfl⟩:=jf h;simp only[List.map_cons,List.map_nil,List.cons.injEq,and_true]at h;exact⟨b,rfl,h⟩
 unfold Ge at hV;split at hV<;>(try (cases hV;done))<;>rename_i ho
 ·rename_i t;simp only[qsI,qpI]at hV;obtain⟨rfl,rfl⟩:=hV;simp only[qsI]at he;subst he
  have hb:QP (Qp r nid (Loc.of w.heap.size 0 0 0)) nid (w.alloc (.map #[] 0)) (.mp [] 0):=by
   simp only[QP,Qp,if_true];show bk _ w.heap.size=_;rw[zJ,if_pos rfl]
  refine VI (w':=w.alloc (.map #[] 0)) (v := .map (some w.heap.size)) ?_ ?_
  ·unfold execOp;simp only[ho];exact KV rfl
  ·have:=k _ _ (Qq.new1 (r:=r) rfl (fun _ h=>h) hb);simpa[AV.den,Qp,Loc.of]using this
 ·rename_i t x ix;have hx:=hρ x (by rw[ho];simp[Op.operands])
  have hix:=hρ ix (by rw[ho];simp[Op.operands])
  split at hV<;>(try (cases hV;done))
  rename_i kt et id c kk n hu hex hei;simp only[qsI,qpI]at hV;obtain⟨rfl,rfl⟩:=hV;obtain⟨b,rfl,hb⟩:=one hv
  have fin:(Instr.lookup t (.map (some (r id).blk)) (.int kk n) false).run P w = .ok (eff.val.den r) w∧eff.upd=[]→o.wp P a w K Q:=by
   rintro⟨h1,h2⟩;refine VI (w':=w) (v:=eff.val.den r) ?_ (k r w (by rw[h2];exact Qq.id look r nid w))
   unfold execOp;simp only[ho];rw[hx,hix,hex,hei];exact KV h1
  cases b<;>(try (cases he;done))
  ·exact fin (Qce hu (hH.rep id _ hb) he r)
  ·obtain⟨es,cl,hbk,hm⟩:=hH.rep id _ hb;exact fin (Qdb hu hbk hm he hp)
 ·rename_i t x ix;have hx:=hρ x (by rw[ho];simp[Op.operands])
  have hix:=hρ ix (by rw[ho];simp[Op.operands])
  split at hV<;>(try (cases hV;done))
  rename_i kt et id c kk n hu hex hei;simp only[qsI,qpI]at hV;obtain⟨rfl,rfl⟩:=hV;obtain⟨b,rfl,hb⟩:=one hv
  have fin:(Instr.lookup t (.map (some (r id).blk)) (.int kk n) true).run P w = .ok (eff.val.den r) w∧eff.upd=[]→o.wp P a w K Q:=by
   rintro⟨h1,h2⟩;refine VI (w':=w) (v:=eff.val.den r) ?_ (k r w (by rw[h2];exact Qq.id look r nid w))
   unfold execOp;simp only[ho];rw[hx,hix,hex,hei];exact KV h1
  cases b<;>(try (cases he;done))
  obtain⟨es,cl,hbk,hm⟩:=hH.rep id _ hb;exact fin (QX7 hu hbk hm he hp)
 ·rename_i t m x v;have hm:=hρ m (by rw[ho];simp[Op.operands])
  have hx:=hρ x (by rw[ho];simp[Op.operands])
  have hvv:=hρ v (by rw[ho];simp[Op.operands])
  split at hV<;>(try (cases hV;done))
  rename_i kt et id c kk n hu hem hex;simp only[qsI,qpI]at hV;obtain⟨rfl,rfl⟩:=hV;obtain⟨b,rfl,hb⟩:=one hv;cases b<;>(try (cases he;done))
  ·obtain⟨es',cl',h1,rfl⟩:=QDw hu (hH.rep id _ hb) he r;refine QCr (w':=w.putObj (r id).blk (.map es'.toArray cl')) ?_ (k r _ (QPp (hH.out id _ hb) hb (hH.rep id _ hb)));unfold execOp;simp only[ho];rw[hm,hx,hvv,hem,hex];exact KU h1
  ·obtain⟨es,cl,hbk,hmi⟩:=hH.rep id _ hb;simp only[WS]at he;obtain⟨es',cl',h1,h2,rfl⟩:=QTV hu hbk hmi he;refine QCr (w':=w.putObj (r id).blk (.map es'.toArray cl')) ?_ (k r _ (QH6 (hH.out id _ hb) hb hbk h2));unfold execOp;simp only[ho];rw[hm,hx,hvv,hem,hex];exact KU h1
 ·rename_i args ts;split at hV<;>(try (cases hV;done))
  rename_i m x t t' hargs hts;have hargs':args = #[m,x]:=by apply Array.ext';simpa using hargs
  have hts':ts = #[t,t']:=by apply Array.ext';simpa using hts
  subst hargs' hts';have hm:=hρ m (by rw[ho];simp[Op.operands,Call.operands])
  have hx:=hρ x (by rw[ho];simp[Op.operands,Call.operands])
  split at hV<;>(try (cases hV;done))
  rename_i kt et id c kk n hu hem hex;simp only[qsI,qpI]at hV;obtain⟨rfl,rfl⟩:=hV;obtain⟨b,rfl,hb⟩:=one hv;cases b<;>(try (cases he;done))
  ·obtain⟨es',cl',h1,rfl⟩:=QDx (ty:=o.type) (tys := #[t,t']) hu (hH.rep id _ hb) rfl he;refine VI (w':=w.putObj (r id).blk (.map es'.toArray cl')) (v := .tuple #[]) ?_ (k r _ (QPp (hH.out id _ hb) hb (hH.rep id _ hb)));unfold execOp;simp only[ho];simp[resolve,invoke,builtin,hm,hx,hem,hex,AV.den,h1,Result.andThen]
  ·obtain⟨es,cl,hbk,hmi⟩:=hH.rep id _ hb;obtain⟨es',cl',h1,h2,rfl⟩:=QXv (ty:=o.type) (tys := #[t,t']) hu hbk rfl hmi he;refine VI (w':=w.putObj (r id).blk (.map es'.toArray cl')) (v := .tuple #[]) ?_ (k r _ (QH6 (hH.out id _ hb) hb hbk h2));unfold execOp;simp only[ho];simp[resolve,invoke,builtin,hm,hx,hem,hex,AV.den,h1,Result.andThen]
 ·rename_i t x y c;have hx:=hρ x (by rw[ho];simp[Op.operands])
  have hy:=hρ y (by rw[ho];simp[Op.operands])
  split at hV<;>(try (cases hV;done))
  rename_i elem id e len cp hu hex hey;simp only[qsI,qpI]at hV;obtain⟨rfl,rfl⟩:=hV;obtain⟨b,rfl,hb⟩:=one hv;simp only at he;split at he<;>(try (cases he;done))
  rename_i n hn;simp only[qsI]at he;subst he;obtain⟨h1,h2⟩:=qdt hp;have hrep:=hH.rep id _ hb
  have hnil:(r id).nil=false:=by
   cases hh:(r id).nil with
   | false=>rfl
   | true=>
    exfalso;cases b<;>simp only[QP6]at hn<;>(try (cases hn;done))<;>simp only[qsI]at hn<;>subst hn
    ·have:=K8.zero hrep hh;omega
    ·have:=hrep.2.2.1 hh;omega
  have hden:(AV.slz id e len cp).den r=(AV.slice true id e len cp).den r:=by
   simp only[AV.den,Loc.base,Loc.room,hnil]
  refine VI (w':=w) (v := .bool false) ?_ (k r w (Qq.id look r nid w));have:=QMe (P:=P) (op := .eql) (t:=t) (xo:=x) (yo:=y) (x := .slice true id e len cp) (y := .nils) (e:=⟨true,true,.bool true false⟩) (by simp[QAd,GD,eqA,hu,okE]) rfl r w
  unfold execOp;simp only[ho];rw[hx,hy,hex,hey,hden];exact KV this
end Go.SX
