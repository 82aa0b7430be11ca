/- - -/
import Derived.Test.YtbpffdkemeoajaaGreatMpf
import Derived.RangeFuncRecord
import Derived.Laws.MakeOwn
namespace Go.SX
open Go Go.RowKit Go.Proofs.YtbpffdkemeoajaaGreat
def jO(v:AV):Value:=v.den λ_=>Loc.none 0
variable {v z:AV}{β:Type}{P:Program}{kt t et ty:TypeId}{k k':IntKind}{n:Int}{es es':List MapEntry}{w:World}{b cl:Nat}{eff:Eff}{r:Nat->Loc}{has:Int->Bool}{get:Int->AV}
theorem QEi(h:v.all (λ_=>false)=true)(r:Nat->Loc):v.den r=jO v:=VL (p:=λ_=>false) (λ_ hf=>by cases hf) v h
def ZH(P:Program)(kt:TypeId)(k:IntKind):Bool:=match P.underlying kt with
 | some (.int k')=>k==k'
 | _=>false
def YQ(k:IntKind)(n:Int):List MapEntry->Nat->Option (Option (Nat×Value))
 | [],_=>some none
 | e::es,i=>match e.key with
  | .int k' m=>match k==k' with
   | true=>(match decide (n=m)with|true=>some (some (i,e.val))|false=>YQ k n es (i+1))
   | false=>none
  | _=>none
def Zy(key val:Value):List MapEntry->Nat->List MapEntry
 | [],_=>[]
 | e::es,0=>{ e with key,val }::es
 | e::es,i+1=>e::Zy key val es i
def Yp:List MapEntry->Nat->List MapEntry
 | [],_=>[]
 | _::es,0=>es
 | e::es,i+1=>e::Yp es i
def QG6(P:Program)(kt et:TypeId)(k:IntKind)(n:Int)(es:List MapEntry):Option Eff:=match ZH P kt k,YQ k n es 0 with
 | true,some (some (_,v))=>some ⟨true,true,ofValue v,[]⟩
 | true,some none=>match (P.info? et).bind (·.zero)with
  | some z=>some ⟨true,true,ofValue z,[]⟩
  | none=>none
 | _,_=>none
def HN(P:Program)(kt:TypeId)(id:Nat)(k:IntKind)(n:Int)(v:AV)(es:List MapEntry)(cl:Nat):Option Eff:=match ZH P kt k,v.all (λ_=>false),YQ k n es 0 with
 | true,true,some (some (i,_))=>some ⟨true,true,.tup [],[(id,.mp (Zy (.int k n) (jO v) es i) cl)]⟩
 | true,true,some none=>some ⟨true,true,.tup [],[(id,.mp (es++[{ key := .int k n,val:=jO v,born:=cl }]) (cl+1))]⟩
 | _,_,_=>none
def HU(P:Program)(kt:TypeId)(id:Nat)(k:IntKind)(n:Int)(es:List MapEntry)(cl:Nat):Option Eff:=match ZH P kt k,YQ k n es 0 with
 | true,some (some (i,_))=>some ⟨true,true,.tup [],[(id,.mp (Yp es i) cl)]⟩
 | true,some none=>some ⟨true,true,.tup [],[(id,.mp es cl)]⟩
 | _,_=>none
def QGk:AV->Value->Bool
 | .bool _ b,.bool b'=>b==b'
 | .int _ k n,.int k' n'=>k==k'&&decide (n=n')
 | _,_=>false
def isI(k:IntKind):AV->Bool
 | .int _ k' _=>k==k'
 | _=>false
def toI:AV->Int
 | .int _ _ i=>i
 | _=>0
def Gj(z v:AV):Eff:=match z with
 | .int _ kz _=>⟨false,isI kz v,.int false kz (toI v),[]⟩
 | _=>⟨true,true,v,[]⟩
theorem QRf(h:(Gj z v).pre=true)(r:Nat->Loc):(Gj z v).val.den r=v.den r/\(Gj z v).upd=[]:=by
 unfold Gj at h ⊢;split
 .rename_i c kz i;simp only at h;cases v<;>(try (cases h;done))
  rename_i c' k' i';have e:kz=k':=by simpa[isI]using h
  subst e;exact⟨rfl,rfl⟩
 .exact⟨rfl,rfl⟩
def QAO(P:Program)(kt et:TypeId)(k:IntKind)(n:Int)(k':IntKind)(z:AV)(get:Int->AV):Option Eff:=match ZH P kt k,k==k',(P.info? et).bind (·.zero)with
 | true,true,some zz=>(match QGk z zz with
  | true=>some (Gj z (get n))
  | false=>none)
 | _,_,_=>none
def QGX(P:Program)(kt et:TypeId)(k:IntKind)(n:Int)(k':IntKind)(z:AV)(has:Int->Bool)(get:Int->AV):Option Eff:=match QAO P kt et k n k' z get with
 | some e=>some ⟨false,e.pre,.tup [e.val,.bool false (has n)],[]⟩
 | none=>none
def KO(n:Int)(v:AV)(get:Int->AV)(m:Int):AV:=match decide (m=n)with
 | true=>v
 | false=>get m
def Qc(n:Int)(b:Bool)(has:Int->Bool)(m:Int):Bool:=match decide (m=n)with
 | true=>b
 | false=>has m
def V4{β:Type}(f:AV->(AV->β)->β):List AV->(List AV->β)->β
 | [],k=>k []
 | v::l,k=>f v λv'=>V4 f l λl'=>k (v'::l')
def XG{β:Type}:Nat->AV->(AV->β)->β
 | 0,v,k=>k v
 | n+1,v,k=>match v with
  | .int c i x=>(match c with|true=>k (.int true i x)|false=>k (.int false i x))
  | .bool c x=>(match c with|true=>k (.bool true x)|false=>k (.bool false x))
  | .fn f l=>V4 (XG n) l λl'=>k (.fn f l')
  | .mth f l=>V4 (XG n) l λl'=>k (.mth f l')
  | .alt b v w=>XG n v λv'=>XG n w λw'=>k (.alt b v' w')
  | .ifc t v=>XG n v λv'=>k (.ifc t v')
  | .agg l=>V4 (XG n) l λl'=>k (.agg l')
  | .tup l=>V4 (XG n) l λl'=>k (.tup l')
  | .opt b v=>XG n v λv'=>k (.opt b v')
  | .ptr a b c=>k (.ptr a b c)
  | .slice a b c d e=>k (.slice a b c d e)
  | .slz a b c d=>k (.slz a b c d)
  | .map a=>k (.map a)
  | .yld a=>k (.yld a)
  | .addr a=>k (.addr a)
  | .nilp=>k .nilp
  | .nils=>k .nils
  | .nilm=>k .nilm
  | .nilf=>k .nilf
  | .nili=>k .nili
  | .str s=>k (.str s)
  | .raw v=>k (.raw v)
def Xe(m:Nat)(k:Nat->β):β:=match m with
 | 0=>k 0
 | j+1=>k (Nat.succ j)
def QIU(n:Int)(k:Int->β):β:=match n with
 | .ofNat m=>Xe m λm=>k (.ofNat m)
 | .negSucc m=>Xe m λm=>k (.negSucc m)
def QGJ(c:Cap)(k:Cap->β):β:=match c with
 | .lit n=>Xe n λn=>k (.lit n)
 | .of n=>Xe n λn=>k (.of n)
def ZQ{β:Type}:Nat->AV->(AV->β)->β
 | 0,v,k=>k v
 | n+1,v,k=>match v with
  | .int c i x=>(match c with|true=>QIU x λx=>k (.int true i x)|false=>k (.int false i x))
  | .bool c x=>(match c with|true=>(match x with|true=>k (.bool true true)|false=>k (.bool true false))|false=>k (.bool false x))
  | .fn f l=>V4 (ZQ n) l λl'=>k (.fn f l')
  | .mth f l=>V4 (ZQ n) l λl'=>k (.mth f l')
  | .alt b v w=>ZQ n v λv'=>ZQ n w λw'=>k (.alt b v' w')
  | .ifc t v=>ZQ n v λv'=>k (.ifc t v')
  | .agg l=>V4 (ZQ n) l λl'=>k (.agg l')
  | .tup l=>V4 (ZQ n) l λl'=>k (.tup l')
  | .opt b v=>ZQ n v λv'=>k (.opt b v')
  | .ptr a b c=>Xe a λa=>Xe b λb=>Xe c λc=>k (.ptr a b c)
  | .slice a b c d e=>Xe b λb=>Xe c λc=>Xe d λd=>QGJ e λe=>(match a with|true=>k (.slice true b c d e)|false=>k (.slice false b c d e))
  | .slz a b c d=>k (.slz a b c d)
  | .map a=>Xe a λa=>k (.map a)
  | .yld a=>Xe a λa=>k (.yld a)
  | .addr a=>k (.addr a)
  | .nilp=>k .nilp
  | .nils=>k .nils
  | .nilm=>k .nilm
  | .nilf=>k .nilf
  | .nili=>k .nili
  | .str s=>k (.str s)
  | .raw v=>k (.raw v)
def QEH{β:Type}:List (Nat×Blk)->(List (Nat×Blk)->β)->β
 | [],k=>k []
 | (i,b)::h,k=>Xe i λi'=>QEH h λh'=>k ((i',b)::h')
def QAg(v:AV)(k:AV->β):β:=match v with
 | .agg l=>k (.agg l)
 | .tup l=>k (.tup l)
 | v=>ZQ 1 v k
def QQF(l:List AV)(k:List AV->β):β:=V4 QAg l k
def zB{α:Type}(on:Bool)(f:α->(α->β)->β)(x:α)(k:α->β):β:=match on with
 | false=>k x
 | true=>f x k
theorem jc{β:Type}{f:AV->(AV->β)->β}(hf:∀ v k,f v k=k v):∀(l:List AV) (k:List AV->β),V4 f l k=k l
 | [],_=>rfl
 | v::l,k=>by rw[V4,hf,jc hf l]
theorem jY{β:Type}:∀(n:Nat) (v:AV) (k:AV->β),XG n v k=k v
 | 0,_,_=>rfl
 | n+1,v,k=>by
  cases v<;>simp only[XG,jY n,jc (jY n)]
  .rename_i c i x;cases c<;>rfl
  .rename_i c x;cases c<;>rfl
theorem QAf(m:Nat)(k:Nat->β):Xe m k=k m:=by cases m<;>rfl
theorem Qe1(n:Int)(k:Int->β):QIU n k=k n:=by cases n<;>simp only[QIU,QAf]
theorem QVV(c:Cap)(k:Cap->β):QGJ c k=k c:=by cases c<;>simp only[QGJ,QAf]
theorem QEr{β:Type}:∀(n:Nat) (v:AV) (k:AV->β),ZQ n v k=k v
 | 0,_,_=>rfl
 | n+1,v,k=>by
  cases v<;>simp only[ZQ,QEr n,jc (QEr n),QAf,Qe1,QVV]
  .rename_i c i x;cases c<;>rfl
  .rename_i c x;cases c<;>cases x<;>rfl
  .rename_i a b c d e;cases a<;>rfl
theorem QOF{β:Type}:∀(l:List (Nat×Blk)) (k:List (Nat×Blk)->β),QEH l k=k l
 | [],_=>rfl
 | (i,b)::h,k=>by rw[QEH,QAf,QOF h]
theorem QEF(v:AV)(k:AV->β):QAg v k=k v:=by
 cases v<;>simp only[QAg,QEr]
theorem QbF(l:List AV)(k:List AV->β):QQF l k=k l:=jc QEF l k
theorem vb{α:Type}{f:α->(α->β)->β}(hf:∀ x k,f x k=k x)(on:Bool)(x:α)(k:α->β):zB on f x k=k x:=by
 cases on with
 | false=>rfl
 | true=>exact hf x k
def QEs(P:Program)(kt:TypeId)(id:Nat)(k:IntKind)(n:Int)(v:AV)(k':IntKind)(z:AV)(has:Int->Bool)(get:Int->AV):Option Eff:=match ZH P kt k,k==k',v.all (λ_=>false)with
 | true,true,true=>some ⟨true,true,.tup [],[(id,.mpf k' z (Qc n true has) (KO n v get))]⟩
 | _,_,_=>none
def QGo(P:Program)(kt:TypeId)(id:Nat)(k:IntKind)(n:Int)(k':IntKind)(z:AV)(has:Int->Bool)(get:Int->AV):Option Eff:=match ZH P kt k,k==k' with
 | true,true=>some ⟨true,true,.tup [],[(id,.mpf k' z (Qc n false has) (KO n z get))]⟩
 | _,_=>none
def QOm:Blk->Option Nat
 | .rowz _ _ _ n _=>some n
 | .frz _ n _=>some n
 | _=>none
def QHv:Value->Option CK
 | .int k n=>(match decide (n=0)with|true=>some (.int k)|false=>none)
 | .bool b=>(match b with|true=>none|false=>some .bool)
 | _=>none
def HJ:List Value->Option (List CK)
 | []=>some []
 | v::l=>match QHv v,HJ l with
  | some k,some ks=>some (k::ks)
  | _,_=>none
def QFa(P:Program)(t:TypeId)(c c':AV)(nid:Nat):Option Eff:=match P.underlying t,c,c' with
 | some (.slice e),.int _ _ n,.int _ _ n'=>(match P.info? e with
  | some i=>(match i.zero with
   | some z=>(match HJ z.cells.toList with
    | some ks=>(match Nat.beq i.size ks.length,Nat.ble i.bytes 4096 with
     | true,true=>some ⟨false,decide (n=n')&&decide (0<=n/\n<=17179869184),.slz nid 0 n.toNat (.of 0),[(nid,.rowz true e ks n.toNat λ_ _=>0)]⟩
     | _,_=>none)
    | none=>none)
   | none=>none)
  | none=>none)
 | _,_,_=>none
def QA5(P:Program)(op:Op)(ev:Operand->AV)(nid:Nat):Option W7:=match op with
 | .makeMap _ none=>some ([],λ_=>some ⟨true,true,.map nid,[(nid,.mp [] 0)]⟩)
 | .makeSlice t l c=>some ([],λ_=>QFa P t (ev l) (ev c) nid)
 | .lookup t x ix false=>match P.underlying t,ev x,ev ix with
  | some (.map kt et),.map id,.int _ k n=>some ([id],λ|[.mp es _]=>QG6 P kt et k n es|[.mpf k' z _ get]=>QAO P kt et k n k' z get|_=>none)
  | _,_,_=>none
 | .lookup t x ix true=>match P.underlying t,ev x,ev ix with
  | some (.map kt et),.map id,.int _ k n=>some ([id],λ|[.mpf k' z has get]=>QGX P kt et k n k' z has get|_=>none)
  | _,_,_=>none
 | .mapUpdate t m x v=>match P.underlying t,ev m,ev x with
  | some (.map kt _),.map id,.int _ k n=>some ([id],λ|[.mp es cl]=>HN P kt id k n (ev v) es cl|[.mpf k' z has get]=>XG 6 (ev v) λu=>QEs P kt id k n u k' z has get|_=>none)
  | _,_,_=>none
 | .call ⟨.builtin .delete,args,ts⟩=>match args.toList,ts.toList with
  | [m,x],[t,_]=>match P.underlying t,ev m,ev x with
   | some (.map kt _),.map id,.int _ k n=>some ([id],λ|[.mp es cl]=>HU P kt id k n es cl|[.mpf k' z has get]=>QGo P kt id k n k' z has get|_=>none)
   | _,_,_=>none
  | _,_=>none
 | .binOp .eql t x y _=>match P.underlying t,ev x,ev y with
  | some (.slice _),.slz id _ len _,.nils=>some ([id],fun
   | [b]=>(match QOm b with
    | some n=>some ⟨false,decide (0<len/\len<=n),.bool true false,[]⟩
    | none=>none)
   | _=>none)
  | _,_,_=>none
 | _=>none
theorem QO4{k:IntKind}{n:Int}:∀{es:List MapEntry} {i:Nat} {x:Option (Nat×Value)},YQ k n es i=some x->Instr.findNow (.int k) (.int k n) es i=some x
 | [],i,x,h=>h
 | e::es,i,x,h=>by
  simp only[YQ]at h;split at h<;>(try (cases h;done))
  rename_i k' m he;split at h<;>(try (cases h;done))
  rename_i hk;have hk:k=k':=by simpa using hk
  subst hk;simp only[Instr.findNow,he,Instr.sameNow,if_true]
  by_cases hm:n=m
  .subst hm;simp only[decide_true]at h;simp only[beq_self_eq_true];exact h
  .simp only[hm,decide_false]at h;have:(n==m)=false:=by simpa using hm
   simp only[this];exact QO4 h
theorem QKb(h:ZH P kt k=true):P.underlying kt=some (.int k):=by
 unfold ZH at h;split at h<;>(try (cases h;done))
 rename_i k' hu;have:k=k':=by simpa using h
 subst this;exact hu
theorem Yq{x:Option (Nat×Value)}(hk:ZH P kt k=true)(h:YQ k n es 0=some x)(w:World):
  (Instr.findKey kt (.int k n) es).run P w = .ok x w:=by
 simp only[Instr.findKey,Sem.run_bind,run_underlying (QKb hk),Result.andThen_ok,QO4 h,Sem.run_pure]
theorem QUW(hk:ZH P kt k=true)(b:Bool)(m:Nat)(w:World):(Instr.checkKey b (m+1) kt (.int k n)).run P w = .ok () w:=by
 rw[Instr.checkKey,Sem.run_bind,run_underlying (QKb hk)];rfl
theorem YZ(hk:ZH P kt k=true)(b:Bool)(w:World):(Instr.checkKey b 10000 kt (.int k n)).run P w = .ok () w:=QUW hk b 9999 w
theorem Yf{es:Array MapEntry}(h:bk w b=some (.map es cl)):(getObj b).run P w = .ok (.map es cl) w:=by
 unfold bk at h;simp[getObj,Sem.run,h]
theorem QBO{es:Array MapEntry}{o':Obj}(h:bk w b=some (.map es cl)):(setObj b o').run P w = .ok () (w.putObj b o'):=by
 unfold bk at h;simp[setObj,Sem.run,h,World.putObj]
theorem QGH{z:Value}(h:(P.info? t).bind (·.zero)=some z)(w:World):(zeroValue t).run P w = .ok z w:=by
 cases hi:P.info? t with
 | none=>simp[hi]at h
 | some i=>
  simp only[hi,Option.bind_some]at h;simp[zeroValue,typeInfo,hi,h,Sem.run_bind]
theorem Hr{k:IntKind}{n:Int}:∀{es:List MapEntry} {i j:Nat} {v:Value},YQ k n es i=some (some (j,v))->i<=j/\∃ e,es[j-i]? = some e/\e.key = .int k n/\e.val=v
 | [],i,j,v,h=>by simp[YQ]at h
 | e::es,i,j,v,h=>by
  simp only[YQ]at h;split at h<;>(try (cases h;done))
  rename_i k' m he;split at h<;>(try (cases h;done))
  rename_i hk;have hk:k=k':=by simpa using hk
  subst hk
  by_cases hm:n=m
  .subst hm;simp only[decide_true,qsI,qpI]at h;obtain⟨rfl,rfl⟩:=h;exact⟨qlr _,e,by simp,he,rfl⟩
  .simp only[hm,decide_false]at h;obtain⟨h1,e',h2,h3⟩:=Hr h;exact⟨by omega,e',by rw[show j-i=(j-(i+1))+1 by omega];simpa using h2,h3⟩
theorem QNK(key val:Value):∀(es:List MapEntry) (i:Nat),es.modify i (λe=>{ e with key,val })=Zy key val es i
 | [],i=>by cases i<;>rfl
 | e::es,0=>rfl
 | e::es,i+1=>by rw[List.modify_succ_cons,QNK key val es i];rfl
theorem QRD:∀(es:List MapEntry) (i:Nat),es.eraseIdx i=Yp es i
 | [],i=>by cases i<;>rfl
 | e::es,0=>rfl
 | e::es,i+1=>by rw[List.eraseIdx_cons_succ,QRD es i];rfl
theorem QLX(w:World)(b:Nat)(o:Obj):Fr w (w.putObj b o) (λk=>k=b):=by
 refine⟨rfl,rfl,rfl,by simp[World.putObj],λk _ hk=>?_⟩
 unfold bk;exact World.putObj_heap_other hk
theorem QQ8{o o':Obj}(h:bk w b=some o):bk (w.putObj b o') b=some o':=by
 unfold bk;exact World.putObj_heap_same (X0 h)
theorem Qbm(hu:P.underlying t=some (.map kt et))(hb:bk w b=some (.map es.toArray cl))(h:QG6 P kt et k n es=some eff)(r:Nat->Loc):
  (Instr.lookup t (.map (some b)) (.int k n) false).run P w = .ok (eff.val.den r) w/\eff.upd=[]:=by
 unfold QG6 at h;split at h<;>(try (cases h;done))
 .rename_i i v hk hf;simp only[qsI]at h;subst h;refine⟨?_,rfl⟩;simp only[Instr.lookup,Sem.run_bind,run_underlying hu,Result.andThen_ok,Yf hb,Sem.run_pure,YZ hk,Yq hk hf,QGL];rfl
 .rename_i hk hf;split at h<;>(try (cases h;done))
  rename_i z hz;simp only[qsI]at h;subst h;refine⟨?_,rfl⟩;simp only[Instr.lookup,Sem.run_bind,run_underlying hu,Result.andThen_ok,Yf hb,Sem.run_pure,YZ hk,Yq hk hf,QGL,QGH hz];rfl
theorem QIh{id:Nat}(hu:P.underlying t=some (.map kt et))(hb:bk w b=some (.map es.toArray cl))(h:HN P kt id k n v es cl=some eff)(r:Nat->Loc):
  ∃ es' cl',(Instr.mapUpdate t (.map (some b)) (.int k n) (v.den r)).run P w = .ok () (w.putObj b (.map es'.toArray cl'))/\eff=⟨true,true,.tup [],[(id,.mp es' cl')]⟩:=by
 unfold HN at h;split at h<;>(try (cases h;done))
 .rename_i i x hk hv hf;simp only[qsI]at h;obtain⟨_,e,he,hek,_⟩:=Hr hf;refine⟨_,_,?_,h.symm⟩
  have hkey:((es.toArray[i]?).map (·.key)).getD (.int k n) = .int k n:=by
   rw[List.getElem?_toArray];simp only[Nat.sub_zero]at he;rw[he];simpa using hek
  have hst:(Instr.keyThatStays (.int k n) (.int k n)).run P w = .ok (.int k n) w:=by
   simp[Instr.keyThatStays,Instr.sameBits]
  simp only[Instr.mapUpdate,Sem.run_bind,run_underlying hu,Result.andThen_ok,Yf hb,YZ hk,Yq hk hf,hkey,hst,QEi hv r];rw[QBO hb];congr 2;rw[List.modify_toArray,QNK]
 .rename_i hk hv hf;simp only[qsI]at h;refine⟨_,_,?_,h.symm⟩;simp only[Instr.mapUpdate,Sem.run_bind,run_underlying hu,Result.andThen_ok,Yf hb,YZ hk,Yq hk hf,QEi hv r];rw[QBO hb];simp
theorem QIY{tys:Array TypeId}{id:Nat}(hu:P.underlying t=some (.map kt et))(hb:bk w b=some (.map es.toArray cl))(ht:tys[0]? = some t)(h:HU P kt id k n es cl=some eff):
  ∃ es' cl',(Builtin.delete_ tys ty #[.map (some b),.int k n]).run P w = .ok (.tuple #[]) (w.putObj b (.map es'.toArray cl'))/\eff=⟨true,true,.tup [],[(id,.mp es' cl')]⟩:=by
 unfold HU at h;split at h<;>(try (cases h;done))
 .rename_i i x hk hf;simp only[qsI]at h;obtain⟨_,e,he,_⟩:=Hr hf;refine⟨_,_,?_,h.symm⟩;simp only[Builtin.delete_,ht,Sem.run_bind,run_underlying hu,Result.andThen_ok,Yf hb,YZ hk,Yq hk hf];simp only[List.getElem?_toArray,List.getElem?_cons_zero,List.getElem?_cons_succ,Sem.run_bind,run_underlying hu,Result.andThen_ok,Yf hb,YZ hk,Yq hk hf];rw[QBO hb];simp only[Result.andThen_ok,Sem.run_pure];congr 3;rw[<-QRD];apply Array.ext';rw[Array.toList_eraseIdxIfInBounds]
 .rename_i hk hf;simp only[qsI]at h;refine⟨_,_,?_,h.symm⟩;simp only[Builtin.delete_,ht,Sem.run_bind,run_underlying hu,Result.andThen_ok,Yf hb,YZ hk,Yq hk hf];simp only[List.getElem?_toArray,List.getElem?_cons_zero,List.getElem?_cons_succ,Sem.run_bind,run_underlying hu,Result.andThen_ok,Yf hb,YZ hk,Yq hk hf];rw[QBO hb];simp only[Result.andThen_ok,Sem.run_pure]
theorem QOy{lk:Nat->Option Blk}{nid id cl:Nat}{es0:List MapEntry}{cl0:Nat}(hid:inR nid id=false)(hlk:lk id=some (.mp es0 cl0))(hb:bk w (r id).blk=some (.map es0.toArray cl0)):Qx lk r nid [(id,.mp es cl)] w r (w.putObj (r id).blk (.map es.toArray cl)):=
 Qx.same1 hid hlk rfl (λ_ h=>h) (QQ8 hb) (QLX w _ _)
structure Vk (k:IntKind) (es:List MapEntry):Prop where
 keys:∀ e∈es,∃ m,e.key = .int k m
 once:(es.map (·.key)).Nodup
theorem Vk.tail{e:MapEntry}(h:Vk k (e::es)):Vk k es:=⟨λx hx=>h.keys x (List.mem_cons_of_mem _ hx),(List.nodup_cons.1 h.once).2⟩
theorem QA2{k:IntKind}(n:Int):∀{es:List MapEntry} (i:Nat),Vk k es->∃ x,YQ k n es i=some x/\x.map (·.2)=Kw k n es
 | [],i,_=>⟨none,rfl,rfl⟩
 | e::es,i,h=>by
  obtain⟨m,hm⟩:=h.keys e (by simp)
  by_cases hn:n=m
  .exact⟨some (i,e.val),by simp[YQ,hm,hn],by simp[Kw,hm,hn]⟩
  .obtain⟨x,h1,h2⟩:=QA2 n (i+1) h.tail;exact⟨x,by simp[YQ,hm,hn,h1],by simp[Kw,hm,hn,h2]⟩
theorem QR6{k:IntKind}{n:Int}:∀{es:List MapEntry},Vk k es->Kw k n es=none->∀ e∈es,e.key ≠ .int k n
 | [],_,_,e,he=>by cases he
 | e'::es,h,hg,e,he=>by
  obtain⟨m,hm⟩:=h.keys e' (by simp)
  by_cases hn:n=m
  .simp[Kw,hm,hn]at hg
  .simp only[Kw,hm,hn,and_false,decide_false]at hg;rcases List.mem_cons.1 he with rfl|he
   .rw[hm];simp only[ne_eq,Value.int.injEq,true_and];exact λh=>hn h.symm
   .exact QR6 h.tail hg e he
theorem QR9{key val:Value}:∀{es:List MapEntry} {i:Nat} {e:MapEntry},es[i]? = some e->e.key=key->(Zy key val es i).map (·.key)=es.map (·.key)
 | [],i,e,h,_=>by simp at h
 | x::es,0,e,h,hk=>by
  simp only[List.getElem?_cons_zero,qsI]at h;subst h;simp[Zy,hk]
 | x::es,i+1,e,h,hk=>by
  simp only[List.getElem?_cons_succ]at h;simp[Zy,QR9 h hk]
theorem QcS(h:Vk k es)(he:es'.map (·.key)=es.map (·.key)):Vk k es':=by
 refine⟨λe hm=>?_,by rw[he];exact h.once⟩
 have:e.key∈es'.map (·.key):=List.mem_map_of_mem hm;rw[he]at this;obtain⟨e2,h2,h3⟩:=List.mem_map.1 this;obtain⟨m,hm⟩:=h.keys e2 h2;exact⟨m,by rw[<-h3,hm]⟩
theorem QNF{k:IntKind}{n:Int}{val:Value}(m:Int):∀{es:List MapEntry} {i:Nat} {e:MapEntry},Vk k es->es[i]? = some e->e.key = .int k n->Kw k m (Zy (.int k n) val es i)=if m=n then some val else Kw k m es
 | [],i,e,_,h,_=>by simp at h
 | x::es,0,e,hK,h,hk=>by
  simp only[List.getElem?_cons_zero,qsI]at h;subst h;simp only[Zy,Kw,hk,true_and]
  by_cases hm:m=n<;>simp[hm]
 | x::es,i+1,e,hK,h,hk=>by
  simp only[List.getElem?_cons_succ]at h;obtain⟨j,hj⟩:=hK.keys x (by simp)
  have hne:j≠n:=by
   intro hjn;have:=(List.nodup_cons.1 hK.once).1;refine this ?_;show x.key∈_;rw[hj,hjn,<-hk];exact List.mem_map_of_mem (List.mem_of_getElem? h)
  simp only[Zy,Kw,hj,true_and]
  by_cases hm:m=j
  .subst hm;simp[hne]
  .simp only[hm,decide_false];exact QNF m hK.tail h hk
theorem QOz{k:IntKind}{n:Int}{val:Value}{cl:Nat}(m:Int):∀{es:List MapEntry},Vk k es->Kw k n es=none->Kw k m (es++[{ key := .int k n,val,born:=cl }])=if m=n then some val else Kw k m es
 | [],_,_=>by
  simp only[List.nil_append,Kw,true_and]
  by_cases hm:m=n<;>simp[hm]
 | x::es,hK,hg=>by
  obtain⟨j,hj⟩:=hK.keys x (by simp)
  have hne:n≠j:=λh=>by simp[Kw,hj,h]at hg
  have hg':Kw k n es=none:=by simpa[Kw,hj,hne]using hg
  simp only[List.cons_append,Kw,hj,true_and]
  by_cases hm:m=j
  .subst hm;simp[hne.symm]
  .simp only[hm,decide_false];exact QOz m hK.tail hg'
theorem QNX{x:MapEntry}:∀{es:List MapEntry} {i:Nat},x∈Yp es i->x∈es
 | [],_,h=>h
 | _::_,0,h=>List.mem_cons_of_mem _ h
 | _::es,i+1,h=>by
  simp only[Yp]at h;rcases List.mem_cons.1 h with rfl|h
  .simp
  .exact List.mem_cons_of_mem _ (QNX h)
theorem QRO{k:IntKind}:∀{es:List MapEntry} {i:Nat},Vk k es->Vk k (Yp es i)
 | [],_,h=>h
 | _::_,0,h=>h.tail
 | x::es,i+1,h=>by
  have ht:=QRO (i:=i) h.tail;refine⟨λe he=>?_,?_⟩
  .simp only[Yp]at he;rcases List.mem_cons.1 he with rfl|he
   .exact h.keys _ (by simp)
   .exact ht.keys e he
  .simp only[Yp,List.map_cons,List.nodup_cons];refine⟨λhm=>?_,ht.once⟩;obtain⟨y,hy,hyk⟩:=List.mem_map.1 hm;exact(List.nodup_cons.1 h.once).1 (List.mem_map.2 ⟨y,QNX hy,hyk⟩)
theorem QL8{k:IntKind}{n:Int}:∀{es:List MapEntry},Vk k es->(∀ e∈es,e.key ≠ .int k n)->Kw k n es=none
 | [],_,_=>rfl
 | x::es,hK,h=>by
  obtain⟨j,hj⟩:=hK.keys x (by simp)
  have hne:n≠j:=λe=>h x (by simp) (by rw[hj,e])
  simp only[Kw,hj,true_and,hne,decide_false];exact QL8 hK.tail (λe he=>h e (by simp[he]))
theorem QPx{k:IntKind}{n:Int}(m:Int):∀{es:List MapEntry} {i:Nat} {e:MapEntry},Vk k es->es[i]? = some e->e.key = .int k n->Kw k m (Yp es i)=if m=n then none else Kw k m es
 | [],i,e,_,h,_=>by simp at h
 | x::es,0,e,hK,h,hk=>by
  simp only[List.getElem?_cons_zero,qsI]at h;subst h;simp only[Yp,Kw,hk,true_and]
  by_cases hm:m=n
  .subst hm;simp only[if_true];refine QL8 hK.tail λe he hek=>?_;refine(List.nodup_cons.1 hK.once).1 ?_;show x.key∈_;rw[hk,<-hek];exact List.mem_map_of_mem he
  .simp[hm]
 | x::es,i+1,e,hK,h,hk=>by
  simp only[List.getElem?_cons_succ]at h;obtain⟨j,hj⟩:=hK.keys x (by simp)
  have hne:j≠n:=by
   intro hjn;have:=(List.nodup_cons.1 hK.once).1;refine this ?_;show x.key∈_;rw[hj,hjn,<-hk];exact List.mem_map_of_mem (List.mem_of_getElem? h)
  simp only[Yp,Kw,hj,true_and]
  by_cases hm:m=j
  .subst hm;simp[hne]
  .simp only[hm,decide_false];exact QPx m hK.tail h hk
theorem J5.keysI(h:J5 r k z has get es):Vk k es:=⟨h.keys,h.once⟩
theorem QNT{zz:Value}(h:QGk z zz=true)(r:Nat->Loc):zz=z.den r:=by
 unfold QGk at h;split at h
 .simp only[AV.den];rw[eq_of_beq h]
 .simp only[qbA,qdE,beq_iff_eq]at h;simp only[AV.den,h.1,h.2]
 .cases h
theorem J5.put(h:J5 r k z has get es)(hv:v.all (λ_=>false)=true)(hK:Vk k es')(hg:∀ m,Kw k m es'=if m=n then some (jO v)else Kw k m es):J5 r k z (Qc n true has) (KO n v get) es':=by
 refine⟨hK.keys,hK.once,λm=>?_,h.zero,λm hm=>?_,λm hm=>?_⟩
 .unfold KO;split
  .exact hv
  .exact h.flat m
 .rw[hg m];unfold Qc at hm;unfold KO
  by_cases e:m=n
  .simp[e,QEi hv r]
  .simp only[e,decide_false,if_false]at hm ⊢;exact h.yes m hm
 .rw[hg m];unfold Qc at hm;unfold KO
  by_cases e:m=n
  .simp[e]at hm
  .simp only[e,decide_false,if_false]at hm ⊢;exact h.no m hm
theorem J5.del(h:J5 r k z has get es)(hK:Vk k es')(hg:∀ m,Kw k m es'=if m=n then none else Kw k m es):J5 r k z (Qc n false has) (KO n z get) es':=by
 refine⟨hK.keys,hK.once,λm=>?_,h.zero,λm hm=>?_,λm hm=>?_⟩
 .unfold KO;split
  .exact h.zero
  .exact h.flat m
 .rw[hg m];unfold Qc at hm;unfold KO
  by_cases e:m=n
  .simp[e]at hm
  .simp only[e,decide_false,if_false]at hm ⊢;exact h.yes m hm
 .rw[hg m];unfold Qc at hm;unfold KO
  by_cases e:m=n
  .simp[e]
  .simp only[e,decide_false,if_false]at hm ⊢;exact h.no m hm
theorem Qcf(hu:P.underlying t=some (.map kt et))(hb:bk w b=some (.map es.toArray cl))(hm:J5 r k' z has get es)(h:QAO P kt et k n k' z get=some eff)(hp:eff.pre=true):
  (Instr.lookup t (.map (some b)) (.int k n) false).run P w = .ok (eff.val.den r) w/\eff.upd=[]:=by
 unfold QAO at h;split at h<;>(try (cases h;done))
 rename_i zz hk hkk hz;split at h<;>(try (cases h;done))
 rename_i hzz;have hkk:k=k':=by simpa using hkk
 subst hkk;simp only[qsI]at h;subst h;obtain⟨hv1,hv2⟩:=QRf hp r;refine⟨?_,hv2⟩;rw[hv1];obtain⟨x,hf,hx⟩:=QA2 n 0 hm.keysI;cases hh:has n with
 | true=>
  rw[hm.yes n hh]at hx;cases x with
  | none=>cases hx
  | some x=>
   simp only[Option.map_some,qsI]at hx;simp only[Instr.lookup,Sem.run_bind,run_underlying hu,Result.andThen_ok,Yf hb,Sem.run_pure,YZ hk,Yq hk hf];rw[<-hx];rfl
 | false=>
  rw[(hm.no n hh).1]at hx;cases x with
  | some x=>cases hx
  | none=>
   simp only[Instr.lookup,Sem.run_bind,run_underlying hu,Result.andThen_ok,Yf hb,Sem.run_pure,YZ hk,Yq hk hf,QGH hz];rw[(hm.no n hh).2,QNT hzz r];rfl
theorem QYw(hu:P.underlying t=some (.map kt et))(hb:bk w b=some (.map es.toArray cl))(hm:J5 r k' z has get es)(h:QGX P kt et k n k' z has get=some eff)(hp:eff.pre=true):
  (Instr.lookup t (.map (some b)) (.int k n) true).run P w = .ok (eff.val.den r) w/\eff.upd=[]:=by
 unfold QGX at h;split at h<;>(try (cases h;done))
 rename_i e0 h';simp only[qsI]at h;subst h;have hp:e0.pre=true:=hp;have h:=h';clear h';unfold QAO at h;split at h<;>(try (cases h;done))
 rename_i zz hk hkk hz;split at h<;>(try (cases h;done))
 rename_i hzz;have hkk:k=k':=by simpa using hkk
 subst hkk;simp only[qsI]at h;subst h;obtain⟨hv1,hv2⟩:=QRf hp r;refine⟨?_,rfl⟩;simp only[AV.den,AV.denL];rw[hv1];obtain⟨x,hf,hx⟩:=QA2 n 0 hm.keysI;cases hh:has n with
 | true=>
  rw[hm.yes n hh]at hx;cases x with
  | none=>cases hx
  | some x=>
   simp only[Option.map_some,qsI]at hx;simp only[Instr.lookup,Sem.run_bind,run_underlying hu,Result.andThen_ok,Yf hb,Sem.run_pure,YZ hk,Yq hk hf];rw[<-hx];rfl
 | false=>
  rw[(hm.no n hh).1]at hx;cases x with
  | some x=>cases hx
  | none=>
   simp only[Instr.lookup,Sem.run_bind,run_underlying hu,Result.andThen_ok,Yf hb,Sem.run_pure,YZ hk,Yq hk hf,QGH hz];rw[(hm.no n hh).2,QNT hzz r];rfl
theorem QZZ{id:Nat}(hu:P.underlying t=some (.map kt et))(hb:bk w b=some (.map es.toArray cl))(hm:J5 r k' z has get es)(h:QEs P kt id k n v k' z has get=some eff):
  ∃ es' cl',(Instr.mapUpdate t (.map (some b)) (.int k n) (v.den r)).run P w = .ok () (w.putObj b (.map es'.toArray cl'))/\J5 r k' z (Qc n true has) (KO n v get) es'/\eff=⟨true,true,.tup [],[(id,.mpf k' z (Qc n true has) (KO n v get))]⟩:=by
 unfold QEs at h;split at h<;>(try (cases h;done))
 rename_i hk hkk hv;have hkk:k=k':=by simpa using hkk
 subst hkk;simp only[qsI]at h;obtain⟨x,hf,hx⟩:=QA2 n 0 hm.keysI;cases x with
 | some x=>
  obtain⟨i,x⟩:=x;obtain⟨es',cl',h1,h2⟩:=QIh (id:=id) (k:=k) (n:=n) (v:=v) (P:=P) (kt:=kt) (cl:=cl) (eff:=⟨true,true,.tup [],[(id,.mp (Zy (.int k n) (jO v) es i) cl)]⟩) hu hb (by simp only[HN,hk,hv,hf]) r
  simp only[Eff.mk.injEq,List.cons.injEq,qpI,Blk.mp.injEq,true_and,and_true]at h2;obtain⟨rfl,rfl⟩:=h2;obtain⟨_,e,he,hek,_⟩:=Hr hf;exact⟨_,_,h1,hm.put hv (QcS hm.keysI (QR9 he hek)) (λm=>QNF m hm.keysI he hek),h.symm⟩
 | none=>
  obtain⟨es',cl',h1,h2⟩:=QIh (id:=id) (k:=k) (n:=n) (v:=v) (P:=P) (kt:=kt) (cl:=cl) (eff:=⟨true,true,.tup [],[(id,.mp (es++[{ key := .int k n,val:=jO v,born:=cl }]) (cl+1))]⟩) hu hb (by simp only[HN,hk,hv,hf]) r
  simp only[Eff.mk.injEq,List.cons.injEq,qpI,Blk.mp.injEq,true_and,and_true]at h2;obtain⟨rfl,rfl⟩:=h2;have hg0:Kw k n es=none:=by rw[<-hx];rfl
  have hK:Vk k (es++[{ key := .int k n,val:=jO v,born:=cl }]):=by
   refine⟨λe he=>?_,?_⟩
   .rcases List.mem_append.1 he with he|he
    .exact hm.keys e he
    .simp only[List.mem_singleton]at he;subst he;exact⟨n,rfl⟩
   .rw[List.map_append,List.map_cons,List.map_nil,List.nodup_append];refine⟨hm.once,by simp,λa ha b hb'=>?_⟩
    obtain⟨e,he,rfl⟩:=List.mem_map.1 ha;simp only[List.mem_singleton]at hb';subst hb';exact QR6 hm.keysI hg0 e he
  exact⟨_,_,h1,hm.put hv hK (λm=>QOz m hm.keysI hg0),h.symm⟩
theorem QgZ{tys:Array TypeId}{id:Nat}(hu:P.underlying t=some (.map kt et))(hb:bk w b=some (.map es.toArray cl))(ht:tys[0]? = some t)(hm:J5 r k' z has get es)(h:QGo P kt id k n k' z has get=some eff):
  ∃ es' cl',(Builtin.delete_ tys ty #[.map (some b),.int k n]).run P w = .ok (.tuple #[]) (w.putObj b (.map es'.toArray cl'))/\J5 r k' z (Qc n false has) (KO n z get) es'/\eff=⟨true,true,.tup [],[(id,.mpf k' z (Qc n false has) (KO n z get))]⟩:=by
 unfold QGo at h;split at h<;>(try (cases h;done))
 rename_i hk hkk;have hkk:k=k':=by simpa using hkk
 subst hkk;simp only[qsI]at h;obtain⟨x,hf,hx⟩:=QA2 n 0 hm.keysI;cases x with
 | some x=>
  obtain⟨i,x⟩:=x;obtain⟨es',cl',h1,h2⟩:=QIY (id:=id) (k:=k) (n:=n) (P:=P) (kt:=kt) (ty:=ty) (cl:=cl) (eff:=⟨true,true,.tup [],[(id,.mp (Yp es i) cl)]⟩) hu hb ht (by simp only[HU,hk,hf])
  simp only[Eff.mk.injEq,List.cons.injEq,qpI,Blk.mp.injEq,true_and,and_true]at h2;obtain⟨rfl,rfl⟩:=h2;obtain⟨_,e,he,hek,_⟩:=Hr hf;exact⟨_,_,h1,hm.del (QRO hm.keysI) (λm=>QPx m hm.keysI he hek),h.symm⟩
 | none=>
  obtain⟨es',cl',h1,h2⟩:=QIY (id:=id) (k:=k) (n:=n) (P:=P) (kt:=kt) (ty:=ty) (cl:=cl) (eff:=⟨true,true,.tup [],[(id,.mp es cl)]⟩) hu hb ht (by simp only[HU,hk,hf])
  simp only[Eff.mk.injEq,List.cons.injEq,qpI,Blk.mp.injEq,true_and,and_true]at h2;obtain⟨rfl,rfl⟩:=h2;have hg0:Kw k n es=none:=by rw[<-hx];rfl
  refine⟨_,_,h1,hm.del hm.keysI (λm=>?_),h.symm⟩
  by_cases e:m=n
  .rw[if_pos e,e];exact hg0
  .rw[if_neg e]
theorem JA.zero{id:Nat}{z n:Nat}{g:Nat->List AV}(h:JA r id w ty z n g)(hn:(r id).nil=true):n=0:=h.2.2.2.1 hn
theorem QSS{lk:Nat->Option Blk}{nid id cl:Nat}{has0:Int->Bool}{get0:Int->AV}{es0:List MapEntry}{cl0:Nat}(hid:inR nid id=false)(hlk:lk id=some (.mpf k z has0 get0))(hb:bk w (r id).blk=some (.map es0.toArray cl0))(hm:J5 r k z has get es):Qx lk r nid [(id,.mpf k z has get)] w r (w.putObj (r id).blk (.map es.toArray cl)):=
 Qx.same1 hid hlk rfl (λ_ h=>h) ⟨es,cl,QQ8 hb,hm⟩ (QLX w _ _)
theorem QWO{v:Value}{k:CK}(h:QHv v=some k)(r:Nat->Loc):v=(mkC k 0).den r:=by
 unfold QHv at h;split at h<;>(try (cases h;done))
 .split at h<;>(try (cases h;done))
  rename_i n hn;have:=qdt hn;subst this;simp only[qsI]at h;subst h;rfl
 .split at h<;>(try (cases h;done))
  simp only[qsI]at h;subst h;rfl
theorem Qb5{l:List Value}{ks:List CK}(h:HJ l=some ks)(r:Nat->Loc)(j:Nat):l=AV.denL r (cellsOf ks j λ_=>0):=by
 induction l generalizing ks j with
 | nil=>simp only[HJ,qsI]at h;subst h;rfl
 | cons v l ih=>
  unfold HJ at h;split at h<;>(try (cases h;done))
  rename_i k ks' h1 h2;simp only[qsI]at h;subst h;rw[cellsOf,AV.denL,<-QWO h1 r,<-ih h2 (j+1)]
theorem QQp(z:List AV):∀ n,rep n z=Kj n λ_=>z
 | 0=>rfl
 | n+1=>by
  rw[rep,QQp z n];simp only[Kj,List.map_const',List.length_range,List.replicate_succ]
theorem QT9{c c':AV}{nid:Nat}(h:QFa P t c c' nid=some eff)(hp:eff.pre=true)(lk:Nat->Option Blk)(r:Nat->Loc)(w:World):
  ∃ r' w',(Instr.makeSlice t (c.den r) (c'.den r)).run P w = .ok (eff.val.den r') w'/\Qx lk r nid eff.upd w r' w':=by
 unfold QFa at h;split at h<;>(try (cases h;done))
 rename_i e c1 k1 n c2 k2 n' hu;split at h<;>(try (cases h;done))
 rename_i i hi;split at h<;>(try (cases h;done))
 rename_i z hz;split at h<;>(try (cases h;done))
 rename_i ks hks;split at h<;>(try (cases h;done))
 rename_i hsz hby
 simp only[qsI]at h;subst h;have hsz:i.size=ks.length:=qnb hsz;have hby:i.bytes<=4096:=Nat.le_of_ble_eq_true hby
 simp only[qbA]at hp;have e1:=qdt hp.1;obtain⟨h0,h1⟩:=qdt hp.2;subst e1;obtain⟨m,rfl⟩:∃ m:Nat,n=m:=⟨n.toNat,by omega⟩
 have hm:m<=17179869184:=by omega
 have hb:i.bytes*m<=281474976710656:=Nat.le_trans (Nat.mul_le_mul hby hm) (by decide)
 have hb':(i.bytes:Int)*(m:Int)<=281474976710656:=by
  have:=(Int.ofNat_le (m:=i.bytes*m) (n:=281474976710656)).2 hb
  rwa [Int.natCast_mul]at this
 have hr:=run_make (P:=P) w t e i z hu hi hz k1 k2 m m h0 (Int.le_refl _) hb' (by omega)
 simp only[Int.toNat_natCast]at hr;let l:Loc:=⟨w.heap.size,0,ks.length,m,false,none,λk=>k=w.heap.size⟩;refine⟨Qs r nid l,_,?_,Qx.new1 (l:=l) (o := .cells (madeCells z.cells (m*i.size)) e) rfl (λ_ h=>h) ?_⟩
 .simp only[AV.den]at hr ⊢;rw[hr];simp[Qs,l,Loc.base,Loc.room,Cap.den]
 .simp only[QR,JA,Qs,if_true,l];refine⟨trivial,trivial,λk=>by simp,λh=>by simp at h,λj hj=>⟨ZB _ _ _,Vu _ _ _⟩,λ_=>⟨by simp,[],by simp,?_⟩⟩
  rw[vQ,if_pos rfl];have hz':=QLM (Qs r nid l) z (cellsOf ks 0 λ_=>0) (by rw[<-Qb5 hks]) m
  rw[ZB]at hz';simp only[madeCells,hsz,Int.toNat_natCast];rw[hz',List.append_nil,QQp];rfl
theorem QVA{o:Oper}{ev:Operand->AV}{nid:Nat}{a:Act}{look:Nat->Option Blk}{blks:List Blk}(hH:HOk r w nid look){ids:List Nat}{g:List Blk->Option Eff}(hV:QA5 P o.op ev nid=some (ids,g))(hv:ids.map look=blks.map some)(he:g blks=some eff)(hp:eff.pre=true)(hρ:∀ x∈o.op.operands,a.eval x=(ev x).den r){K:Act->World->Prop}{Q:Exit->Act->World->Prop}(k:∀ r' w',Qx look r nid eff.upd w r' w'->K (a.put o.dst (eff.val.den r')) w'):o.wp P a w K Q:=by
 have KV:∀{s:Sem Value} {v:Value} {w':World},s.run P w = .ok v w'->(do pure (.value (<-s)):Sem Next).run P w = .ok (.value v) w':=by
  intro s v w' hs;rw[Sem.run_bind,hs];rfl
 have KU:∀{s:Sem Unit} {w':World},s.run P w = .ok () w'->(do s;pure .skip:Sem Next).run P w = .ok .skip w':=by
  intro s w' hs;rw[Sem.run_bind,hs];rfl
 have one:∀{id:Nat},[id].map look=blks.map some->∃ b,blks=[b]/\look id=some b:=by
  intro id h;obtain⟨b,rfl⟩:=zb h;simp only[List.map_cons,List.map_nil,List.cons.injEq,and_true]at h;exact⟨b,rfl,h⟩
 unfold QA5 at hV;split at hV<;>(try (cases hV;done))<;>rename_i ho
 .rename_i t;simp only[qsI,qpI]at hV;obtain⟨rfl,rfl⟩:=hV;simp only[qsI]at he;subst he
  have hb:QR (Qs r nid (Loc.of w.heap.size 0 0 0)) nid (w.alloc (.map #[] 0)) (.mp [] 0):=by
   simp only[QR,Qs,if_true];show bk _ w.heap.size=_;rw[vQ,if_pos rfl]
  refine VM (w':=w.alloc (.map #[] 0)) (v := .map (some w.heap.size)) ?_ ?_
  .unfold execOp;simp only[ho];exact KV rfl
  .have:=k _ _ (Qx.new1 (r:=r) rfl (λ_ h=>h) hb);simpa[AV.den,Qs,Loc.of]using this
 .rename_i t l c;have hl:=hρ l (by rw[ho];simp[Op.operands])
  have hc:=hρ c (by rw[ho];simp[Op.operands])
  simp only[qsI,qpI]at hV;obtain⟨rfl,rfl⟩:=hV;obtain⟨r',w',h1,h2⟩:=QT9 he hp look r w;refine VM (w':=w') (v:=eff.val.den r') ?_ (k _ _ h2);unfold execOp;simp only[ho];rw[hl,hc];exact KV h1
 .rename_i t x ix;have hx:=hρ x (by rw[ho];simp[Op.operands])
  have hix:=hρ ix (by rw[ho];simp[Op.operands])
  split at hV<;>(try (cases hV;done))
  rename_i kt et id c kk n hu hex hei;simp only[qsI,qpI]at hV;obtain⟨rfl,rfl⟩:=hV;obtain⟨b,rfl,hb⟩:=one hv
  have fin:(Instr.lookup t (.map (some (r id).blk)) (.int kk n) false).run P w = .ok (eff.val.den r) w/\eff.upd=[]->o.wp P a w K Q:=by
   rintro⟨h1,h2⟩;refine VM (w':=w) (v:=eff.val.den r) ?_ (k r w (by rw[h2];exact Qx.id look r nid w))
   unfold execOp;simp only[ho];rw[hx,hix,hex,hei];exact KV h1
  cases b<;>(try (cases he;done))
  .exact fin (Qbm hu (hH.rep id _ hb) he r)
  .obtain⟨es,cl,hbk,hm⟩:=hH.rep id _ hb;exact fin (Qcf hu hbk hm he hp)
 .rename_i t x ix;have hx:=hρ x (by rw[ho];simp[Op.operands])
  have hix:=hρ ix (by rw[ho];simp[Op.operands])
  split at hV<;>(try (cases hV;done))
  rename_i kt et id c kk n hu hex hei;simp only[qsI,qpI]at hV;obtain⟨rfl,rfl⟩:=hV;obtain⟨b,rfl,hb⟩:=one hv
  have fin:(Instr.lookup t (.map (some (r id).blk)) (.int kk n) true).run P w = .ok (eff.val.den r) w/\eff.upd=[]->o.wp P a w K Q:=by
   rintro⟨h1,h2⟩;refine VM (w':=w) (v:=eff.val.den r) ?_ (k r w (by rw[h2];exact Qx.id look r nid w))
   unfold execOp;simp only[ho];rw[hx,hix,hex,hei];exact KV h1
  cases b<;>(try (cases he;done))
  obtain⟨es,cl,hbk,hm⟩:=hH.rep id _ hb;exact fin (QYw hu hbk hm he hp)
 .rename_i t m x v;have hm:=hρ m (by rw[ho];simp[Op.operands])
  have hx:=hρ x (by rw[ho];simp[Op.operands])
  have hvv:=hρ v (by rw[ho];simp[Op.operands])
  split at hV<;>(try (cases hV;done))
  rename_i kt et id c kk n hu hem hex;simp only[qsI,qpI]at hV;obtain⟨rfl,rfl⟩:=hV;obtain⟨b,rfl,hb⟩:=one hv;cases b<;>(try (cases he;done))
  .obtain⟨es',cl',h1,rfl⟩:=QIh hu (hH.rep id _ hb) he r;refine QCk (w':=w.putObj (r id).blk (.map es'.toArray cl')) ?_ (k r _ (QOy (hH.out id _ hb) hb (hH.rep id _ hb)));unfold execOp;simp only[ho];rw[hm,hx,hvv,hem,hex];exact KU h1
  .obtain⟨es,cl,hbk,hmi⟩:=hH.rep id _ hb;simp only[jY]at he;obtain⟨es',cl',h1,h2,rfl⟩:=QZZ hu hbk hmi he;refine QCk (w':=w.putObj (r id).blk (.map es'.toArray cl')) ?_ (k r _ (QSS (hH.out id _ hb) hb hbk h2));unfold execOp;simp only[ho];rw[hm,hx,hvv,hem,hex];exact KU h1
 .rename_i args ts;split at hV<;>(try (cases hV;done))
  rename_i m x t t' hargs hts;have hargs':args = #[m,x]:=by apply Array.ext';simpa using hargs
  have hts':ts = #[t,t']:=by apply Array.ext';simpa using hts
  subst hargs' hts';have hm:=hρ m (by rw[ho];simp[Op.operands,Call.operands])
  have hx:=hρ x (by rw[ho];simp[Op.operands,Call.operands])
  split at hV<;>(try (cases hV;done))
  rename_i kt et id c kk n hu hem hex;simp only[qsI,qpI]at hV;obtain⟨rfl,rfl⟩:=hV;obtain⟨b,rfl,hb⟩:=one hv;cases b<;>(try (cases he;done))
  .obtain⟨es',cl',h1,rfl⟩:=QIY (ty:=o.type) (tys := #[t,t']) hu (hH.rep id _ hb) rfl he;refine VM (w':=w.putObj (r id).blk (.map es'.toArray cl')) (v := .tuple #[]) ?_ (k r _ (QOy (hH.out id _ hb) hb (hH.rep id _ hb)));unfold execOp;simp only[ho];simp[resolve,invoke,builtin,hm,hx,hem,hex,AV.den,h1,Result.andThen]
  .obtain⟨es,cl,hbk,hmi⟩:=hH.rep id _ hb;obtain⟨es',cl',h1,h2,rfl⟩:=QgZ (ty:=o.type) (tys := #[t,t']) hu hbk rfl hmi he;refine VM (w':=w.putObj (r id).blk (.map es'.toArray cl')) (v := .tuple #[]) ?_ (k r _ (QSS (hH.out id _ hb) hb hbk h2));unfold execOp;simp only[ho];simp[resolve,invoke,builtin,hm,hx,hem,hex,AV.den,h1,Result.andThen]
 .rename_i t x y c;have hx:=hρ x (by rw[ho];simp[Op.operands])
  have hy:=hρ y (by rw[ho];simp[Op.operands])
  split at hV<;>(try (cases hV;done))
  rename_i elem id e len cp hu hex hey;simp only[qsI,qpI]at hV;obtain⟨rfl,rfl⟩:=hV;obtain⟨b,rfl,hb⟩:=one hv;simp only at he;split at he<;>(try (cases he;done))
  rename_i n hn;simp only[qsI]at he;subst he;obtain⟨h1,h2⟩:=qdt hp;have hrep:=hH.rep id _ hb
  have hnil:(r id).nil=false:=by
   cases hh:(r id).nil with
   | false=>rfl
   | true=>
    exfalso;cases b<;>simp only[QOm]at hn<;>(try (cases hn;done))<;>simp only[qsI]at hn<;>subst hn
    .have:=JA.zero hrep hh;omega
    .have:=hrep.2.2.1 hh;omega
  have hden:(AV.slz id e len cp).den r=(AV.slice true id e len cp).den r:=by
   simp only[AV.den,Loc.base,Loc.room,hnil]
  refine VM (w':=w) (v := .bool false) ?_ (k r w (Qx.id look r nid w));have:=QM6 (P:=P) (op := .eql) (t:=t) (xo:=x) (yo:=y) (x := .slice true id e len cp) (y := .nils) (e:=⟨true,true,.bool true false⟩) (by simp[QDQ,QAc,eqA,hu,okE]) rfl r w
  unfold execOp;simp only[ho];rw[hx,hy,hex,hey,hden];exact KV this
