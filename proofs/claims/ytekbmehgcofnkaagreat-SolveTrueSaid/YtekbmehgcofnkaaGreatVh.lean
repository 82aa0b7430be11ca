/- - -/
import Derived.Test.YtekbmehgcofnkaaGreatVg
namespace Go.SX
open Go Go.RowKit Go.Proofs.YtekbmehgcofnkaaGreat Told
def QKj(v:AV):Value:=v.den λ_=>Loc.none 0
variable {v:AV}{β:Type}{P:Program}{kt t et:TypeId}{k:IntKind}{n:Int}{es:List MapEntry}{w:World}{b cl nid bm:Nat}{eff:Eff}{r:Nat->Loc}{ev:Operand->AV}{a:Act}{look:Nat->Option Blk}{blks:List Blk}{ids:List Nat}{g:List Blk->Option Eff}{K:Act->World->Prop}{Q:Exit->Act->World->Prop}
theorem QSl(h:v.all (λ_=>false)=true)(r:Nat->Loc):v.den r=QKj v:=XT (p:=λ_=>false) (λ_ hf=>by cases hf) v h
def GH(P:Program)(kt:TypeId)(k:IntKind):Bool:=match P.underlying kt with
 | some (.int k')=>k==k'
 | _=>false
def jq(k:IntKind)(n:Int):List MapEntry->Nat->Option (Option (Nat×Value))
 | [],_=>some none
 | e::es,i=>match e.key with
  | .int k' m=>match k==k' with
   | true=>(match decide (n=m)with|true=>some (some (i,e.val))|false=>jq k n es (i+1))
   | false=>none
  | _=>none
def QKz(key val:Value):List MapEntry->Nat->List MapEntry
 | [],_=>[]
 | e::es,0=>{ e with key,val }::es
 | e::es,i+1=>e::QKz key val es i
def QHA(P:Program)(kt:TypeId)(id:Nat)(k:IntKind)(n:Int)(v:AV)(es:List MapEntry)(cl:Nat):Option Eff:=match GH P kt k,v.all (λ_=>false),jq k n es 0 with
 | true,true,some (some (i,_))=>some ⟨true,true,.tup [],[(id,.mp (QKz (.int k n) (QKj v) es i) cl)]⟩
 | true,true,some none=>some ⟨true,true,.tup [],[(id,.mp (es++[{ key := .int k n,val:=QKj v,born:=cl }]) (cl+1))]⟩
 | _,_,_=>none
def Vz{β:Type}(f:AV->(AV->β)->β):List AV->(List AV->β)->β
 | [],k=>k []
 | v::l,k=>f v λv'=>Vz f l λl'=>k (v'::l')
def Xk{β:Type}:Nat->AV->(AV->β)->β
 | 0,v,k=>k v
 | n+1,v,k=>match v with
  | .int c i x=>(match c with|true=>k (.int true i x)|false=>k (.int false i x))
  | .bool c x=>(match c with|true=>k (.bool true x)|false=>k (.bool false x))
  | .fn f l=>Vz (Xk n) l λl'=>k (.fn f l')
  | .mth f l=>Vz (Xk n) l λl'=>k (.mth f l')
  | .alt b v w=>Xk n v λv'=>Xk n w λw'=>k (.alt b v' w')
  | .ifc t v=>Xk n v λv'=>k (.ifc t v')
  | .agg l=>Vz (Xk n) l λl'=>k (.agg l')
  | .tup l=>Vz (Xk n) l λl'=>k (.tup l')
  | .opt b v=>Xk n v λv'=>k (.opt b v')
  | .ptr a b c=>k (.ptr a b c)
  | .slice a b c d e=>k (.slice a b c d e)
  | .slz a b c d=>k (.slz a b c d)
  | .map a=>k (.map a)
  | .yld a=>k (.yld a)
  | .addr a=>k (.addr a)
  | .nilp=>k .nilp
  | .nils=>k .nils
  | .nilm=>k .nilm
  | .nilf=>k .nilf
  | .nili=>k .nili
  | .str s=>k (.str s)
  | .raw v=>k (.raw v)
def XN(m:Nat)(k:Nat->β):β:=match m with
 | 0=>k 0
 | j+1=>k (Nat.succ j)
def QKa(n:Int)(k:Int->β):β:=match n with
 | .ofNat m=>XN m λm=>k (.ofNat m)
 | .negSucc m=>XN m λm=>k (.negSucc m)
def QIq(c:Cap)(k:Cap->β):β:=match c with
 | .lit n=>XN n λn=>k (.lit n)
 | .of n=>XN n λn=>k (.of n)
def ZM{β:Type}:Nat->AV->(AV->β)->β
 | 0,v,k=>k v
 | n+1,v,k=>match v with
  | .int c i x=>(match c with|true=>QKa x λx=>k (.int true i x)|false=>k (.int false i x))
  | .bool c x=>(match c with|true=>(match x with|true=>k (.bool true true)|false=>k (.bool true false))|false=>k (.bool false x))
  | .fn f l=>Vz (ZM n) l λl'=>k (.fn f l')
  | .mth f l=>Vz (ZM n) l λl'=>k (.mth f l')
  | .alt b v w=>ZM n v λv'=>ZM n w λw'=>k (.alt b v' w')
  | .ifc t v=>ZM n v λv'=>k (.ifc t v')
  | .agg l=>Vz (ZM n) l λl'=>k (.agg l')
  | .tup l=>Vz (ZM n) l λl'=>k (.tup l')
  | .opt b v=>ZM n v λv'=>k (.opt b v')
  | .ptr a b c=>XN a λa=>XN b λb=>XN c λc=>k (.ptr a b c)
  | .slice a b c d e=>XN b λb=>XN c λc=>XN d λd=>QIq e λe=>(match a with|true=>k (.slice true b c d e)|false=>k (.slice false b c d e))
  | .slz a b c d=>k (.slz a b c d)
  | .map a=>XN a λa=>k (.map a)
  | .yld a=>XN a λa=>k (.yld a)
  | .addr a=>k (.addr a)
  | .nilp=>k .nilp
  | .nils=>k .nils
  | .nilm=>k .nilm
  | .nilf=>k .nilf
  | .nili=>k .nili
  | .str s=>k (.str s)
  | .raw v=>k (.raw v)
def QDZ{β:Type}:List (Nat×Blk)->(List (Nat×Blk)->β)->β
 | [],k=>k []
 | (i,b)::h,k=>XN i λi'=>QDZ h λh'=>k ((i',b)::h')
def QCa(v:AV)(k:AV->β):β:=match v with
 | .agg l=>k (.agg l)
 | .tup l=>k (.tup l)
 | v=>ZM 1 v k
def QO9(l:List AV)(k:List AV->β):β:=Vz QCa l k
def QAX{α:Type}(on:Bool)(f:α->(α->β)->β)(x:α)(k:α->β):β:=match on with
 | false=>k x
 | true=>f x k
theorem WO{β:Type}{f:AV->(AV->β)->β}(hf:∀ v k,f v k=k v):∀(l:List AV) (k:List AV->β),Vz f l k=k l
 | [],_=>rfl
 | v::l,k=>by rw[Vz,hf,WO hf l]
theorem qG{β:Type}:∀(n:Nat) (v:AV) (k:AV->β),Xk n v k=k v
 | 0,_,_=>rfl
 | n+1,v,k=>by
  cases v<;>simp only[Xk,qG n,WO (qG n)]
  .rename_i c i x;cases c<;>rfl
  .rename_i c x;cases c<;>rfl
theorem QBz(m:Nat)(k:Nat->β):XN m k=k m:=by cases m<;>rfl
theorem Qb5(n:Int)(k:Int->β):QKa n k=k n:=by cases n<;>simp only[QKa,QBz]
theorem QYA(c:Cap)(k:Cap->β):QIq c k=k c:=by cases c<;>simp only[QIq,QBz]
theorem QKn{β:Type}:∀(n:Nat) (v:AV) (k:AV->β),ZM n v k=k v
 | 0,_,_=>rfl
 | n+1,v,k=>by
  cases v<;>simp only[ZM,QKn n,WO (QKn n),QBz,Qb5,QYA]
  .rename_i c i x;cases c<;>rfl
  .rename_i c x;cases c<;>cases x<;>rfl
  .rename_i a b c d e;cases a<;>rfl
theorem QQk{β:Type}:∀(l:List (Nat×Blk)) (k:List (Nat×Blk)->β),QDZ l k=k l
 | [],_=>rfl
 | (i,b)::h,k=>by rw[QDZ,QBz,QQk h]
theorem QDA(v:AV)(k:AV->β):QCa v k=k v:=by
 cases v<;>simp only[QCa,QKn]
theorem Qbs(l:List AV)(k:List AV->β):QO9 l k=k l:=WO QDA l k
theorem HP{α:Type}{f:α->(α->β)->β}(hf:∀ x k,f x k=k x)(on:Bool)(x:α)(k:α->β):QAX on f x k=k x:=by
 cases on with
 | false=>rfl
 | true=>exact hf x k
def QCj:Blk->Option Nat
 | .rowz _ _ _ n _=>some n
 | .frz _ n _=>some n
 | _=>none
def QIN:Value->Option CK
 | .int k n=>(match decide (n=0)with|true=>some (.int k)|false=>none)
 | .bool b=>(match b with|true=>none|false=>some .bool)
 | _=>none
def G1:List Value->Option (List CK)
 | []=>some []
 | v::l=>match QIN v,G1 l with
  | some k,some ks=>some (k::ks)
  | _,_=>none
def QIe(P:Program)(t:TypeId)(c c':AV)(nid:Nat):Option Eff:=match P.underlying t,c,c' with
 | some (.slice e),.int _ _ n,.int _ _ n'=>(match P.info? e with
  | some i=>(match i.zero with
   | some z=>(match G1 z.cells.toList with
    | some ks=>(match Nat.beq i.size ks.length,Nat.ble i.bytes 4096 with
     | true,true=>some ⟨false,decide (n=n')&&decide (0<=n/\n<=17179869184),.slz nid 0 n.toNat (.of 0),[(nid,.rowz true e ks n.toNat λ_ _=>0)]⟩
     | _,_=>none)
    | none=>none)
   | none=>none)
  | none=>none)
 | _,_,_=>none
def QIC(P:Program)(kt et:TypeId)(l:List AV)(es:List MapEntry):Option Eff:=match ZR P kt,l,(P.info? et).bind (·.zero)with
 | true,[.int _ .i64 a,.int _ .i64 b,.int _ .i64 c,.int _ .i64 d],some (.int kz z)=>(match decide (z=0)with
  | true=>some ⟨false,wf4 kz es,.int false kz (Kc es [a,b,c,d]),[]⟩
  | false=>none)
 | _,_,_=>none
def QJh(P:Program)(kt:TypeId)(id:Nat)(l:List AV)(v:AV)(es:List MapEntry)(cl:Nat):Option Eff:=match ZR P kt,l,v with
 | true,[.int _ .i64 a,.int _ .i64 b,.int _ .i64 c,.int _ .i64 d],.int _ kz n=>some ⟨false,wf4 kz es,.tup [],[(id,.mp (JZ [a,b,c,d] (Kd a b c d) (.int kz n) cl es) (clL [a,b,c,d] cl es))]⟩
 | _,_,_=>none
def QE4(P:Program)(t:TypeId)(m m' j:Nat)(seen:List Nat)(last:Nat)(es:List MapEntry)(cl:Nat):Option Eff:=match Nat.beq m m',Nat.beq j 0,P.underlying t with
 | true,true,some (.map kt et)=>(match (P.info? et).bind (·.zero),QK3 P kt (QL es seen)with
  | some (.int kz _),some ka=>some ⟨false,(decide (last=cl)&&YW es seen)&&wfA P kt kz es,.tup [ka,.int false kz (intV (QL es seen).val)],[]⟩
  | _,_=>none)
 | _,_,_=>none
def zB(e n:Nat)(g:Nat->Nat->Int):Nat->Nat->Int:=λi=>cond (decide (e<=i/\i<e+n)) (λ_=>0) (g i)
def QId(P:Program)(el:TypeId)(id e n:Nat)(ty:TypeId)(ks:List CK)(m:Nat)(g:Nat->Nat->Int):Option Eff:=match (P.info? el).bind (·.zero)with
 | some z=>(match G1 z.cells.toList with
  | some ks'=>(match ksB ks' ks with
   | true=>some ⟨false,decide (e+n<=m/\0<m),.tup [],[(id,.rowz true ty ks m (zB e n g))]⟩
   | false=>none)
  | none=>none)
 | none=>none
def QCA(P:Program)(op:Op)(ev:Operand->AV)(nid:Nat):Option jf:=match op with
 | .makeMap _ none=>some ([],λ_=>some ⟨true,true,.map nid,[(nid,.mp [] 0)]⟩)
 | .makeSlice t l c=>some ([],λ_=>QIe P t (ev l) (ev c) nid)
 | .range t x=>match P.underlying t,ev x with
  | some (.map _ _),.map id=>some ([id],λ|[.mp _ cl]=>some ⟨true,true,.ptr nid id 0,[(nid,.itm [.map id] t cl [] cl)]⟩|_=>none)
  | _,_=>none
 | .entry x=>match ev x with
  | .ptr id m j=>some ([id,m],λ|[.itm [.map m'] t _ seen last,.mp es cl]=>QE4 P t m m' j seen last es cl|_=>none)
  | _=>none
 | .lookup t x ix false=>match P.underlying t,ev x,ev ix with
  | some (.map kt et),.map id,.agg l=>some ([id],λ|[.mp es _]=>QIC P kt et l es|_=>none)
  | _,_,_=>none
 | .mapUpdate t m x v=>match P.underlying t,ev m,ev x with
  | some (.map kt _),.map id,.agg l=>some ([id],λ|[.mp es cl]=>QJh P kt id l (ev v) es cl|_=>none)
  | _,_,_=>none
 | .insert t m x v=>match P.underlying t,ev m,ev x with
  | some (.map kt _),.map id,.int _ k n=>some ([id],λ|[.mp es cl]=>QHA P kt id k n (ev v) es cl|_=>none)
  | _,_,_=>none
 | .call ⟨.builtin .clear,args,ts⟩=>match args.toList,ts.toList with
  | [x],[t]=>match P.underlying t,ev x with
   | some (.slice el),.slz id e n _=>some ([id],λ|[.rowz true ty ks m g]=>QId P el id e n ty ks m g|_=>none)
   | _,_=>none
  | _,_=>none
 | .binOp .eql t x y _=>match P.underlying t,ev x,ev y with
  | some (.slice _),.slz id _ len _,.nils=>some ([id],fun
   | [b]=>(match QCj b with
    | some n=>some ⟨false,decide (0<len/\len<=n),.bool true false,[]⟩
    | none=>none)
   | _=>none)
  | _,_,_=>none
 | _=>none
theorem QMd{k:IntKind}{n:Int}:∀{es:List MapEntry} {i:Nat} {x:Option (Nat×Value)},jq k n es i=some x->Instr.findNow (.int k) (.int k n) es i=some x
 | [],i,x,h=>h
 | e::es,i,x,h=>by
  simp only[jq]at h;split at h<;>(try (cases h;done))
  rename_i k' m he;split at h<;>(try (cases h;done))
  rename_i hk;have hk:k=k':=by simpa using hk
  subst hk;simp only[Instr.findNow,he,Instr.sameNow,if_true]
  by_cases hm:n=m
  .subst hm;simp only[decide_true]at h;simp only[beq_self_eq_true];exact h
  .simp only[hm,decide_false]at h;have:(n==m)=false:=by simpa using hm
   simp only[this];exact QMd h
theorem QVd(h:GH P kt k=true):P.underlying kt=some (.int k):=by
 unfold GH at h;split at h<;>(try (cases h;done))
 rename_i k' hu;have:k=k':=by simpa using h
 subst this;exact hu
theorem QNc{x:Option (Nat×Value)}(hk:GH P kt k=true)(h:jq k n es 0=some x)(w:World):
  (Instr.findKey kt (.int k n) es).run P w = .ok x w:=by
 simp only[Instr.findKey,Sem.run_bind,run_underlying (QVd hk),Result.andThen_ok,QMd h,Sem.run_pure]
theorem Qak(hk:GH P kt k=true)(b:Bool)(m:Nat)(w:World):(Instr.checkKey b (m+1) kt (.int k n)).run P w = .ok () w:=by
 rw[Instr.checkKey,Sem.run_bind,run_underlying (QVd hk)];rfl
theorem QNB(hk:GH P kt k=true)(b:Bool)(w:World):(Instr.checkKey b 10000 kt (.int k n)).run P w = .ok () w:=Qak hk b 9999 w
theorem QUh{es:Array MapEntry}(h:bk w b=some (.map es cl)):(getObj b).run P w = .ok (.map es cl) w:=by
 unfold bk at h;simp[getObj,Sem.run,h]
theorem QRm{es:Array MapEntry}{o':Obj}(h:bk w b=some (.map es cl)):(setObj b o').run P w = .ok () (w.putObj b o'):=by
 unfold bk at h;simp[setObj,Sem.run,h,World.putObj]
theorem QjL{z:Value}(h:(P.info? t).bind (·.zero)=some z)(w:World):(zeroValue t).run P w = .ok z w:=by
 cases hi:P.info? t with
 | none=>simp[hi]at h
 | some i=>
  simp only[hi,Option.bind_some]at h;simp[zeroValue,typeInfo,hi,h,Sem.run_bind]
theorem QNw{k:IntKind}{n:Int}:∀{es:List MapEntry} {i j:Nat} {v:Value},jq k n es i=some (some (j,v))->i<=j/\∃ e,es[j-i]? = some e/\e.key = .int k n/\e.val=v
 | [],i,j,v,h=>by simp[jq]at h
 | e::es,i,j,v,h=>by
  simp only[jq]at h;split at h<;>(try (cases h;done))
  rename_i k' m he;split at h<;>(try (cases h;done))
  rename_i hk;have hk:k=k':=by simpa using hk
  subst hk
  by_cases hm:n=m
  .subst hm;simp only[decide_true,qsI,qpI]at h;obtain⟨rfl,rfl⟩:=h;exact⟨qlr _,e,by simp,he,rfl⟩
  .simp only[hm,decide_false]at h;obtain⟨h1,e',h2,h3⟩:=QNw h;exact⟨by omega,e',by rw[show j-i=(j-(i+1))+1 by omega];simpa using h2,h3⟩
theorem QMx(key val:Value):∀(es:List MapEntry) (i:Nat),es.modify i (λe=>{ e with key,val })=QKz key val es i
 | [],i=>by cases i<;>rfl
 | e::es,0=>rfl
 | e::es,i+1=>by rw[List.modify_succ_cons,QMx key val es i];rfl
theorem QP2(w:World)(b:Nat)(o:Obj):Fr w (w.putObj b o) (λk=>k=b):=by
 refine⟨rfl,rfl,rfl,by simp[World.putObj],qlr _,λk _ hk=>?_⟩
 unfold bk;exact World.putObj_heap_other hk
theorem QSZ{o o':Obj}(h:bk w b=some o):bk (w.putObj b o') b=some o':=by
 unfold bk;exact World.putObj_heap_same (Yx h)
theorem QaS{id:Nat}(hu:P.underlying t=some (.map kt et))(hb:bk w b=some (.map es.toArray cl))(h:QHA P kt id k n v es cl=some eff)(r:Nat->Loc):
  ∃ es' cl',(Instr.mapUpdate t (.map (some b)) (.int k n) (v.den r)).run P w = .ok () (w.putObj b (.map es'.toArray cl'))/\eff=⟨true,true,.tup [],[(id,.mp es' cl')]⟩:=by
 unfold QHA at h;split at h<;>(try (cases h;done))
 .rename_i i x hk hv hf;simp only[qsI]at h;obtain⟨_,e,he,hek,_⟩:=QNw hf;refine⟨_,_,?_,h.symm⟩
  have hkey:((es.toArray[i]?).map (·.key)).getD (.int k n) = .int k n:=by
   rw[List.getElem?_toArray];simp only[Nat.sub_zero]at he;rw[he];simpa using hek
  have hst:(Instr.keyThatStays (.int k n) (.int k n)).run P w = .ok (.int k n) w:=by
   simp[Instr.keyThatStays,Instr.sameBits]
  simp only[Instr.mapUpdate,Sem.run_bind,run_underlying hu,Result.andThen_ok,QUh hb,QNB hk,QNc hk hf,hkey,hst,QSl hv r];rw[QRm hb];congr 2;rw[List.modify_toArray,QMx]
 .rename_i hk hv hf;simp only[qsI]at h;refine⟨_,_,?_,h.symm⟩;simp only[Instr.mapUpdate,Sem.run_bind,run_underlying hu,Result.andThen_ok,QUh hb,QNB hk,QNc hk hf,QSl hv r];rw[QRm hb];simp
theorem QOe{lk:Nat->Option Blk}{nid id cl:Nat}{es0:List MapEntry}{cl0:Nat}(hid:inR nid id=false)(hlk:lk id=some (.mp es0 cl0))(hb:bk w (r id).blk=some (.map es0.toArray cl0)):Qv lk r nid [(id,.mp es cl)] w r (w.putObj (r id).blk (.map es.toArray cl)):=
 Qv.same1 hid hlk rfl (λ_ h=>h) (QSZ hb) (QP2 w _ _)
theorem Kl.zero{id:Nat}{ty:TypeId}{z n:Nat}{g:Nat->List AV}(h:Kl r id w ty z n g)(hn:(r id).nil=true):n=0:=h.2.2.2.1 hn
theorem QXr{v:Value}{k:CK}(h:QIN v=some k)(r:Nat->Loc):v=(mkC k 0).den r:=by
 unfold QIN at h;split at h<;>(try (cases h;done))
 .split at h<;>(try (cases h;done))
  rename_i n hn;have:=qdt hn;subst this;simp only[qsI]at h;subst h;rfl
 .split at h<;>(try (cases h;done))
  simp only[qsI]at h;subst h;rfl
theorem QRo{l:List Value}{ks:List CK}(h:G1 l=some ks)(r:Nat->Loc)(j:Nat):l=AV.denL r (cellsOf ks j λ_=>0):=by
 induction l generalizing ks j with
 | nil=>simp only[G1,qsI]at h;subst h;rfl
 | cons v l ih=>
  unfold G1 at h;split at h<;>(try (cases h;done))
  rename_i k ks' h1 h2;simp only[qsI]at h;subst h;rw[cellsOf,AV.denL,<-QXr h1 r,<-ih h2 (j+1)]
theorem QLR(z:List AV):∀ n,rep n z=Q9 n λ_=>z
 | 0=>rfl
 | n+1=>by
  rw[rep,QLR z n];simp only[Q9,List.map_const',List.length_range,List.replicate_succ]
theorem QeM{c c':AV}(h:QIe P t c c' nid=some eff)(hp:eff.pre=true)(lk:Nat->Option Blk)(r:Nat->Loc)(w:World):
  ∃ r' w',(Instr.makeSlice t (c.den r) (c'.den r)).run P w = .ok (eff.val.den r') w'/\Qv lk r nid eff.upd w r' w':=by
 unfold QIe at h;split at h<;>(try (cases h;done))
 rename_i e c1 k1 n c2 k2 n' hu;split at h<;>(try (cases h;done))
 rename_i i hi;split at h<;>(try (cases h;done))
 rename_i z hz;split at h<;>(try (cases h;done))
 rename_i ks hks;split at h<;>(try (cases h;done))
 rename_i hsz hby
 simp only[qsI]at h;subst h;have hsz:i.size=ks.length:=qnb hsz;have hby:i.bytes<=4096:=Nat.le_of_ble_eq_true hby
 simp only[qbA]at hp;have e1:=qdt hp.1;obtain⟨h0,h1⟩:=qdt hp.2;subst e1;obtain⟨m,rfl⟩:∃ m:Nat,n=m:=⟨n.toNat,by omega⟩
 have hm:m<=17179869184:=by omega
 have hb:i.bytes*m<=281474976710656:=Nat.le_trans (Nat.mul_le_mul hby hm) (by decide)
 have hb':(i.bytes:Int)*(m:Int)<=281474976710656:=by
  have:=(Int.ofNat_le (m:=i.bytes*m) (n:=281474976710656)).2 hb
  rwa [Int.natCast_mul]at this
 have hr:=run_make (P:=P) w t e i z hu hi hz k1 k2 m m h0 (Int.le_refl _) hb' (by omega)
 simp only[Int.toNat_natCast]at hr;let l:Loc:=⟨w.heap.size,0,ks.length,m,false,none,λk=>k=w.heap.size⟩;refine⟨Qw r nid l,_,?_,Qv.new1 (l:=l) (o := .cells (madeCells z.cells (m*i.size)) e) rfl (λ_ h=>h) ?_⟩
 .simp only[AV.den]at hr ⊢;rw[hr];simp[Qw,l,Loc.base,Loc.room,Cap.den]
 .simp only[QN,Kl,Qw,if_true,l];refine⟨trivial,trivial,λk=>by simp,λh=>by simp at h,λj hj=>⟨XZ _ _ _,VD _ _ _⟩,λ_=>⟨by simp,[],by simp,?_⟩⟩
  rw[ji,if_pos rfl];have hz':=QJc (Qw r nid l) z (cellsOf ks 0 λ_=>0) (by rw[<-QRo hks]) m
  rw[XZ]at hz';simp only[madeCells,hsz,Int.toNat_natCast];rw[hz',List.append_nil,QLR];rfl
theorem QMp:∀(b z:List Value),z.length=b.length->Jk b 0 z=z
 | [],[],_=>rfl
 | [],_::_,h=>by simp at h
 | _::_,[],h=>by simp at h
 | x::b,y::z,h=>by
  simp only[List.length_cons,Nat.add_right_cancel_iff]at h;have:=QFb z [y] b 0;simp only[List.length_cons,List.length_nil,Nat.zero_add,Nat.add_zero,List.cons_append,List.nil_append]at this;rw[Jk,List.set_cons_zero,Nat.zero_add,this,QMp b z h]
theorem Qi1(a b c z:List Value)(h:z.length=b.length):Jk (a++(b++c)) a.length z=a++(z++c):=by
 have:=QFb z a (b++c) 0;rw[Nat.add_zero]at this;rw[this,QFC _ _ _ _ (by omega),QMp b z h]
theorem Qa2{el:TypeId}{id e n:Nat}{cp:Cap}{ty:TypeId}{ks:List CK}{m:Nat}{g:Nat->Nat->Int}(hu:P.underlying t=some (.slice el))(hb:QN r id w (.rowz true ty ks m g))(h:QId P el id e n ty ks m g=some eff)(hp:eff.pre=true)(ty0:TypeId):
  ∃ w',(Builtin.clear_ #[t] ty0 #[(AV.slz id e n cp).den r]).run P w = .ok (.tuple #[]) w'/\eff.val = .tup []/\eff.upd=[(id,.rowz true ty ks m (zB e n g))]/\QN r id w' (.rowz true ty ks m (zB e n g))/\Fr w w' (λk=>k=(r id).blk)/\Qo r id (.rowz true ty ks m g) (r id).blk:=by
 unfold QId at h;split at h<;>(try (cases h;done))
 rename_i z hz;split at h<;>(try (cases h;done))
 rename_i ks' hks;split at h<;>(try (cases h;done))
 rename_i hkb;have hkb:=Yb hkb;subst hkb;simp only[qsI]at h;subst h;obtain⟨h1,h2⟩:=qdt hp;have hb:Kl r id w ty ks'.length m (QY ks' g):=hb;have hn:=QCd hb h2;have hfoot:=hb.2.2.1;have hrow:=hb.2.2.2.2.1;have hft:∀ k,(r id).foot k↔k=(r id).blk:=λk=>by rw[hfoot k,hn];simp
 obtain⟨ho,hsz,hlen,hcap,rest,hrest,hbk⟩:=QAs hb hn;have hz':z.cells=(AV.denL r (cellsOf ks' 0 λ_=>0)).toArray:=by rw[<-QRo hks r 0]
 let L:=Q9 m (QY ks' g);let Z:=rep n (cellsOf ks' 0 λ_=>(0:Int));let L':=L.take e++(Z++L.drop (e+n))
 have hZl:∀ k,(rep k (cellsOf ks' 0 λ_=>(0:Int))).length=k:=by
  intro k
  induction k with
  | zero=>rfl
  | succ k ih=>rw[rep,List.length_cons,ih]
 have hZg:∀(i:Nat) (x:List AV),Z[i]? = some x->x=cellsOf ks' 0 λ_=>0:=by
  intro i x hx;have:Z=Q9 n λ_=>cellsOf ks' 0 λ_=>0:=QLR _ _;rw[this]at hx;obtain⟨_,_,h⟩:=Wi (List.mem_of_getElem? hx);exact h
 have hLl:L.length=m:=JV _ _
 have hL'l:L'.length=m:=by
  simp only[L',List.length_append,List.length_take,List.length_drop,Z,hZl,hLl];omega
 have hg:∀(i:Nat) (x:List AV),L'[i]? = some x->AV.denL r x=AV.denL r (QY ks' (zB e n g) i):=by
  intro i x hx;simp only[L']at hx;have htl:(L.take e).length=e:=by rw[List.length_take,hLl];omega
  rcases Nat.lt_or_ge i e with h3|h3
  .rw[List.getElem?_append_left (by omega),List.getElem?_take,if_pos h3]at hx
   have hi:i<m:=by omega
   rw[show L[i]? = some (QY ks' g i)from YN hi]at hx;simp only[qsI]at hx;subst hx;simp only[QY,zB,show decide (e<=i/\i<e+n)=false from decide_eq_false (by omega),cond_false]
  .rw[List.getElem?_append_right (by omega),htl]at hx
   rcases Nat.lt_or_ge (i-e) n with h4|h4
   .rw[List.getElem?_append_left (by simp only[Z,hZl];exact h4)]at hx
    rw[hZg _ _ hx];simp only[QY,zB,show decide (e<=i/\i<e+n)=true from qde (by omega),cond_true]
   .rw[List.getElem?_append_right (by simp only[Z,hZl];exact h4)]at hx
    simp only[Z,hZl,List.getElem?_drop]at hx;rw[show e+n+(i-e-n)=i by omega]at hx
    have hi:i<m:=by
     have:=(List.getElem?_eq_some_iff.1 hx).1;omega
    rw[show L[i]? = some (QY ks' g i)from YN hi]at hx;simp only[qsI]at hx;subst hx;simp only[QY,zB,show decide (e<=i/\i<e+n)=false from decide_eq_false (by omega),cond_false]
 have hsplit:L=L.take e++((L.drop e).take n++L.drop (e+n)):=by
  rw[<-List.drop_drop,List.take_append_drop,List.take_append_drop]
 have hLmem:∀ x∈L,x.length=ks'.length:=λx hx=>by
  obtain⟨i,hi,rfl⟩:=Wi hx;exact(hrow i hi).1
 have flen:∀ l:List (List AV),(∀ x∈l,x∈L)->(AV.denL r l.flatten).length=l.length*ks'.length:=λl hl=>by
  rw[Kf,Y0 _ _ (λx hx=>hLmem x (hl x hx))]
 have hzl:(AV.denL r Z.flatten).length=n*ks'.length:=by
  rw[Kf];show(rep n _).flatten.length=_;rw[QEK,XZ]
 have hoff:e*ks'.length=(AV.denL r (L.take e).flatten).length:=by
  rw[flen _ (λx hx=>List.mem_of_mem_take hx),List.length_take,hLl,Nat.min_eq_left (by omega)]
 have hmid:(AV.denL r Z.flatten).length=(AV.denL r ((L.drop e).take n).flatten).length:=by
  rw[hzl,flen _ (λx hx=>List.mem_of_mem_drop (List.mem_of_mem_take hx)),List.length_take,List.length_drop,hLl,Nat.min_eq_left (by omega)]
 have dap:∀ a b:List (List AV),AV.denL r (a++b).flatten=AV.denL r a.flatten++AV.denL r b.flatten:=λa b=>by
  rw[List.flatten_append,Qy,Qy,Qy,List.map_append]
 have hset:Jk (AV.denL r L.flatten++rest) (e*ks'.length) (AV.denL r Z.flatten)=AV.denL r L'.flatten++rest:=by
  conv=>lhs;rw[hsplit]
  rw[dap,dap,List.append_assoc,List.append_assoc,hoff,Qi1 _ _ _ _ hmid];simp only[L',dap,List.append_assoc]
 have hone:∀ u∈AV.denL r Z.flatten,u.oneCell'=true:=by
  intro u hu;rw[Qy]at hu;obtain⟨v,hv,rfl⟩:=List.mem_map.1 hu;obtain⟨y,hy,hvy⟩:=List.mem_flatten.1 hv;obtain⟨i,hi⟩:=List.getElem?_of_mem hy;rw[hZg _ _ hi]at hvy;have:=VD ks' 0 (λ_=>(0:Int));simp only[Jr,List.all_eq_true,qL,qbA]at this;exact QEH r (this v hvy).1
 have hrl:QN r id (w.setCells (r id).blk (e*ks'.length) (AV.denL r Z.flatten)) (.rowl ty ks'.length L'):=by
  refine⟨ho,hsz,λx hx=>?_,by rw[hL'l];rw[show(Q9 m (QY ks' g)).length=m from hLl]at hcap;exact hcap,rest,by rw[hL'l];rw[show(Q9 m (QY ks' g)).length=m from hLl]at hrest;exact hrest,?_⟩
  .obtain⟨i,hi⟩:=List.getElem?_of_mem hx;have:=hg i x hi;have h5:=Kf r x;rw[this,Kf,QY,XZ]at h5;exact h5.symm
  .rw[QBO _ _ _ _ _ hbk,hset]
 obtain⟨s1,s2,s3,s4,s5⟩:=QCZ (r id).blk (AV.denL r Z.flatten) (e*ks'.length) w;refine⟨w.setCells (r id).blk (e*ks'.length) (AV.denL r Z.flatten),?_,rfl,rfl,QAz hrl hn hft hL'l hg (λi _=>VD _ _ _),⟨s1,s2,s3,by omega,by rw[QCf];exact qlr _,λk _ hk=>s5 k hk⟩,(hft _).2 rfl⟩
 have hbase:(AV.slz id e n cp).den r = .slice (some ⟨(r id).blk,e*ks'.length,none⟩) n ((r id).room (cp.den (r id).cap)):=by
  simp only[AV.den,Loc.base,hn,ho,hsz,Nat.zero_add]
 rw[hbase];obtain⟨i,hi,hzz⟩:=Option.bind_eq_some_iff.1 hz;rcases Nat.eq_zero_or_pos n with h0|h0
 .subst h0;have:AV.denL r Z.flatten=[]:=rfl;rw[this];simp[Builtin.clear_,run_underlying hu,World.setCells]
 .have hs:z.cells.size=(cellsOf ks' 0 λ_=>(0:Int)).length:=by rw[hz'];simp[Kf]
  have hzc:(Builtin.zeroCells z.cells n).toList=AV.denL r Z.flatten:=by
   have:=QJc r z (cellsOf ks' 0 λ_=>0) hz' n;unfold Builtin.zeroCells;rw[show n*z.cells.size=n*(cellsOf ks' 0 λ_=>(0:Int)).length by rw[hs],this]
  have ht:=QGV hbk (o:=e*ks'.length) (n:=(AV.denL r Z.flatten).length) (by
   have h6:(AV.denL r L.flatten).length=m*ks'.length:=by rw[flen _ (λx hx=>hx),hLl]
   have h7:(e+n)*ks'.length<=m*ks'.length:=Nat.mul_le_mul_right _ h1;rw[Nat.add_mul]at h7;rw[List.length_append,hzl,show(AV.denL r (Q9 m (QY ks' g)).flatten).length=m*ks'.length from h6];omega)
  have hst:=run_storeCells_cells (P:=P) (r id).blk (e*ks'.length) (AV.denL r Z.flatten) 0 w (λj hj=>?_) (λj hj=>?_) hone
  .obtain⟨k,rfl⟩:∃ k,n=k+1:=⟨n-1,by omega⟩
   simp only[Nat.add_zero]at hst;simp only[Builtin.clear_,Sem.run_bind,List.getElem?_toArray,List.getElem?_cons_zero,run_underlying hu,Result.andThen_ok,QjL hz,hzc,hst,Sem.run_pure]
  .simpa using (ht j hj).1
  .simpa using (ht j hj).2
theorem Qcw{l:List AV}(hu:P.underlying t=some (.map kt et))(hb:bk w bm=some (.map es.toArray cl))(h:QIC P kt et l es=some eff)(hp:eff.pre=true):
  (Instr.lookup t (.map (some bm)) ((AV.agg l).den r) false).run P w = .ok (eff.val.den r) w/\eff.upd=[]:=by
 unfold QIC at h;split at h<;>(try (cases h;done))
 rename_i c1 a c2 b c3 c c4 d kz z hk hz;split at h<;>(try (cases h;done))
 rename_i h0;have h0:z=0:=qdt h0;subst h0;simp only[qsI]at h;subst h;exact⟨Qie hu hb hk hp hz,rfl⟩
theorem Qew{id:Nat}{l:List AV}(hu:P.underlying t=some (.map kt et))(hb:bk w bm=some (.map es.toArray cl))(h:QJh P kt id l v es cl=some eff)(hp:eff.pre=true):
  ∃ es' cl',(Instr.mapUpdate t (.map (some bm)) ((AV.agg l).den r) (v.den r)).run P w = .ok () (w.putObj bm (.map es'.toArray cl'))/\eff.val = .tup []/\eff.upd=[(id,.mp es' cl')]:=by
 unfold QJh at h;split at h<;>(try (cases h;done))
 rename_i c1 a c2 b c3 c c4 d c5 kz n hk;simp only[qsI]at h;subst h;exact⟨_,_,Qaz hu hb hk hp,rfl,rfl⟩
theorem QlG{kz:IntKind}{e:MapEntry}{ka:AV}(hk:QK3 P kt e=some ka)(hw:wfA P kt kz es=true)(hm:e∈es)(r:Nat->Loc):ka.den r=e.key/\Value.int kz (intV e.val)=e.val:=by
 unfold QK3 at hk;unfold wfA at hw;split at hk
 .rename_i k hu;rw[hu]at hw;simp only[qsI]at hk;subst hk;have:=(List.all_eq_true.1 hw) e hm;rw[qbA]at this;obtain⟨n,hn⟩:=QDJ this.1;obtain⟨v,hv⟩:=QDJ this.2;exact⟨by simp[AV.den,QT,Kt,hn,intV],by rw[hv];rfl⟩
 .rename_i hu;split at hk<;>(try (cases hk;done))
  simp only[qsI]at hk;subst hk
  have hw:wf4 kz es=true:=by
   cases hq:P.underlying kt with
   | none=>rw[hq]at hw;exact hw
   | some d=>
    rw[hq]at hw;cases d with
    | int k=>exact absurd hq (hu k)
    | _=>exact hw
  have:=(List.all_eq_true.1 hw) e hm;rw[qbA]at this;obtain⟨a,b,c,d,hn⟩:=QDW this.1;obtain⟨v,hv⟩:=QDJ this.2;exact⟨by simp[AV.den,AV.denL,QT,HK hn,hn,Kd],by rw[hv];rfl⟩
theorem QfW{t m m' j:Nat}{seen:List Nat}{last ib since:Nat}(hi:bk w ib=some (.mapIter (some bm) since seen.toArray last))(hb:bk w bm=some (.map es.toArray cl))(h:QE4 P t m m' j seen last es cl=some eff)(hp:eff.pre=true):
  (Instr.entry (.pointer (some ⟨ib,0,none⟩))).run P w = .ok (eff.val.den r) w/\eff.upd=[]/\m=m'/\j=0:=by
 unfold QE4 at h;split at h<;>(try (cases h;done))
 rename_i kt et hmm hj hu;split at h<;>(try (cases h;done))
 rename_i kz z ka hz hka;simp only[qsI]at h;subst h;simp only[qbA]at hp;obtain⟨⟨hl,hh⟩,hw⟩:=hp;have hl:=qdt hl;subst hl;obtain⟨g1,g2⟩:=QjF (P:=P) hi hb hh;obtain⟨k1,k2⟩:=QlG hka hw g2 r;refine⟨?_,rfl,qnb hmm,qnb hj⟩;rw[g1];simp only[AV.den,AV.denL,k1,k2]
theorem QjT{o:Oper}(hH:HOk r w nid look)(hV:QCA P o.op ev nid=some (ids,g))(hv:ids.map look=blks.map some)(he:g blks=some eff)(hp:eff.pre=true)(hρ:∀ x∈o.op.operands,a.eval x=(ev x).den r)(k:∀ r' w',Qv look r nid eff.upd w r' w'->K (a.put o.dst (eff.val.den r')) w'):o.wp P a w K Q:=by
 have KV:∀{s:Sem Value} {v:Value} {w':World},s.run P w = .ok v w'->(do pure (.value (<-s)):Sem Next).run P w = .ok (.value v) w':=by
  intro s v w' hs;rw[Sem.run_bind,hs];rfl
 have KU:∀{s:Sem Unit} {w':World},s.run P w = .ok () w'->(do s;pure .skip:Sem Next).run P w = .ok .skip w':=by
  intro s w' hs;rw[Sem.run_bind,hs];rfl
 have one:∀{id:Nat},[id].map look=blks.map some->∃ b,blks=[b]/\look id=some b:=by
  intro id h;obtain⟨b,rfl⟩:=Hd h;simp only[List.map_cons,List.map_nil,List.cons.injEq,and_true]at h;exact⟨b,rfl,h⟩
 unfold QCA at hV;split at hV<;>(try (cases hV;done))<;>rename_i ho
 .rename_i t;simp only[qsI,qpI]at hV;obtain⟨rfl,rfl⟩:=hV;simp only[qsI]at he;subst he
  have hb:QN (Qw r nid (Loc.of w.heap.size 0 0 0)) nid (w.alloc (.map #[] 0)) (.mp [] 0):=by
   simp only[QN,Qw,if_true];show bk _ w.heap.size=_;rw[ji,if_pos rfl]
  refine Jo (w':=w.alloc (.map #[] 0)) (v := .map (some w.heap.size)) ?_ ?_
  .unfold execOp;simp only[ho];exact KV rfl
  .have:=k _ _ (Qv.new1 (r:=r) rfl (λ_ h=>h) hb);simpa[AV.den,Qw,Loc.of]using this
 .rename_i t l c;have hl:=hρ l (by rw[ho];simp[Op.operands])
  have hc:=hρ c (by rw[ho];simp[Op.operands])
  simp only[qsI,qpI]at hV;obtain⟨rfl,rfl⟩:=hV;obtain⟨r',w',h1,h2⟩:=QeM he hp look r w;refine Jo (w':=w') (v:=eff.val.den r') ?_ (k _ _ h2);unfold execOp;simp only[ho];rw[hl,hc];exact KV h1
 .rename_i t x;have hx:=hρ x (by rw[ho];simp[Op.operands])
  split at hV<;>(try (cases hV;done))
  rename_i kt et id hu hex;simp only[qsI,qpI]at hV;obtain⟨rfl,rfl⟩:=hV;obtain⟨b,rfl,hb⟩:=one hv;cases b<;>(try (cases he;done))
  rename_i es cl;simp only[qsI]at he;subst he;have hbk:bk w (r id).blk=some (.map es.toArray cl):=hH.rep id _ hb;have hne:id≠nid:=jQ (hH.out id _ hb);refine Jo (w':=w.alloc (.mapIter (some (r id).blk) cl #[] cl)) (v := .pointer (some ⟨w.heap.size,0,none⟩)) ?_ ?_
  .unfold execOp;simp only[ho];rw[hx,hex];exact KV (run_range_map w t kt et _ _ _ hu hbk)
  .have hb':QN (Qw r nid (Loc.of w.heap.size 0 0 0)) nid (w.alloc (.mapIter (some (r id).blk) cl #[] cl)) (.itm [.map id] t cl [] cl):=by
    simp only[QN,Qw,if_true];refine⟨rfl,rfl,?_⟩;show bk _ w.heap.size=_;rw[ji,if_pos rfl];have e1:(Qw r nid (Loc.of w.heap.size 0 0 0) id)=r id:=by unfold Qw;rw[if_neg hne]
    simp only[AV.denL,AV.den,QTI,e1]
   have:=k _ _ (Qv.new1 (r:=r) rfl (λ_ h=>h) hb');simpa[AV.den,Qw,Loc.of]using this
 .rename_i x;have hx:=hρ x (by rw[ho];simp[Op.operands])
  split at hV<;>(try (cases hV;done))
  rename_i id m j hex;simp only[qsI,qpI]at hV;obtain⟨rfl,rfl⟩:=hV;simp only at he;split at he<;>(try (cases he;done))
  rename_i m' t since seen last es cl;simp only[List.map_cons,List.map_nil,List.cons.injEq,and_true]at hv;obtain⟨hb1,hb2⟩:=hv;obtain⟨o1,o2,hi⟩:=hH.rep id _ hb1;have hm:bk w (r m).blk=some (.map es.toArray cl):=hH.rep m _ hb2
  have key:m=m'->bk w (r id).blk=some (.mapIter (some (r m).blk) since seen.toArray last):=by
   rintro rfl;exact hi
  have hmm:m=m':=by
   unfold QE4 at he;split at he<;>(try (cases he;done))
   rename_i h1 _ _;exact qnb h1
  obtain⟨g1,g2,_,rfl⟩:=QfW (r:=r) (key hmm) hm he hp;refine Jo (w':=w) (v:=eff.val.den r) ?_ (k r w (by rw[g2];exact Qv.id look r nid w))
  unfold execOp;simp only[ho];rw[hx,hex];simp only[AV.den,o1,o2,Nat.mul_zero,Nat.add_zero];exact KV g1
 .rename_i t x ix;have hx:=hρ x (by rw[ho];simp[Op.operands])
  have hix:=hρ ix (by rw[ho];simp[Op.operands])
  split at hV<;>(try (cases hV;done))
  rename_i kt et id l hu hex hei;simp only[qsI,qpI]at hV;obtain⟨rfl,rfl⟩:=hV;obtain⟨b,rfl,hb⟩:=one hv;cases b<;>(try (cases he;done))
  obtain⟨h1,h2⟩:=Qcw (r:=r) hu (hH.rep id _ hb) he hp;refine Jo (w':=w) (v:=eff.val.den r) ?_ (k r w (by rw[h2];exact Qv.id look r nid w))
  unfold execOp;simp only[ho];rw[hx,hix,hex,hei];exact KV h1
 .rename_i t m x v;have hm:=hρ m (by rw[ho];simp[Op.operands])
  have hx:=hρ x (by rw[ho];simp[Op.operands])
  have hvv:=hρ v (by rw[ho];simp[Op.operands])
  split at hV<;>(try (cases hV;done))
  rename_i kt et id l hu hem hex;simp only[qsI,qpI]at hV;obtain⟨rfl,rfl⟩:=hV;obtain⟨b,rfl,hb⟩:=one hv;cases b<;>(try (cases he;done))
  obtain⟨es',cl',h1,h2,h3⟩:=Qew (r:=r) hu (hH.rep id _ hb) he hp;refine QFz (w':=w.putObj (r id).blk (.map es'.toArray cl')) ?_ ?_
  .unfold execOp;simp only[ho];rw[hm,hx,hvv,hem,hex];exact KU h1
  .have:=k r _ (by rw[h3];exact QOe (hH.out id _ hb) hb (hH.rep id _ hb))
   rw[h2]at this;exact this
 .rename_i t m x v;have hm:=hρ m (by rw[ho];simp[Op.operands])
  have hx:=hρ x (by rw[ho];simp[Op.operands])
  have hvv:=hρ v (by rw[ho];simp[Op.operands])
  split at hV<;>(try (cases hV;done))
  rename_i kt et id c kk n hu hem hex;simp only[qsI,qpI]at hV;obtain⟨rfl,rfl⟩:=hV;obtain⟨b,rfl,hb⟩:=one hv;cases b<;>(try (cases he;done))
  obtain⟨es',cl',h1,rfl⟩:=QaS hu (hH.rep id _ hb) he r;refine QFz (w':=w.putObj (r id).blk (.map es'.toArray cl')) ?_ (k r _ (QOe (hH.out id _ hb) hb (hH.rep id _ hb)));unfold execOp;simp only[ho];rw[hm,hx,hvv,hem,hex];exact KU h1
 .rename_i args ts;split at hV<;>(try (cases hV;done))
  rename_i x t hargs hts;have hargs':args = #[x]:=by apply Array.ext';simpa using hargs
  have hts':ts = #[t]:=by apply Array.ext';simpa using hts
  subst hargs' hts';have hx:=hρ x (by rw[ho];simp[Op.operands,Call.operands])
  split at hV<;>(try (cases hV;done))
  rename_i el id e n cp hu hex;simp only[qsI,qpI]at hV;obtain⟨rfl,rfl⟩:=hV;obtain⟨b,rfl,hb⟩:=one hv;cases b<;>(try (cases he;done))
  rename_i o' ty ks m g;cases o'<;>(try (cases he;done))
  obtain⟨w',h1,h2,h3,h4,h5,h6⟩:=Qa2 (cp:=cp) hu (hH.rep id _ hb) he hp o.type;refine Jo (w':=w') (v := .tuple #[]) ?_ ?_
  .unfold execOp;simp only[ho];rw[<-hex]at h1;simp[resolve,invoke,builtin,hx,h1,Result.andThen]
  .have:=k r _ (by rw[h3];exact Qv.same1 (hH.out id _ hb) hb h6 (λ_ hk=>hk) h4 h5)
   rw[h2]at this;exact this
 .rename_i t x y c;have hx:=hρ x (by rw[ho];simp[Op.operands])
  have hy:=hρ y (by rw[ho];simp[Op.operands])
  split at hV<;>(try (cases hV;done))
  rename_i elem id e len cp hu hex hey;simp only[qsI,qpI]at hV;obtain⟨rfl,rfl⟩:=hV;obtain⟨b,rfl,hb⟩:=one hv;simp only at he;split at he<;>(try (cases he;done))
  rename_i n hn;simp only[qsI]at he;subst he;obtain⟨h1,h2⟩:=qdt hp;have hrep:=hH.rep id _ hb
  have hnil:(r id).nil=false:=by
   cases hh:(r id).nil with
   | false=>rfl
   | true=>
    exfalso;cases b<;>simp only[QCj]at hn<;>(try (cases hn;done))<;>simp only[qsI]at hn<;>subst hn
    .have:=Kl.zero hrep hh;omega
    .have:=hrep.2.2.1 hh;omega
  have hden:(AV.slz id e len cp).den r=(AV.slice true id e len cp).den r:=by
   simp only[AV.den,Loc.base,Loc.room,hnil]
  refine Jo (w':=w) (v := .bool false) ?_ (k r w (Qv.id look r nid w));have:=QMi (P:=P) (op := .eql) (t:=t) (xo:=x) (yo:=y) (x := .slice true id e len cp) (y := .nils) (e:=⟨true,true,.bool true false⟩) (by simp[QEY,QCy,eqA,hu,okE]) rfl r w
  unfold execOp;simp only[ho];rw[hx,hy,hex,hey,hden];exact KV this
def jr:AV->List Blk->Option Blk×List Blk
 | .slice ..,b::l=>(some b,l)
 | .slz ..,b::l=>(some b,l)
 | _,l=>(none,l)
def QIl(P:Program)(ts:List TypeId)(s x:AV)(nid:Nat)(blks:List Blk):Option Eff:=
 match jr s blks with
 | (sb,rest)=>match jr x rest with
  | (xb,[])=>match QK7 P ts s x sb xb nid with
   | some e=>some e
   | none=>QJd P ts s x sb xb nid
  | _=>none
theorem QS2{more:List Nat}(h:(idS v++more).map look=blks.map some):more.map look=(jr v blks).2.map some /\
  ∀ b,(jr v blks).1=some b->∃ id,idS v=[id]/\look id=some b:=by
 cases v<;>first
  | (exact⟨by simpa[idS,jr]using h,λb hb=>by simp[jr]at hb⟩)
  | skip
 .rename_i c id e n cp;cases blks with
  | nil=>simp[idS]at h
  | cons b l=>
   simp only[idS,List.cons_append,List.nil_append,List.map_cons,List.cons.injEq]at h;exact⟨h.2,λb' hb=>by simp only[jr,qsI]at hb;subst hb;exact⟨id,rfl,h.1⟩⟩
 .rename_i id e n cp;cases blks with
  | nil=>simp[idS]at h
  | cons b l=>
   simp only[idS,List.cons_append,List.nil_append,List.map_cons,List.cons.injEq]at h;exact⟨h.2,λb' hb=>by simp only[jr,qsI]at hb;subst hb;exact⟨id,rfl,h.1⟩⟩
theorem QYR{ts:List TypeId}{s x:AV}(he:QIl P ts s x nid blks=some eff)(hp:eff.pre=true)(hH:HOk r w nid look)(hv:(idS s++idS x).map look=blks.map some)(ty:TypeId):
  ∃ w' r',(Builtin.append_ ts.toArray ty #[s.den r,x.den r]).run P w = .ok (eff.val.den r') w'/\Qv look r nid eff.upd w r' w':=by
 unfold QIl at he;split at he;rename_i sb rest hts;split at he<;>(try (cases he;done))
 rename_i xb htx;obtain⟨g1,g2⟩:=QS2 hv;rw[hts]at g1 g2;obtain⟨g3,g4⟩:=QS2 (more:=[]) (by simpa using g1)
 rw[htx]at g4;split at he
 .rename_i e0 he0;simp only[qsI]at he;subst he
  exact QcV he0 hp (r:=r) (w:=w)
   (λc id e n cp b hsx hb=>by
    obtain⟨id',hsx',hl⟩:=g2 b hb;rw[hsx]at hsx';cases hsx';exact⟨hH.rep _ _ hl,hH.out _ _ hl,hl⟩)
   (λc id e n cp b hsx hb=>by
    obtain⟨id',hsx',hl⟩:=g4 b hb;rw[hsx]at hsx';cases hsx';exact hH.rep _ _ hl)
   (λb hb=>by obtain⟨_,_,hl⟩:=g2 b hb;exact hH.scope _ _ hl)
   (λb hb=>by obtain⟨_,_,hl⟩:=g4 b hb;exact hH.scope _ _ hl) ty
 .exact QYq he hp (r:=r) (w:=w)
   (λid b hsx hb=>by
    obtain⟨id',hsx',hl⟩:=g2 b hb;rw[hsx]at hsx';cases hsx';exact⟨hH.rep _ _ hl,hH.out _ _ hl,hl⟩)
   (λid b hsx hb=>by
    obtain⟨id',hsx',hl⟩:=g4 b hb;rw[hsx]at hsx';cases hsx';exact hH.rep _ _ hl) ty
def zI(b:Bool)(x y:jf):jf:=(x.1++y.1,λblks=>match x.2 (blks.take x.1.length),y.2 (blks.drop x.1.length)with
 | some ⟨_,p,.bool _ m,[]⟩,some ⟨_,q,.bool _ n,[]⟩=>some ⟨false,cond b p q,.bool false (cond b m n),[]⟩
 | _,_=>none)
theorem Qlf{b:Bool}{x y:jf}(hv:(zI b x y).1.map look=blks.map some)(he:(zI b x y).2 blks=some eff):
  ∃ bl e,(match b with|true=>x|false=>y).1.map look=bl.map some/\(match b with|true=>x|false=>y).2 bl=some e/\e.pre=eff.pre/\e.upd=eff.upd/\∀ r,e.val.den r=eff.val.den r:=by
 simp only[zI,List.map_append]at hv
 have h1:x.1.map look=(blks.take x.1.length).map some:=by
  have:=congrArg (List.take x.1.length) hv;simpa[List.take_append,List.map_take]using this
 have h2:y.1.map look=(blks.drop x.1.length).map some:=by
  have:=congrArg (List.drop x.1.length) hv;simpa[List.drop_append,List.map_drop]using this
 simp only[zI]at he;split at he<;>(try (cases he;done))
 rename_i e1 e2;simp only[qsI]at he;subst he;cases b with
 | true=>exact⟨_,_,h1,e1,rfl,rfl,λr=>rfl⟩
 | false=>exact⟨_,_,h2,e2,rfl,rfl,λr=>rfl⟩
def QDG:Blk->Nat
 | .rowz _ _ _ n _=>n
 | .frz _ n _=>n
 | _=>0
theorem Qji{id:Nat}{b:Blk}(hb:QN r id w b){k:Nat}(hk:k<QDG b):(r id).nil=false:=by
 cases hn:(r id).nil with
 | false=>rfl
 | true=>
  cases b<;>simp only[QDG]at hk<;>(try omega)
  .have:=hb.2.2.2.1 hn;omega
  .have:=hb.2.2.1 hn;omega
def ju(P:Program)(C:FuncId->Option FC)(M:TypeId->String->Option FuncId)(op:Op)(ev:Operand->AV)(nid:Nat)(all:List Nat):jf:=
 match op with
 | .load t x=>match ev x with
  | .ptr id e j=>([id],λ|[b]=>Xa P t e j b.peel|_=>none)
  | _=>noV
 | .store t x y=>match ev x with
  | .ptr id e j=>([id],λ|[b]=>(match Vg P t e j (ev y) b with|some b'=>some ⟨true,true,.tup [],[(id,b')]⟩|none=>(QI9 P t e j (ev y) b).map λq=>⟨false,q.1,.tup [],[(id,q.2)]⟩)|_=>none)
  | _=>noV
 | .alloc t=>([],λ_=>match (P.info? t).bind (·.zero)with
  | some z=>some ⟨true,true,.ptr nid 0 0,[(nid,.cells (zY P t) t (ofValue z).cells)]⟩
  | none=>none)
 | .box t x=>([],λ_=>if (ev x).storable then some ⟨true,true,.ptr nid 0 0,[(nid,.cells (zY P t) t (ev x).cells)]⟩else none)
 | .indexAddr t x ix=>match P.underlying t,ev x,ev ix with
  | some (.slice elem),.slice c' id e len _,.int c _ i=>([id],fun
   | [b]=>match QA6 b.peel with
    | some esz=>if szT P elem==some esz then some ⟨c&&c',decide (0<=i/\i<len),.ptr id (i.toNat+e) 0,[]⟩else none
    | none=>none
   | _=>none)
  | some (.slice elem),.slz id e len _,.int _ _ i=>([id],fun
   | [b]=>match QA6 b.peel with
    | some esz=>if szT P elem==some esz then some ⟨false,decide (0<=i/\i<len)&&decide (len+e<=QDG b),.ptr id (i.toNat+e) 0,[]⟩else none
    | none=>none
   | _=>none)
  | some (.array len elem),.ptr id e j,.int c _ i=>match szT P elem with
   | some n=>([],λ_=>some ⟨c,decide (0<=i/\i<len),.ptr id e (j+i.toNat*n),[]⟩)
   | none=>noV
  | _,_,_=>noV
 | .slice t x lo hi mx=>match ev x with
  | .ptr id e j=>([id],λ|[b]=>H7 P t (.ptr id e j) (lo.map ev) (hi.map ev) (mx.map ev) (some b.peel)|_=>none)
  | .slice c id e n cp=>([id],λ|[b]=>H7 P t (.slice c id e n cp) (lo.map ev) (hi.map ev) (mx.map ev) (some b.peel)|_=>none)
  | .nils=>([],λ_=>H7 P t .nils (lo.map ev) (hi.map ev) (mx.map ev) none)
  | .slz id e len cp=>([id],λ|[b]=>QEC P t id e len cp (lo.map ev) (hi.map ev) (mx.map ev) b.peel|_=>none)
  | _=>noV
 | .buildSlice t len parts=>([],λ_=>QHs P t len (parts.toList.map λp=>(p.1,ev p.2)) nid)
 | .call ⟨.builtin .append,args,ts⟩=>match args.toList with
  | [s,x]=>(idS (ev s)++idS (ev x),QIl P ts.toList (ev s) (ev x) nid)
  | _=>noV
 | .call ⟨.value f,args,_⟩=>match ev f with
  | .fn (.func g) cap=>match C g with
   | some fc=>fc (args.toList.map ev++cap) nid all
   | none=>noV
  | .mth (.func g) l=>match C g with
   | some fc=>fc (l++args.toList.map ev) nid all
   | none=>noV
  | _=>noV
 | .call ⟨.invoke x name,args,_⟩=>match ev x with
  | .ifc t v=>match M t name with
   | some g=>match C g with
    | some fc=>fc (v::args.toList.map ev) nid all
    | none=>noV
   | none=>noV
  | .alt b (.ifc t v) (.ifc t' v')=>match M t name,M t' name with
   | some g,some g'=>match C g,C g' with
    | some fc,some fc'=>zI b (fc (v::args.toList.map ev) nid all) (fc' (v'::args.toList.map ev) nid all)
    | _,_=>noV
   | _,_=>noV
  | _=>noV
 | op=>match QCA P op ev nid with
  | some v=>v
  | none=>match QAW P op ev with
   | some e=>([],λ_=>some ⟨e.known,e.pre,e.val,[]⟩)
   | none=>noV
theorem QZv{e j:Nat}{b b':Blk}(h:Vg P t e j v b=some b'):b.plain=true/\b'.plain=true:=by
 unfold Vg at h;split at h
 .split at h<;>(try (cases h;done))
  simp only[qsI]at h;subst h;exact⟨rfl,rfl⟩
 .split at h<;>(try (cases h;done))
  split at h<;>(try (cases h;done))
  simp only[qsI]at h;subst h;exact⟨rfl,rfl⟩
 .cases h
theorem QR8{C:FuncId->Option FC}{M:TypeId->String->Option FuncId}(hC:∀ f fc,C f=some fc->QS P f fc)(hM:QBI P M){o:Oper}(hH:HOk r w nid look){all:List Nat}(hV:ju P C M o.op ev nid all=(ids,g))(hv:ids.map look=blks.map some)(he:g blks=some eff)(hp:eff.pre=true)(hρ:∀ x∈o.op.operands,a.eval x=(ev x).den r)(hsc:∀ x∈o.op.operands,(ev x).all (λi=>!inR nid i)=true)(k:∀ r' w',Qv look r nid eff.upd w r' w'->K (a.put o.dst (eff.val.den r')) w'):o.wp P a w K Q:=by
 have KV:∀{s:Sem Value} {v:Value} {w':World},s.run P w = .ok v w'->(do pure (.value (<-s)):Sem Next).run P w = .ok (.value v) w':=by
  intro s v w' hs;rw[Sem.run_bind,hs];rfl
 have KU:∀{s:Sem Unit} {w':World},s.run P w = .ok () w'->(do s;pure .skip:Sem Next).run P w = .ok .skip w':=by
  intro s w' hs;rw[Sem.run_bind,hs];rfl
 unfold ju at hV;split at hV<;>rename_i ho
 .
  rename_i t x;have hx:=hρ x (by rw[ho];simp[Op.operands])
  split at hV<;>(try (simp only[noV,qpI]at hV;obtain⟨rfl,rfl⟩:=hV;cases he;done))
  rename_i id e j hex;simp only[qpI]at hV;obtain⟨rfl,rfl⟩:=hV
  match blks,hv,he with
  | [b],hv,he=>
   simp only[List.map_cons,List.map_nil,List.cons.injEq,and_true]at hv;simp only at he;obtain⟨h1,h2⟩:=QUa (r:=r) (id:=id) (e:=e) (j:=j) (hH.rep id b hv).peel he hp;refine Jo (w':=w) (v:=eff.val.den r) ?_ (k r w (by rw[h2];exact Qv.id look r nid w))
   unfold execOp;simp only[ho];rw[hx,hex];exact KV h1
 .
  rename_i t x y;have hx:=hρ x (by rw[ho];simp[Op.operands])
  have hy:=hρ y (by rw[ho];simp[Op.operands])
  split at hV<;>(try (simp only[noV,qpI]at hV;obtain⟨rfl,rfl⟩:=hV;cases he;done))
  rename_i id e j hex;simp only[qpI]at hV;obtain⟨rfl,rfl⟩:=hV
  match blks,hv,he with
  | [b],hv,he=>
   simp only[List.map_cons,List.map_nil,List.cons.injEq,and_true]at hv;have hid:=hH.out id b hv;simp only at he;split at he
   .rename_i b' hb';simp only[qsI]at he;subst he;obtain⟨w',h1,h2,h3,h4⟩:=QL4 (r:=r) (id:=id) (e:=e) (j:=j) (hH.rep id b hv) hb';obtain⟨p1,p2⟩:=QZv hb';refine QFz (w':=w') ?_ (k r w' (Qv.same1 hid hv ((VJ p1).2 rfl) (λk hk=>(VJ p1).2 ((VJ p2).1 hk)) h2 h4));unfold execOp;simp only[ho];rw[hx,hex,hy];exact KU h1
   .rw[Option.map_eq_some_iff]at he;obtain⟨⟨q,b'⟩,hb',rfl⟩:=he;obtain⟨w',h1,h2,h3,h4,h5,h6⟩:=QZa (r:=r) (id:=id) (e:=e) (j:=j) (hH.rep id b hv) hb' hp;refine QFz (w':=w') ?_ (k r w' (Qv.same1 hid hv h5 h6 h2 h4));unfold execOp;simp only[ho];rw[hx,hex,hy];exact KU h1
 .
  rename_i t;simp only[qpI]at hV;obtain⟨rfl,rfl⟩:=hV;split at he<;>(try (cases he;done))
  rename_i z hz;simp only[qsI]at he;subst he
  have hb:QN (Qw r nid ⟨w.heap.size,0,zY P t,0,false,none,λk=>k=w.heap.size⟩) nid (w.alloc (.cells z.cells t)) (.cells (zY P t) t (ofValue z).cells):=by
   simp only[QN,Qw,if_true];refine⟨trivial,trivial,?_⟩;rw[ji,if_pos rfl,<-QPv]
  refine Jo (w':=w.alloc (.cells z.cells t)) (v := .pointer (some ⟨w.heap.size,0,none⟩)) ?_ ?_
  .unfold execOp;simp only[ho];exact KV (Qfc hz w)
  .have:=k _ _ (Qv.new1 (r:=r) rfl (λ_ h=>h) hb);simpa[AV.den,Qw]using this
 .
  rename_i t x;have hx:=hρ x (by rw[ho];simp[Op.operands])
  simp only[qpI]at hV;obtain⟨rfl,rfl⟩:=hV;split at he<;>(try (cases he;done))
  rename_i hs;simp only[qsI]at he;subst he
  have hb:QN (Qw r nid ⟨w.heap.size,0,zY P t,0,false,none,λk=>k=w.heap.size⟩) nid (w.alloc (.cells ((ev x).den r).cells t)) (.cells (zY P t) t (ev x).cells):=by
   simp only[QN,Qw,if_true];refine⟨trivial,trivial,?_⟩;rw[ji,if_pos rfl,QGq r hs,denL_congr (QEz (l:=⟨w.heap.size,0,zY P t,0,false,none,λk=>k=w.heap.size⟩)) _ (QLO (hsc x (by rw[ho];simp[Op.operands])))]
  refine Jo (w':=w.alloc (.cells ((ev x).den r).cells t)) (v := .pointer (some ⟨w.heap.size,0,none⟩)) ?_ ?_
  .unfold execOp;simp only[ho];rw[hx];exact KV (Qj0 _ w)
  .have:=k _ _ (Qv.new1 (r:=r) rfl (λ_ h=>h) hb);simpa[AV.den,Qw]using this
 .
  rename_i t x ix;have hx:=hρ x (by rw[ho];simp[Op.operands])
  have hix:=hρ ix (by rw[ho];simp[Op.operands])
  split at hV<;>(try (simp only[noV,qpI]at hV;obtain⟨rfl,rfl⟩:=hV;cases he;done))
  .rename_i elem c' id e len cap c kk i hu hex hei;simp only[qpI]at hV;obtain⟨rfl,rfl⟩:=hV;obtain⟨b,rfl⟩:=Hd hv;simp only[List.map_cons,List.map_nil,List.cons.injEq,and_true]at hv;have hb:=hH.rep id b hv
   have:∃ esz,(r id).esz=esz/\szT P elem=some esz/\eff=⟨c&&c',decide (0<=i/\i<len),.ptr id (i.toNat+e) 0,[]⟩:=by
    simp only at he;split at he<;>(try (cases he;done))
    rename_i esz hz;split at he<;>(try (cases he;done))
    rename_i hs;simp only[qsI]at he;exact⟨esz,QIY hb.peel hz,by simpa using hs,he.symm⟩
   obtain⟨esz,h1,h2,rfl⟩:=this;simp only[qdE]at hp;refine Jo (w':=w) (v:=AV.den r (.ptr id (i.toNat+e) 0)) ?_ (k r w (Qv.id look r nid w));unfold execOp;simp only[ho];rw[hx,hix,hex,hei];simp only[AV.den];refine KV ?_;rw[QRp hu h2 _ _ _ _ _ _ hp];rw[h1,Nat.add_comm i.toNat e,Nat.add_mul,Nat.add_zero,Nat.add_assoc]
  .rename_i elem id e len cap c kk i hu hex hei;simp only[qpI]at hV;obtain⟨rfl,rfl⟩:=hV;obtain⟨b,rfl⟩:=Hd hv;simp only[List.map_cons,List.map_nil,List.cons.injEq,and_true]at hv;have hb:=hH.rep id b hv
   have:∃ esz,(r id).esz=esz/\szT P elem=some esz/\eff=⟨false,decide (0<=i/\i<len)&&decide (len+e<=QDG b),.ptr id (i.toNat+e) 0,[]⟩:=by
    simp only at he;split at he<;>(try (cases he;done))
    rename_i esz hz;split at he<;>(try (cases he;done))
    rename_i hs;simp only[qsI]at he;exact⟨esz,QIY hb.peel hz,by simpa using hs,he.symm⟩
   obtain⟨esz,h1,h2,rfl⟩:=this;simp only[qbA,qdE]at hp;have hnil:=Qji hb (k:=e) (by omega)
   refine Jo (w':=w) (v:=AV.den r (.ptr id (i.toNat+e) 0)) ?_ (k r w (Qv.id look r nid w));unfold execOp;simp only[ho];rw[hx,hix,hex,hei];simp only[AV.den,Loc.base,hnil];refine KV ?_;rw[QRp hu h2 _ _ _ _ _ _ hp.1];rw[h1,Nat.add_comm i.toNat e,Nat.add_mul,Nat.add_zero,Nat.add_assoc]
  .rename_i len elem id e j c kk i hu hex hei;split at hV<;>(try (simp only[noV,qpI]at hV;obtain⟨rfl,rfl⟩:=hV;cases he;done))
   rename_i n hn;simp only[qpI]at hV;obtain⟨rfl,rfl⟩:=hV;simp only[qsI]at he;subst he;simp only[qdE]at hp;refine Jo (w':=w) (v:=AV.den r (.ptr id e (j+i.toNat*n))) ?_ (k r w (Qv.id look r nid w));unfold execOp;simp only[ho];rw[hx,hix,hex,hei];refine KV ?_;simp[AV.den,Instr.indexAt,asIntOf,run_underlying hu,Instr.sureAddr,XC hn,Ve,Nat.add_assoc,hp.1,hp.2]
 .
  rename_i t x lo hi mx;have hx:=hρ x (by rw[ho];simp[Op.operands])
  have hopt:∀ y:Option Operand,(∀ z∈y,a.eval z=(ev z).den r)->y.map a.eval=(y.map ev).map (AV.den r):=by
   intro y hy;cases y with
   | none=>rfl
   | some z=>simp only[Option.map_some];rw[hy z rfl]
  have h1:=hopt lo (λz hz=>hρ z (by rw[ho];cases hz;simp[Op.operands]))
  have h2:=hopt hi (λz hz=>hρ z (by rw[ho];cases hz;simp[Op.operands]))
  have h3:=hopt mx (λz hz=>hρ z (by rw[ho];cases hz;simp[Op.operands]))
  have fin:∀ b,H7 P t (ev x) (lo.map ev) (hi.map ev) (mx.map ev) b=some eff->(∀ id e j b',ev x = .ptr id e j->b=some b'->QN r id w b')->(∀ c id e n cp b',ev x = .slice c id e n cp->b=some b'->QN r id w b')->o.wp P a w K Q:=by
   intro b hsl hb1 hb2;obtain⟨h4,h5⟩:=Qfh (r:=r) (w:=w) hsl hp hb1 hb2;refine Jo (w':=w) (v:=eff.val.den r) ?_ (k r w (by rw[h5];exact Qv.id look r nid w))
   unfold execOp;simp only[ho];rw[hx,h1,h2,h3];exact KV h4
  split at hV<;>(try (simp only[noV,qpI]at hV;obtain⟨rfl,rfl⟩:=hV;cases he;done))
  .rename_i id e j hex;simp only[qpI]at hV;obtain⟨rfl,rfl⟩:=hV;obtain⟨b,rfl⟩:=Hd hv;simp only[List.map_cons,List.map_nil,List.cons.injEq,and_true]at hv;refine fin (some b.peel) (by rw[hex];exact he) ?_ ?_
   .intro id' e' j' b' hx' hb';rw[hex]at hx';cases hx';cases hb';exact(hH.rep id b hv).peel
   .intro c' id' e' n' cp' b' hx' hb';rw[hex]at hx';cases hx'
  .rename_i c id e n cp hex;simp only[qpI]at hV;obtain⟨rfl,rfl⟩:=hV;obtain⟨b,rfl⟩:=Hd hv;simp only[List.map_cons,List.map_nil,List.cons.injEq,and_true]at hv;refine fin (some b.peel) (by rw[hex];exact he) ?_ ?_
   .intro id' e' j' b' hx' hb';rw[hex]at hx';cases hx'
   .intro c' id' e' n' cp' b' hx' hb';rw[hex]at hx';cases hx';cases hb';exact(hH.rep id b hv).peel
  .rename_i hex;simp only[qpI]at hV;obtain⟨rfl,rfl⟩:=hV;exact fin none (by rw[hex];exact he) (λ_ _ _ _ _ h=>by cases h) (λ_ _ _ _ _ _ _ h=>by cases h)
  .rename_i id e len cp hex;simp only[qpI]at hV;obtain⟨rfl,rfl⟩:=hV;obtain⟨b,rfl⟩:=Hd hv;simp only[List.map_cons,List.map_nil,List.cons.injEq,and_true]at hv;have he:QEC P t id e len cp (lo.map ev) (hi.map ev) (mx.map ev) b.peel=some eff:=he;obtain⟨h4,h5⟩:=Qho (len:=len) he hp (r:=r) (w:=w) (hH.rep id b hv).peel;refine Jo (w':=w) (v:=eff.val.den r) ?_ (k r w (by rw[h5];exact Qv.id look r nid w))
   unfold execOp;simp only[ho];rw[hx,h1,h2,h3,hex];exact KV h4
 .
  rename_i t len parts;simp only[qpI]at hV;obtain⟨rfl,rfl⟩:=hV;have hmem:∀ p∈parts.toList,p.2∈o.op.operands:=λp hpm=>by rw[ho];simp[Op.operands];exact⟨p.1,by simpa using hpm⟩
  obtain⟨w',r',h1,h2⟩:=QbQ he (r:=r) (λq hq=>by
   obtain⟨p,hpm,rfl⟩:=List.mem_map.1 hq;exact hsc p.2 (hmem p hpm)) w
  refine Jo (w':=w') (v:=eff.val.den r') ?_ (k r' w' h2);unfold execOp;simp only[ho]
  have:(parts.map λ(i,x)=>(i,a.eval x))=((parts.toList.map λp=>(p.1,ev p.2)).map λx=>(x.1,x.2.den r)).toArray:=by
   apply Array.ext';rw[Array.toList_map,List.map_map];simp only[List.map_inj_left];intro p hpm;show(p.1,a.eval p.2)=_;rw[hρ p.2 (hmem p hpm)];rfl
  rw[this];exact KV h1
 .
  rename_i args ts;split at hV<;>(try (simp only[noV,qpI]at hV;obtain⟨rfl,rfl⟩:=hV;cases he;done))
  rename_i s x hargs;have hargs':args = #[s,x]:=by apply Array.ext';simpa using hargs
  subst hargs';have hs:=hρ s (by rw[ho];simp[Op.operands,Call.operands])
  have hx:=hρ x (by rw[ho];simp[Op.operands,Call.operands])
  have happ:∃ w' r',(Builtin.append_ ts.toList.toArray o.type #[(ev s).den r,(ev x).den r]).run P w = .ok (eff.val.den r') w'/\Qv look r nid eff.upd w r' w':=by
   simp only[qpI]at hV;obtain⟨rfl,rfl⟩:=hV;exact QYR he hp hH hv o.type
  obtain⟨w',r',h1,h2⟩:=happ;refine Jo (w':=w') (v:=eff.val.den r') ?_ (k r' w' h2);unfold execOp;simp only[ho];simp only[resolve,invoke,builtin,Sem.run_bind,Sem.run_pure,Result.andThen_ok,List.map_toArray,List.map_cons,List.map_nil,hs,hx];have h1':(Builtin.append_ ts o.type #[(ev s).den r,(ev x).den r]).run P w = .ok (eff.val.den r') w':=by simpa using h1
  rw[h1'];rfl
 .
  rename_i f args ts;have hf:=hρ f (by rw[ho];simp[Op.operands,Call.operands])
  have hfs:=hsc f (by rw[ho];simp[Op.operands,Call.operands])
  split at hV<;>(try (simp only[noV,qpI]at hV;obtain⟨rfl,rfl⟩:=hV;cases he;done))
  .rename_i g cap hef;split at hV<;>(try (simp only[noV,qpI]at hV;obtain⟨rfl,rfl⟩:=hV;cases he;done))
   rename_i fc hc;obtain⟨hg,hs⟩:=hC g fc hc;rw[hef]at hfs
   have hall:AV.allL (λi=>!inR nid i) (args.toList.map ev++cap)=true:=by
    rw[j5,Zp (λx hx=>hsc x (by rw[ho];simp[Op.operands,Call.operands];exact .inr (by simpa using hx)))]
    exact hfs
   refine QBc (f:=g) (args:=(AV.denL r (args.toList.map ev++cap)).toArray) ?_ ((hs _ nid all r w look blks eff hH hall (by rw[hV];exact hv) (by rw[hV];exact he) hp).mono λe w' ⟨r',h1,h2⟩=>⟨_,h1,k r' w' h2⟩)
   unfold execOp;simp only[ho];have ha:=Yw (r:=r) (ρ:=a.eval) (ev:=ev) (xs:=args) (λx hx=>hρ x (by rw[ho];simp[Op.operands,Call.operands];exact .inr (by simpa using hx)))
   simp only[resolve,hf,hef,AV.den,Deferred.ofValue,Sem.run_bind,Sem.run_pure,Result.andThen_ok,invoke,ha];rw[qY];simpa using Wd hg _ w
  .rename_i g l hef;split at hV<;>(try (simp only[noV,qpI]at hV;obtain⟨rfl,rfl⟩:=hV;cases he;done))
   rename_i fc hc;obtain⟨hg,hs⟩:=hC g fc hc;rw[hef]at hfs
   have hall:AV.allL (λi=>!inR nid i) (l++args.toList.map ev)=true:=by
    rw[j5,Zp (λx hx=>hsc x (by rw[ho];simp[Op.operands,Call.operands];exact .inr (by simpa using hx))),Bool.and_true]
    exact hfs
   refine QBc (f:=g) (args:=(AV.denL r (l++args.toList.map ev)).toArray) ?_ ((hs _ nid all r w look blks eff hH hall (by rw[hV];exact hv) (by rw[hV];exact he) hp).mono λe w' ⟨r',h1,h2⟩=>⟨_,h1,k r' w' h2⟩)
   unfold execOp;simp only[ho];have ha:=Yw (r:=r) (ρ:=a.eval) (ev:=ev) (xs:=args) (λx hx=>hρ x (by rw[ho];simp[Op.operands,Call.operands];exact .inr (by simpa using hx)))
   simp only[resolve,hf,hef,AV.den,Deferred.ofValue,Sem.run_bind,Sem.run_pure,Result.andThen_ok,invoke,ha];rw[qY];simpa using Wd hg _ w
 .
  rename_i x name args ts;have hx:=hρ x (by rw[ho];simp[Op.operands,Call.operands])
  have hxs:=hsc x (by rw[ho];simp[Op.operands,Call.operands])
  split at hV<;>(try (simp only[noV,qpI]at hV;obtain⟨rfl,rfl⟩:=hV;cases he;done))
  .rename_i t v hex;split at hV<;>(try (simp only[noV,qpI]at hV;obtain⟨rfl,rfl⟩:=hV;cases he;done))
   rename_i g hm;split at hV<;>(try (simp only[noV,qpI]at hV;obtain⟨rfl,rfl⟩:=hV;cases he;done))
   rename_i fc hc;obtain⟨hg,hs⟩:=hC g fc hc;rw[hex]at hxs
   have hall:AV.allL (λi=>!inR nid i) (v::args.toList.map ev)=true:=by
    simp only[AV.allL,qbA];exact⟨hxs,Zp (λx hx=>hsc x (by rw[ho];simp[Op.operands,Call.operands];exact .inr (by simpa using hx)))⟩
   refine QBc (f:=g) (args:=(AV.denL r (v::args.toList.map ev)).toArray) ?_ ((hs _ nid all r w look blks eff hH hall (by rw[hV];exact hv) (by rw[hV];exact he) hp).mono λe w' ⟨r',h1,h2⟩=>⟨_,h1,k r' w' h2⟩)
   unfold execOp;simp only[ho];have ha:=Yw (r:=r) (ρ:=a.eval) (ev:=ev) (xs:=args) (λx hx=>hρ x (by rw[ho];simp[Op.operands,Call.operands];exact .inr (by simpa using hx)))
   have hmm:=hM t name g hm (v.den r) w;simp[resolve,invoke,callMethod,ha,hx,hex,AV.den,hmm,AV.denL];simpa using Wd hg _ w
  .rename_i b t v t' v' hex;split at hV<;>(try (simp only[noV,qpI]at hV;obtain⟨rfl,rfl⟩:=hV;cases he;done))
   rename_i g1 g2 hm hm';split at hV<;>(try (simp only[noV,qpI]at hV;obtain⟨rfl,rfl⟩:=hV;cases he;done))
   rename_i fc fc' hc hc';have hv1:(zI b (fc (v::args.toList.map ev) nid all) (fc' (v'::args.toList.map ev) nid all)).1.map look=blks.map some:=by rw[hV];exact hv
   have he1:(zI b (fc (v::args.toList.map ev) nid all) (fc' (v'::args.toList.map ev) nid all)).2 blks=some eff:=by rw[hV];exact he
   obtain⟨bl,e1,k1,k2,k3,k4,k5⟩:=Qlf hv1 he1;rw[hex]at hxs hx;simp only[AV.all,qbA]at hxs;have ha:=Yw (r:=r) (ρ:=a.eval) (ev:=ev) (xs:=args) (λx hx=>hρ x (by rw[ho];simp[Op.operands,Call.operands];exact .inr (by simpa using hx)))
   have fin:∀(t:TypeId) (v:AV) (g:FuncId) (fc:FC),M t name=some g->C g=some fc->v.all (λi=>!inR nid i)=true->a.eval x=(AV.ifc t v).den r->(fc (v::args.toList.map ev) nid all).1.map look=bl.map some->(fc (v::args.toList.map ev) nid all).2 bl=some e1->o.wp P a w K Q:=by
    intro t v g fc hm hc hxs hx k1 k2;obtain⟨hg,hs⟩:=hC g fc hc
    have hall:AV.allL (λi=>!inR nid i) (v::args.toList.map ev)=true:=by
     simp only[AV.allL,qbA];exact⟨hxs,Zp (λx hx=>hsc x (by rw[ho];simp[Op.operands,Call.operands];exact .inr (by simpa using hx)))⟩
    refine QBc (f:=g) (args:=(AV.denL r (v::args.toList.map ev)).toArray) ?_ ((hs _ nid all r w look bl e1 hH hall k1 k2 (k3.trans hp)).mono λe w' ⟨r',h1,h2⟩=>⟨_,h1,by rw[k5 r'];exact k r' w' (k4 ▸ h2)⟩)
    unfold execOp;simp only[ho];have hmm:=hM t name g hm (v.den r) w;simp[resolve,invoke,callMethod,ha,hx,AV.den,hmm,AV.denL];simpa using Wd hg _ w
   cases b with
   | true=>exact fin t v g1 fc hm hc hxs.1 hx k1 k2
   | false=>exact fin t' v' g2 fc' hm' hc' hxs.2 hx k1 k2
 .
  split at hV
  .rename_i v hm;exact QjT hH (by rw[hm,hV]) hv he hp hρ k
  split at hV<;>(try (simp only[noV,qpI]at hV;obtain⟨rfl,rfl⟩:=hV;cases he;done))
  rename_i e hvo;simp only[qpI]at hV;obtain⟨rfl,rfl⟩:=hV;simp only[qsI]at he;subst he;exact Jo (w':=w) (QfQ hvo hp hρ w) (k r w (Qv.id look r nid w))
mutual
def AV.setK(c:Bool):AV->AV
 | .int _ k n => .int c k n
 | .bool _ b => .bool c b
 | .slice _ id e n cap => .slice c id e n cap
 | .ifc t v => .ifc t (v.setK c)
 | .alt b v w=>match c with
  | true=>(match b with|true=>v.setK true|false=>w.setK true)
  | false => .alt b v w
 | .agg l => .agg (AV.setKL c l)
 | .tup l => .tup (AV.setKL c l)
 | v=>v
def AV.setKL(c:Bool):List AV->List AV
 | []=>[]
 | v::l=>v.setK c::AV.setKL c l
end
mutual
theorem vO(r:Nat->Loc)(c:Bool):∀ v:AV,(v.setK c).den r=v.den r
 | .int .. | .bool .. | .slice .. | .slz .. | .ptr .. | .addr .. | .nilp | .nils | .map .. | .yld .. | .nilm | .fn .. | .mth .. | .nilf | .nili | .str .. | .raw .. | .opt .. => rfl
 | .ifc t v=>by simp only[AV.setK,AV.den];rw[vO r c v]
 | .alt b v w=>by
  have h1:=vO r true v;have h2:=vO r true w;cases c with
  | false=>rfl
  | true=>cases b with
   | true=>exact h1
   | false=>exact h2
 | .agg l=>by simp only[AV.setK,AV.den];rw[den_setKL r c l]
 | .tup l=>by simp only[AV.setK,AV.den];rw[den_setKL r c l]
theorem den_setKL(r:Nat->Loc)(c:Bool):∀ l:List AV,AV.denL r (AV.setKL c l)=AV.denL r l
 | []=>rfl
 | v::l=>by simp only[AV.setKL,AV.denL];rw[vO r c v,den_setKL r c l]
end
def qe(gc:Bool)(P:Program)(C:FuncId->Option FC)(M:TypeId->String->Option FuncId)(op:Op)(ev:Operand->AV)(nid:Nat)(all:List Nat):jf:=match gc with
 | false=>ju P C M op ev nid all
 | true=>((ju P C M op ev nid all).1,λblks=>match (ju P C M op ev nid all).2 blks with
  | some e=>some ⟨true,e.pre,e.val.setK true,e.upd⟩
  | none=>none)
theorem QDg{gc:Bool}{C:FuncId->Option FC}{M:TypeId->String->Option FuncId}(hC:∀ f fc,C f=some fc->QS P f fc)(hM:QBI P M){o:Oper}(hH:HOk r w nid look){all:List Nat}(hV:qe gc P C M o.op ev nid all=(ids,g))(hv:ids.map look=blks.map some)(he:g blks=some eff)(hp:eff.pre=true)(hρ:∀ x∈o.op.operands,a.eval x=(ev x).den r)(hsc:∀ x∈o.op.operands,(ev x).all (λi=>!inR nid i)=true)(k:∀ r' w',Qv look r nid eff.upd w r' w'->K (a.put o.dst (eff.val.den r')) w'):o.wp P a w K Q:=by
 cases gc with
 | false=>exact QR8 hC hM hH hV hv he hp hρ hsc k
 | true=>
  simp only[qe,qpI]at hV;obtain⟨rfl,rfl⟩:=hV;simp only at he;split at he<;>(try (cases he;done))
  rename_i e h0;simp only[qsI]at he;subst he;refine QR8 hC hM hH rfl hv h0 hp hρ hsc λr' w' hpost=>?_;have:=k r' w' hpost;simp only[vO]at this;exact this
