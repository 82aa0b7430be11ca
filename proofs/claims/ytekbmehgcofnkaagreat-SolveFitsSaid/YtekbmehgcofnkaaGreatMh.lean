/- - -/
import Derived.Test.YtekbmehgcofnkaaGreatMg
import Derived.RangeFuncRecord
import Derived.Laws.MakeOwn
namespace Go.SX
open Go Go.RowKit Go.Proofs.YtekbmehgcofnkaaGreat Told
def vA(v:AV):Value:=v.den λ_=>Loc.none 0
variable {v z:AV}{β:Type}{P:Program}{kt t et ty:TypeId}{k k':IntKind}{n:Int}{es es':List MapEntry}{w:World}{b cl bm:Nat}{eff:Eff}{r:Nat->Loc}{has:Int->Bool}{get:Int->AV}
theorem QIS(h:v.all (λ_=>false)=true)(r:Nat->Loc):v.den r=vA v:=JX (p:=λ_=>false) (λ_ hf=>by cases hf) v h
def Ye(P:Program)(kt:TypeId)(k:IntKind):Bool:=match P.underlying kt with
 | some (.int k')=>k==k'
 | _=>false
def XJ(k:IntKind)(n:Int):List MapEntry->Nat->Option (Option (Nat×Value))
 | [],_=>some none
 | e::es,i=>match e.key with
  | .int k' m=>match k==k' with
   | true=>(match decide (n=m)with|true=>some (some (i,e.val))|false=>XJ k n es (i+1))
   | false=>none
  | _=>none
def Y6(key val:Value):List MapEntry->Nat->List MapEntry
 | [],_=>[]
 | e::es,0=>{ e with key,val }::es
 | e::es,i+1=>e::Y6 key val es i
def Xq:List MapEntry->Nat->List MapEntry
 | [],_=>[]
 | _::es,0=>es
 | e::es,i+1=>e::Xq es i
def QFz(P:Program)(kt et:TypeId)(k:IntKind)(n:Int)(es:List MapEntry):Option Eff:=match Ye P kt k,XJ k n es 0 with
 | true,some (some (_,v))=>some ⟨true,true,ofValue v,[]⟩
 | true,some none=>match (P.info? et).bind (·.zero)with
  | some z=>some ⟨true,true,ofValue z,[]⟩
  | none=>none
 | _,_=>none
def Gu(P:Program)(kt:TypeId)(id:Nat)(k:IntKind)(n:Int)(v:AV)(es:List MapEntry)(cl:Nat):Option Eff:=match Ye P kt k,v.all (λ_=>false),XJ k n es 0 with
 | true,true,some (some (i,_))=>some ⟨true,true,.tup [],[(id,.mp (Y6 (.int k n) (vA v) es i) cl)]⟩
 | true,true,some none=>some ⟨true,true,.tup [],[(id,.mp (es++[{ key := .int k n,val:=vA v,born:=cl }]) (cl+1))]⟩
 | _,_,_=>none
def QAT(P:Program)(kt:TypeId)(id:Nat)(k:IntKind)(n:Int)(es:List MapEntry)(cl:Nat):Option Eff:=match Ye P kt k,XJ k n es 0 with
 | true,some (some (i,_))=>some ⟨true,true,.tup [],[(id,.mp (Xq es i) cl)]⟩
 | true,some none=>some ⟨true,true,.tup [],[(id,.mp es cl)]⟩
 | _,_=>none
def QI3:AV->Value->Bool
 | .bool _ b,.bool b'=>b==b'
 | .int _ k n,.int k' n'=>k==k'&&decide (n=n')
 | _,_=>false
def isI(k:IntKind):AV->Bool
 | .int _ k' _=>k==k'
 | _=>false
def toI:AV->Int
 | .int _ _ i=>i
 | _=>0
def Ho(z v:AV):Eff:=match z with
 | .int _ kz _=>⟨false,isI kz v,.int false kz (toI v),[]⟩
 | _=>⟨true,true,v,[]⟩
theorem QPv(h:(Ho z v).pre=true)(r:Nat->Loc):(Ho z v).val.den r=v.den r/\(Ho z v).upd=[]:=by
 unfold Ho at h ⊢;split
 .rename_i c kz i;simp only at h;cases v<;>(try (cases h;done))
  rename_i c' k' i';have e:kz=k':=by simpa[isI]using h
  subst e;exact⟨rfl,rfl⟩
 .exact⟨rfl,rfl⟩
def H6(P:Program)(kt et:TypeId)(k:IntKind)(n:Int)(k':IntKind)(z:AV)(get:Int->AV):Option Eff:=match Ye P kt k,k==k',(P.info? et).bind (·.zero)with
 | true,true,some zz=>(match QI3 z zz with
  | true=>some (Ho z (get n))
  | false=>none)
 | _,_,_=>none
def QE3(P:Program)(kt et:TypeId)(k:IntKind)(n:Int)(k':IntKind)(z:AV)(has:Int->Bool)(get:Int->AV):Option Eff:=match H6 P kt et k n k' z get with
 | some e=>some ⟨false,e.pre,.tup [e.val,.bool false (has n)],[]⟩
 | none=>none
def XE(n:Int)(v:AV)(get:Int->AV)(m:Int):AV:=match decide (m=n)with
 | true=>v
 | false=>get m
def Xp(n:Int)(b:Bool)(has:Int->Bool)(m:Int):Bool:=match decide (m=n)with
 | true=>b
 | false=>has m
def Ve{β:Type}(f:AV->(AV->β)->β):List AV->(List AV->β)->β
 | [],k=>k []
 | v::l,k=>f v λv'=>Ve f l λl'=>k (v'::l')
def VT{β:Type}:Nat->AV->(AV->β)->β
 | 0,v,k=>k v
 | n+1,v,k=>match v with
  | .int c i x=>(match c with|true=>k (.int true i x)|false=>k (.int false i x))
  | .bool c x=>(match c with|true=>k (.bool true x)|false=>k (.bool false x))
  | .fn f l=>Ve (VT n) l λl'=>k (.fn f l')
  | .mth f l=>Ve (VT n) l λl'=>k (.mth f l')
  | .alt b v w=>VT n v λv'=>VT n w λw'=>k (.alt b v' w')
  | .ifc t v=>VT n v λv'=>k (.ifc t v')
  | .agg l=>Ve (VT n) l λl'=>k (.agg l')
  | .tup l=>Ve (VT n) l λl'=>k (.tup l')
  | .opt b v=>VT n v λv'=>k (.opt b v')
  | .ptr a b c=>k (.ptr a b c)
  | .slice a b c d e=>k (.slice a b c d e)
  | .slz a b c d=>k (.slz a b c d)
  | .map a=>k (.map a)
  | .yld a=>k (.yld a)
  | .addr a=>k (.addr a)
  | .nilp=>k .nilp
  | .nils=>k .nils
  | .nilm=>k .nilm
  | .nilf=>k .nilf
  | .nili=>k .nili
  | .str s=>k (.str s)
  | .raw v=>k (.raw v)
def Vy(m:Nat)(k:Nat->β):β:=match m with
 | 0=>k 0
 | j+1=>k (Nat.succ j)
def QGI(n:Int)(k:Int->β):β:=match n with
 | .ofNat m=>Vy m λm=>k (.ofNat m)
 | .negSucc m=>Vy m λm=>k (.negSucc m)
def QFN(c:Cap)(k:Cap->β):β:=match c with
 | .lit n=>Vy n λn=>k (.lit n)
 | .of n=>Vy n λn=>k (.of n)
def Yj{β:Type}:Nat->AV->(AV->β)->β
 | 0,v,k=>k v
 | n+1,v,k=>match v with
  | .int c i x=>(match c with|true=>QGI x λx=>k (.int true i x)|false=>k (.int false i x))
  | .bool c x=>(match c with|true=>(match x with|true=>k (.bool true true)|false=>k (.bool true false))|false=>k (.bool false x))
  | .fn f l=>Ve (Yj n) l λl'=>k (.fn f l')
  | .mth f l=>Ve (Yj n) l λl'=>k (.mth f l')
  | .alt b v w=>Yj n v λv'=>Yj n w λw'=>k (.alt b v' w')
  | .ifc t v=>Yj n v λv'=>k (.ifc t v')
  | .agg l=>Ve (Yj n) l λl'=>k (.agg l')
  | .tup l=>Ve (Yj n) l λl'=>k (.tup l')
  | .opt b v=>Yj n v λv'=>k (.opt b v')
  | .ptr a b c=>Vy a λa=>Vy b λb=>Vy c λc=>k (.ptr a b c)
  | .slice a b c d e=>Vy b λb=>Vy c λc=>Vy d λd=>QFN e λe=>(match a with|true=>k (.slice true b c d e)|false=>k (.slice false b c d e))
  | .slz a b c d=>k (.slz a b c d)
  | .map a=>Vy a λa=>k (.map a)
  | .yld a=>Vy a λa=>k (.yld a)
  | .addr a=>k (.addr a)
  | .nilp=>k .nilp
  | .nils=>k .nils
  | .nilm=>k .nilm
  | .nilf=>k .nilf
  | .nili=>k .nili
  | .str s=>k (.str s)
  | .raw v=>k (.raw v)
def QBW{β:Type}:List (Nat×Blk)->(List (Nat×Blk)->β)->β
 | [],k=>k []
 | (i,b)::h,k=>Vy i λi'=>QBW h λh'=>k ((i',b)::h')
def QA7(v:AV)(k:AV->β):β:=match v with
 | .agg l=>k (.agg l)
 | .tup l=>k (.tup l)
 | v=>Yj 1 v k
def QJr(l:List AV)(k:List AV->β):β:=Ve QA7 l k
def GN{α:Type}(on:Bool)(f:α->(α->β)->β)(x:α)(k:α->β):β:=match on with
 | false=>k x
 | true=>f x k
theorem ju{β:Type}{f:AV->(AV->β)->β}(hf:∀ v k,f v k=k v):∀(l:List AV) (k:List AV->β),Ve f l k=k l
 | [],_=>rfl
 | v::l,k=>by rw[Ve,hf,ju hf l]
theorem je{β:Type}:∀(n:Nat) (v:AV) (k:AV->β),VT n v k=k v
 | 0,_,_=>rfl
 | n+1,v,k=>by
  cases v<;>simp only[VT,je n,ju (je n)]
  .rename_i c i x;cases c<;>rfl
  .rename_i c x;cases c<;>rfl
theorem QBB(m:Nat)(k:Nat->β):Vy m k=k m:=by cases m<;>rfl
theorem QeE(n:Int)(k:Int->β):QGI n k=k n:=by cases n<;>simp only[QGI,QBB]
theorem QXM(c:Cap)(k:Cap->β):QFN c k=k c:=by cases c<;>simp only[QFN,QBB]
theorem QIY{β:Type}:∀(n:Nat) (v:AV) (k:AV->β),Yj n v k=k v
 | 0,_,_=>rfl
 | n+1,v,k=>by
  cases v<;>simp only[Yj,QIY n,ju (QIY n),QBB,QeE,QXM]
  .rename_i c i x;cases c<;>rfl
  .rename_i c x;cases c<;>cases x<;>rfl
  .rename_i a b c d e;cases a<;>rfl
theorem QJL{β:Type}:∀(l:List (Nat×Blk)) (k:List (Nat×Blk)->β),QBW l k=k l
 | [],_=>rfl
 | (i,b)::h,k=>by rw[QBW,QBB,QJL h]
theorem QCh(v:AV)(k:AV->β):QA7 v k=k v:=by
 cases v<;>simp only[QA7,QIY]
theorem QcJ(l:List AV)(k:List AV->β):QJr l k=k l:=ju QCh l k
theorem G5{α:Type}{f:α->(α->β)->β}(hf:∀ x k,f x k=k x)(on:Bool)(x:α)(k:α->β):GN on f x k=k x:=by
 cases on with
 | false=>rfl
 | true=>exact hf x k
def QFo(P:Program)(kt:TypeId)(id:Nat)(k:IntKind)(n:Int)(v:AV)(k':IntKind)(z:AV)(has:Int->Bool)(get:Int->AV):Option Eff:=match Ye P kt k,k==k',v.all (λ_=>false)with
 | true,true,true=>some ⟨true,true,.tup [],[(id,.mpf k' z (Xp n true has) (XE n v get))]⟩
 | _,_,_=>none
def QIp(P:Program)(kt:TypeId)(id:Nat)(k:IntKind)(n:Int)(k':IntKind)(z:AV)(has:Int->Bool)(get:Int->AV):Option Eff:=match Ye P kt k,k==k' with
 | true,true=>some ⟨true,true,.tup [],[(id,.mpf k' z (Xp n false has) (XE n z get))]⟩
 | _,_=>none
def QLx:Blk->Option Nat
 | .rowz _ _ _ n _=>some n
 | .frz _ n _=>some n
 | _=>none
def QIq:Value->Option CK
 | .int k n=>(match decide (n=0)with|true=>some (.int k)|false=>none)
 | .bool b=>(match b with|true=>none|false=>some .bool)
 | _=>none
def Gl:List Value->Option (List CK)
 | []=>some []
 | v::l=>match QIq v,Gl l with
  | some k,some ks=>some (k::ks)
  | _,_=>none
def QFS(P:Program)(t:TypeId)(c c':AV)(nid:Nat):Option Eff:=match P.underlying t,c,c' with
 | some (.slice e),.int _ _ n,.int _ _ n'=>(match P.info? e with
  | some i=>(match i.zero with
   | some z=>(match Gl z.cells.toList with
    | some ks=>(match Nat.beq i.size ks.length,Nat.ble i.bytes 4096 with
     | true,true=>some ⟨false,decide (n=n')&&decide (0<=n/\n<=17179869184),.slz nid 0 n.toNat (.of 0),[(nid,.rowz true e ks n.toNat λ_ _=>0)]⟩
     | _,_=>none)
    | none=>none)
   | none=>none)
  | none=>none)
 | _,_,_=>none
def QHx(P:Program)(kt et:TypeId)(l:List AV)(es:List MapEntry):Option Eff:=match YV P kt,l,(P.info? et).bind (·.zero)with
 | true,[.int _ .i64 a,.int _ .i64 b,.int _ .i64 c,.int _ .i64 d],some (.int kz z)=>(match decide (z=0)with
  | true=>some ⟨false,wf4 kz es,.int false kz (KL es [a,b,c,d]),[]⟩
  | false=>none)
 | _,_,_=>none
def QFX(P:Program)(kt:TypeId)(id:Nat)(l:List AV)(v:AV)(es:List MapEntry)(cl:Nat):Option Eff:=match YV P kt,l,v with
 | true,[.int _ .i64 a,.int _ .i64 b,.int _ .i64 c,.int _ .i64 d],.int _ kz n=>some ⟨false,wf4 kz es,.tup [],[(id,.mp (JA [a,b,c,d] (KK a b c d) (.int kz n) cl es) (clL [a,b,c,d] cl es))]⟩
 | _,_,_=>none
def QDD(P:Program)(t:TypeId)(m m' j:Nat)(seen:List Nat)(last:Nat)(es:List MapEntry)(cl:Nat):Option Eff:=match Nat.beq m m',Nat.beq j 0,P.underlying t with
 | true,true,some (.map kt et)=>(match (P.info? et).bind (·.zero),QGp P kt (QE es seen)with
  | some (.int kz _),some ka=>some ⟨false,(decide (last=cl)&&X7 es seen)&&wfA P kt kz es,.tup [ka,.int false kz (intV (QE es seen).val)],[]⟩
  | _,_=>none)
 | _,_,_=>none
def qo(e n:Nat)(g:Nat->Nat->Int):Nat->Nat->Int:=λi=>cond (decide (e<=i/\i<e+n)) (λ_=>0) (g i)
def QIP(P:Program)(el:TypeId)(id e n:Nat)(ty:TypeId)(ks:List CK)(m:Nat)(g:Nat->Nat->Int):Option Eff:=match (P.info? el).bind (·.zero)with
 | some z=>(match Gl z.cells.toList with
  | some ks'=>(match ksB ks' ks with
   | true=>some ⟨false,decide (e+n<=m/\0<m),.tup [],[(id,.rowz true ty ks m (qo e n g))]⟩
   | false=>none)
  | none=>none)
 | none=>none
def QAt(P:Program)(op:Op)(ev:Operand->AV)(nid:Nat):Option qA:=match op with
 | .makeMap _ none=>some ([],λ_=>some ⟨true,true,.map nid,[(nid,.mp [] 0)]⟩)
 | .makeSlice t l c=>some ([],λ_=>QFS P t (ev l) (ev c) nid)
 | .range t x=>match P.underlying t,ev x with
  | some (.map _ _),.map id=>some ([id],λ|[.mp _ cl]=>some ⟨true,true,.ptr nid id 0,[(nid,.itm [.map id] t cl [] cl)]⟩|_=>none)
  | _,_=>none
 | .entry x=>match ev x with
  | .ptr id m j=>some ([id,m],λ|[.itm [.map m'] t _ seen last,.mp es cl]=>QDD P t m m' j seen last es cl|_=>none)
  | _=>none
 | .lookup t x ix false=>match P.underlying t,ev x,ev ix with
  | some (.map kt et),.map id,.int _ k n=>some ([id],λ|[.mp es _]=>QFz P kt et k n es|[.mpf k' z _ get]=>H6 P kt et k n k' z get|_=>none)
  | some (.map kt et),.map id,.agg l=>some ([id],λ|[.mp es _]=>QHx P kt et l es|_=>none)
  | _,_,_=>none
 | .lookup t x ix true=>match P.underlying t,ev x,ev ix with
  | some (.map kt et),.map id,.int _ k n=>some ([id],λ|[.mpf k' z has get]=>QE3 P kt et k n k' z has get|_=>none)
  | _,_,_=>none
 | .mapUpdate t m x v=>match P.underlying t,ev m,ev x with
  | some (.map kt _),.map id,.int _ k n=>some ([id],λ|[.mp es cl]=>Gu P kt id k n (ev v) es cl|[.mpf k' z has get]=>VT 6 (ev v) λu=>QFo P kt id k n u k' z has get|_=>none)
  | some (.map kt _),.map id,.agg l=>some ([id],λ|[.mp es cl]=>QFX P kt id l (ev v) es cl|_=>none)
  | _,_,_=>none
 | .insert t m x v=>match P.underlying t,ev m,ev x with
  | some (.map kt _),.map id,.int _ k n=>some ([id],λ|[.mp es cl]=>Gu P kt id k n (ev v) es cl|_=>none)
  | _,_,_=>none
 | .call ⟨.builtin .delete,args,ts⟩=>match args.toList,ts.toList with
  | [m,x],[t,_]=>match P.underlying t,ev m,ev x with
   | some (.map kt _),.map id,.int _ k n=>some ([id],λ|[.mp es cl]=>QAT P kt id k n es cl|[.mpf k' z has get]=>QIp P kt id k n k' z has get|_=>none)
   | _,_,_=>none
  | _,_=>none
 | .call ⟨.builtin .clear,args,ts⟩=>match args.toList,ts.toList with
  | [x],[t]=>match P.underlying t,ev x with
   | some (.slice el),.slz id e n _=>some ([id],λ|[.rowz true ty ks m g]=>QIP P el id e n ty ks m g|_=>none)
   | _,_=>none
  | _,_=>none
 | .binOp .eql t x y _=>match P.underlying t,ev x,ev y with
  | some (.slice _),.slz id _ len _,.nils=>some ([id],fun
   | [b]=>(match QLx b with
    | some n=>some ⟨false,decide (0<len/\len<=n),.bool true false,[]⟩
    | none=>none)
   | _=>none)
  | _,_,_=>none
 | _=>none
theorem QP8{k:IntKind}{n:Int}:∀{es:List MapEntry} {i:Nat} {x:Option (Nat×Value)},XJ k n es i=some x->Instr.findNow (.int k) (.int k n) es i=some x
 | [],i,x,h=>h
 | e::es,i,x,h=>by
  simp only[XJ]at h;split at h<;>(try (cases h;done))
  rename_i k' m he;split at h<;>(try (cases h;done))
  rename_i hk;have hk:k=k':=by simpa using hk
  subst hk;simp only[Instr.findNow,he,Instr.sameNow,if_true]
  by_cases hm:n=m
  .subst hm;simp only[decide_true]at h;simp only[beq_self_eq_true];exact h
  .simp only[hm,decide_false]at h;have:(n==m)=false:=by simpa using hm
   simp only[this];exact QP8 h
theorem QNW(h:Ye P kt k=true):P.underlying kt=some (.int k):=by
 unfold Ye at h;split at h<;>(try (cases h;done))
 rename_i k' hu;have:k=k':=by simpa using h
 subst this;exact hu
theorem Xa{x:Option (Nat×Value)}(hk:Ye P kt k=true)(h:XJ k n es 0=some x)(w:World):
  (Instr.findKey kt (.int k n) es).run P w = .ok x w:=by
 simp only[Instr.findKey,Sem.run_bind,run_underlying (QNW hk),Result.andThen_ok,QP8 h,Sem.run_pure]
theorem Qe3(hk:Ye P kt k=true)(b:Bool)(m:Nat)(w:World):(Instr.checkKey b (m+1) kt (.int k n)).run P w = .ok () w:=by
 rw[Instr.checkKey,Sem.run_bind,run_underlying (QNW hk)];rfl
theorem YH(hk:Ye P kt k=true)(b:Bool)(w:World):(Instr.checkKey b 10000 kt (.int k n)).run P w = .ok () w:=Qe3 hk b 9999 w
theorem X0{es:Array MapEntry}(h:bk w b=some (.map es cl)):(getObj b).run P w = .ok (.map es cl) w:=by
 unfold bk at h;simp[getObj,Sem.run,h]
theorem QDa{es:Array MapEntry}{o':Obj}(h:bk w b=some (.map es cl)):(setObj b o').run P w = .ok () (w.putObj b o'):=by
 unfold bk at h;simp[setObj,Sem.run,h,World.putObj]
theorem QCX{z:Value}(h:(P.info? t).bind (·.zero)=some z)(w:World):(zeroValue t).run P w = .ok z w:=by
 cases hi:P.info? t with
 | none=>simp[hi]at h
 | some i=>
  simp only[hi,Option.bind_some]at h;simp[zeroValue,typeInfo,hi,h,Sem.run_bind]
theorem Hy{k:IntKind}{n:Int}:∀{es:List MapEntry} {i j:Nat} {v:Value},XJ k n es i=some (some (j,v))->i<=j/\∃ e,es[j-i]? = some e/\e.key = .int k n/\e.val=v
 | [],i,j,v,h=>by simp[XJ]at h
 | e::es,i,j,v,h=>by
  simp only[XJ]at h;split at h<;>(try (cases h;done))
  rename_i k' m he;split at h<;>(try (cases h;done))
  rename_i hk;have hk:k=k':=by simpa using hk
  subst hk
  by_cases hm:n=m
  .subst hm;simp only[decide_true,qsI,qpI]at h;obtain⟨rfl,rfl⟩:=h;exact⟨qlr _,e,by simp,he,rfl⟩
  .simp only[hm,decide_false]at h;obtain⟨h1,e',h2,h3⟩:=Hy h;exact⟨by omega,e',by rw[show j-i=(j-(i+1))+1 by omega];simpa using h2,h3⟩
theorem QNy(key val:Value):∀(es:List MapEntry) (i:Nat),es.modify i (λe=>{ e with key,val })=Y6 key val es i
 | [],i=>by cases i<;>rfl
 | e::es,0=>rfl
 | e::es,i+1=>by rw[List.modify_succ_cons,QNy key val es i];rfl
theorem QRi:∀(es:List MapEntry) (i:Nat),es.eraseIdx i=Xq es i
 | [],i=>by cases i<;>rfl
 | e::es,0=>rfl
 | e::es,i+1=>by rw[List.eraseIdx_cons_succ,QRi es i];rfl
theorem QHH(w:World)(b:Nat)(o:Obj):Fr w (w.putObj b o) (λk=>k=b):=by
 refine⟨rfl,rfl,rfl,by simp[World.putObj],qlr _,λk _ hk=>?_⟩
 unfold bk;exact World.putObj_heap_other hk
theorem QIw{o o':Obj}(h:bk w b=some o):bk (w.putObj b o') b=some o':=by
 unfold bk;exact World.putObj_heap_same (Vt h)
theorem QZA(hu:P.underlying t=some (.map kt et))(hb:bk w b=some (.map es.toArray cl))(h:QFz P kt et k n es=some eff)(r:Nat->Loc):
  (Instr.lookup t (.map (some b)) (.int k n) false).run P w = .ok (eff.val.den r) w/\eff.upd=[]:=by
 unfold QFz at h;split at h<;>(try (cases h;done))
 .rename_i i v hk hf;simp only[qsI]at h;subst h;refine⟨?_,rfl⟩;simp only[Instr.lookup,Sem.run_bind,run_underlying hu,Result.andThen_ok,X0 hb,Sem.run_pure,YH hk,Xa hk hf,QGC];rfl
 .rename_i hk hf;split at h<;>(try (cases h;done))
  rename_i z hz;simp only[qsI]at h;subst h;refine⟨?_,rfl⟩;simp only[Instr.lookup,Sem.run_bind,run_underlying hu,Result.andThen_ok,X0 hb,Sem.run_pure,YH hk,Xa hk hf,QGC,QCX hz];rfl
theorem QDA{id:Nat}(hu:P.underlying t=some (.map kt et))(hb:bk w b=some (.map es.toArray cl))(h:Gu P kt id k n v es cl=some eff)(r:Nat->Loc):
  ∃ es' cl',(Instr.mapUpdate t (.map (some b)) (.int k n) (v.den r)).run P w = .ok () (w.putObj b (.map es'.toArray cl'))/\eff=⟨true,true,.tup [],[(id,.mp es' cl')]⟩:=by
 unfold Gu at h;split at h<;>(try (cases h;done))
 .rename_i i x hk hv hf;simp only[qsI]at h;obtain⟨_,e,he,hek,_⟩:=Hy hf;refine⟨_,_,?_,h.symm⟩
  have hkey:((es.toArray[i]?).map (·.key)).getD (.int k n) = .int k n:=by
   rw[List.getElem?_toArray];simp only[Nat.sub_zero]at he;rw[he];simpa using hek
  have hst:(Instr.keyThatStays (.int k n) (.int k n)).run P w = .ok (.int k n) w:=by
   simp[Instr.keyThatStays,Instr.sameBits]
  simp only[Instr.mapUpdate,Sem.run_bind,run_underlying hu,Result.andThen_ok,X0 hb,YH hk,Xa hk hf,hkey,hst,QIS hv r];rw[QDa hb];congr 2;rw[List.modify_toArray,QNy]
 .rename_i hk hv hf;simp only[qsI]at h;refine⟨_,_,?_,h.symm⟩;simp only[Instr.mapUpdate,Sem.run_bind,run_underlying hu,Result.andThen_ok,X0 hb,YH hk,Xa hk hf,QIS hv r];rw[QDa hb];simp
theorem QHD{tys:Array TypeId}{id:Nat}(hu:P.underlying t=some (.map kt et))(hb:bk w b=some (.map es.toArray cl))(ht:tys[0]? = some t)(h:QAT P kt id k n es cl=some eff):
  ∃ es' cl',(Builtin.delete_ tys ty #[.map (some b),.int k n]).run P w = .ok (.tuple #[]) (w.putObj b (.map es'.toArray cl'))/\eff=⟨true,true,.tup [],[(id,.mp es' cl')]⟩:=by
 unfold QAT at h;split at h<;>(try (cases h;done))
 .rename_i i x hk hf;simp only[qsI]at h;obtain⟨_,e,he,_⟩:=Hy hf;refine⟨_,_,?_,h.symm⟩;simp only[Builtin.delete_,ht,Sem.run_bind,run_underlying hu,Result.andThen_ok,X0 hb,YH hk,Xa hk hf];simp only[List.getElem?_toArray,List.getElem?_cons_zero,List.getElem?_cons_succ,Sem.run_bind,run_underlying hu,Result.andThen_ok,X0 hb,YH hk,Xa hk hf];rw[QDa hb];simp only[Result.andThen_ok,Sem.run_pure];congr 3;rw[<-QRi];apply Array.ext';rw[Array.toList_eraseIdxIfInBounds]
 .rename_i hk hf;simp only[qsI]at h;refine⟨_,_,?_,h.symm⟩;simp only[Builtin.delete_,ht,Sem.run_bind,run_underlying hu,Result.andThen_ok,X0 hb,YH hk,Xa hk hf];simp only[List.getElem?_toArray,List.getElem?_cons_zero,List.getElem?_cons_succ,Sem.run_bind,run_underlying hu,Result.andThen_ok,X0 hb,YH hk,Xa hk hf];rw[QDa hb];simp only[Result.andThen_ok,Sem.run_pure]
theorem QD3{lk:Nat->Option Blk}{nid id cl:Nat}{es0:List MapEntry}{cl0:Nat}(hid:inR nid id=false)(hlk:lk id=some (.mp es0 cl0))(hb:bk w (r id).blk=some (.map es0.toArray cl0)):Qg lk r nid [(id,.mp es cl)] w r (w.putObj (r id).blk (.map es.toArray cl)):=
 Qg.same1 hid hlk rfl (λ_ h=>h) (QIw hb) (QHH w _ _)
structure VD (k:IntKind) (es:List MapEntry):Prop where
 keys:∀ e∈es,∃ m,e.key = .int k m
 once:(es.map (·.key)).Nodup
theorem VD.tail{e:MapEntry}(h:VD k (e::es)):VD k es:=⟨λx hx=>h.keys x (List.mem_cons_of_mem _ hx),(List.nodup_cons.1 h.once).2⟩
theorem QA2{k:IntKind}(n:Int):∀{es:List MapEntry} (i:Nat),VD k es->∃ x,XJ k n es i=some x/\x.map (·.2)=Kf k n es
 | [],i,_=>⟨none,rfl,rfl⟩
 | e::es,i,h=>by
  obtain⟨m,hm⟩:=h.keys e (by simp)
  by_cases hn:n=m
  .exact⟨some (i,e.val),by simp[XJ,hm,hn],by simp[Kf,hm,hn]⟩
  .obtain⟨x,h1,h2⟩:=QA2 n (i+1) h.tail;exact⟨x,by simp[XJ,hm,hn,h1],by simp[Kf,hm,hn,h2]⟩
theorem QQG{k:IntKind}{n:Int}:∀{es:List MapEntry},VD k es->Kf k n es=none->∀ e∈es,e.key ≠ .int k n
 | [],_,_,e,he=>by cases he
 | e'::es,h,hg,e,he=>by
  obtain⟨m,hm⟩:=h.keys e' (by simp)
  by_cases hn:n=m
  .simp[Kf,hm,hn]at hg
  .simp only[Kf,hm,hn,and_false,decide_false]at hg;rcases List.mem_cons.1 he with rfl|he
   .rw[hm];simp only[ne_eq,Value.int.injEq,true_and];exact λh=>hn h.symm
   .exact QQG h.tail hg e he
theorem QKG{key val:Value}:∀{es:List MapEntry} {i:Nat} {e:MapEntry},es[i]? = some e->e.key=key->(Y6 key val es i).map (·.key)=es.map (·.key)
 | [],i,e,h,_=>by simp at h
 | x::es,0,e,h,hk=>by
  simp only[List.getElem?_cons_zero,qsI]at h;subst h;simp[Y6,hk]
 | x::es,i+1,e,h,hk=>by
  simp only[List.getElem?_cons_succ]at h;simp[Y6,QKG h hk]
theorem QXg(h:VD k es)(he:es'.map (·.key)=es.map (·.key)):VD k es':=by
 refine⟨λe hm=>?_,by rw[he];exact h.once⟩
 have:e.key∈es'.map (·.key):=List.mem_map_of_mem hm;rw[he]at this;obtain⟨e2,h2,h3⟩:=List.mem_map.1 this;obtain⟨m,hm⟩:=h.keys e2 h2;exact⟨m,by rw[<-h3,hm]⟩
theorem QLy{k:IntKind}{n:Int}{val:Value}(m:Int):∀{es:List MapEntry} {i:Nat} {e:MapEntry},VD k es->es[i]? = some e->e.key = .int k n->Kf k m (Y6 (.int k n) val es i)=if m=n then some val else Kf k m es
 | [],i,e,_,h,_=>by simp at h
 | x::es,0,e,hK,h,hk=>by
  simp only[List.getElem?_cons_zero,qsI]at h;subst h;simp only[Y6,Kf,hk,true_and]
  by_cases hm:m=n<;>simp[hm]
 | x::es,i+1,e,hK,h,hk=>by
  simp only[List.getElem?_cons_succ]at h;obtain⟨j,hj⟩:=hK.keys x (by simp)
  have hne:j≠n:=by
   intro hjn;have:=(List.nodup_cons.1 hK.once).1;refine this ?_;show x.key∈_;rw[hj,hjn,<-hk];exact List.mem_map_of_mem (List.mem_of_getElem? h)
  simp only[Y6,Kf,hj,true_and]
  by_cases hm:m=j
  .subst hm;simp[hne]
  .simp only[hm,decide_false];exact QLy m hK.tail h hk
theorem QMq{k:IntKind}{n:Int}{val:Value}{cl:Nat}(m:Int):∀{es:List MapEntry},VD k es->Kf k n es=none->Kf k m (es++[{ key := .int k n,val,born:=cl }])=if m=n then some val else Kf k m es
 | [],_,_=>by
  simp only[List.nil_append,Kf,true_and]
  by_cases hm:m=n<;>simp[hm]
 | x::es,hK,hg=>by
  obtain⟨j,hj⟩:=hK.keys x (by simp)
  have hne:n≠j:=λh=>by simp[Kf,hj,h]at hg
  have hg':Kf k n es=none:=by simpa[Kf,hj,hne]using hg
  simp only[List.cons_append,Kf,hj,true_and]
  by_cases hm:m=j
  .subst hm;simp[hne.symm]
  .simp only[hm,decide_false];exact QMq m hK.tail hg'
theorem QJQ{x:MapEntry}:∀{es:List MapEntry} {i:Nat},x∈Xq es i->x∈es
 | [],_,h=>h
 | _::_,0,h=>List.mem_cons_of_mem _ h
 | _::es,i+1,h=>by
  simp only[Xq]at h;rcases List.mem_cons.1 h with rfl|h
  .simp
  .exact List.mem_cons_of_mem _ (QJQ h)
theorem QOC{k:IntKind}:∀{es:List MapEntry} {i:Nat},VD k es->VD k (Xq es i)
 | [],_,h=>h
 | _::_,0,h=>h.tail
 | x::es,i+1,h=>by
  have ht:=QOC (i:=i) h.tail;refine⟨λe he=>?_,?_⟩
  .simp only[Xq]at he;rcases List.mem_cons.1 he with rfl|he
   .exact h.keys _ (by simp)
   .exact ht.keys e he
  .simp only[Xq,List.map_cons,List.nodup_cons];refine⟨λhm=>?_,ht.once⟩;obtain⟨y,hy,hyk⟩:=List.mem_map.1 hm;exact(List.nodup_cons.1 h.once).1 (List.mem_map.2 ⟨y,QJQ hy,hyk⟩)
theorem QQZ{k:IntKind}{n:Int}:∀{es:List MapEntry},VD k es->(∀ e∈es,e.key ≠ .int k n)->Kf k n es=none
 | [],_,_=>rfl
 | x::es,hK,h=>by
  obtain⟨j,hj⟩:=hK.keys x (by simp)
  have hne:n≠j:=λe=>h x (by simp) (by rw[hj,e])
  simp only[Kf,hj,true_and,hne,decide_false];exact QQZ hK.tail (λe he=>h e (by simp[he]))
theorem QMk{k:IntKind}{n:Int}(m:Int):∀{es:List MapEntry} {i:Nat} {e:MapEntry},VD k es->es[i]? = some e->e.key = .int k n->Kf k m (Xq es i)=if m=n then none else Kf k m es
 | [],i,e,_,h,_=>by simp at h
 | x::es,0,e,hK,h,hk=>by
  simp only[List.getElem?_cons_zero,qsI]at h;subst h;simp only[Xq,Kf,hk,true_and]
  by_cases hm:m=n
  .subst hm;simp only[if_true];refine QQZ hK.tail λe he hek=>?_;refine(List.nodup_cons.1 hK.once).1 ?_;show x.key∈_;rw[hk,<-hek];exact List.mem_map_of_mem he
  .simp[hm]
 | x::es,i+1,e,hK,h,hk=>by
  simp only[List.getElem?_cons_succ]at h;obtain⟨j,hj⟩:=hK.keys x (by simp)
  have hne:j≠n:=by
   intro hjn;have:=(List.nodup_cons.1 hK.once).1;refine this ?_;show x.key∈_;rw[hj,hjn,<-hk];exact List.mem_map_of_mem (List.mem_of_getElem? h)
  simp only[Xq,Kf,hj,true_and]
  by_cases hm:m=j
  .subst hm;simp[hne]
  .simp only[hm,decide_false];exact QMk m hK.tail h hk
theorem JZ.keysI(h:JZ r k z has get es):VD k es:=⟨h.keys,h.once⟩
theorem QNV{zz:Value}(h:QI3 z zz=true)(r:Nat->Loc):zz=z.den r:=by
 unfold QI3 at h;split at h
 .simp only[AV.den];rw[eq_of_beq h]
 .simp only[qbA,qdE,beq_iff_eq]at h;simp only[AV.den,h.1,h.2]
 .cases h
theorem JZ.put(h:JZ r k z has get es)(hv:v.all (λ_=>false)=true)(hK:VD k es')(hg:∀ m,Kf k m es'=if m=n then some (vA v)else Kf k m es):JZ r k z (Xp n true has) (XE n v get) es':=by
 refine⟨hK.keys,hK.once,λm=>?_,h.zero,λm hm=>?_,λm hm=>?_⟩
 .unfold XE;split
  .exact hv
  .exact h.flat m
 .rw[hg m];unfold Xp at hm;unfold XE
  by_cases e:m=n
  .simp[e,QIS hv r]
  .simp only[e,decide_false,if_false]at hm ⊢;exact h.yes m hm
 .rw[hg m];unfold Xp at hm;unfold XE
  by_cases e:m=n
  .simp[e]at hm
  .simp only[e,decide_false,if_false]at hm ⊢;exact h.no m hm
theorem JZ.del(h:JZ r k z has get es)(hK:VD k es')(hg:∀ m,Kf k m es'=if m=n then none else Kf k m es):JZ r k z (Xp n false has) (XE n z get) es':=by
 refine⟨hK.keys,hK.once,λm=>?_,h.zero,λm hm=>?_,λm hm=>?_⟩
 .unfold XE;split
  .exact h.zero
  .exact h.flat m
 .rw[hg m];unfold Xp at hm;unfold XE
  by_cases e:m=n
  .simp[e]at hm
  .simp only[e,decide_false,if_false]at hm ⊢;exact h.yes m hm
 .rw[hg m];unfold Xp at hm;unfold XE
  by_cases e:m=n
  .simp[e]
  .simp only[e,decide_false,if_false]at hm ⊢;exact h.no m hm
theorem QfS(hu:P.underlying t=some (.map kt et))(hb:bk w b=some (.map es.toArray cl))(hm:JZ r k' z has get es)(h:H6 P kt et k n k' z get=some eff)(hp:eff.pre=true):
  (Instr.lookup t (.map (some b)) (.int k n) false).run P w = .ok (eff.val.den r) w/\eff.upd=[]:=by
 unfold H6 at h;split at h<;>(try (cases h;done))
 rename_i zz hk hkk hz;split at h<;>(try (cases h;done))
 rename_i hzz;have hkk:k=k':=by simpa using hkk
 subst hkk;simp only[qsI]at h;subst h;obtain⟨hv1,hv2⟩:=QPv hp r;refine⟨?_,hv2⟩;rw[hv1];obtain⟨x,hf,hx⟩:=QA2 n 0 hm.keysI;cases hh:has n with
 | true=>
  rw[hm.yes n hh]at hx;cases x with
  | none=>cases hx
  | some x=>
   simp only[Option.map_some,qsI]at hx;simp only[Instr.lookup,Sem.run_bind,run_underlying hu,Result.andThen_ok,X0 hb,Sem.run_pure,YH hk,Xa hk hf];rw[<-hx];rfl
 | false=>
  rw[(hm.no n hh).1]at hx;cases x with
  | some x=>cases hx
  | none=>
   simp only[Instr.lookup,Sem.run_bind,run_underlying hu,Result.andThen_ok,X0 hb,Sem.run_pure,YH hk,Xa hk hf,QCX hz];rw[(hm.no n hh).2,QNV hzz r];rfl
theorem QZe(hu:P.underlying t=some (.map kt et))(hb:bk w b=some (.map es.toArray cl))(hm:JZ r k' z has get es)(h:QE3 P kt et k n k' z has get=some eff)(hp:eff.pre=true):
  (Instr.lookup t (.map (some b)) (.int k n) true).run P w = .ok (eff.val.den r) w/\eff.upd=[]:=by
 unfold QE3 at h;split at h<;>(try (cases h;done))
 rename_i e0 h';simp only[qsI]at h;subst h;have hp:e0.pre=true:=hp;have h:=h';clear h';unfold H6 at h;split at h<;>(try (cases h;done))
 rename_i zz hk hkk hz;split at h<;>(try (cases h;done))
 rename_i hzz;have hkk:k=k':=by simpa using hkk
 subst hkk;simp only[qsI]at h;subst h;obtain⟨hv1,hv2⟩:=QPv hp r;refine⟨?_,rfl⟩;simp only[AV.den,AV.denL];rw[hv1];obtain⟨x,hf,hx⟩:=QA2 n 0 hm.keysI;cases hh:has n with
 | true=>
  rw[hm.yes n hh]at hx;cases x with
  | none=>cases hx
  | some x=>
   simp only[Option.map_some,qsI]at hx;simp only[Instr.lookup,Sem.run_bind,run_underlying hu,Result.andThen_ok,X0 hb,Sem.run_pure,YH hk,Xa hk hf];rw[<-hx];rfl
 | false=>
  rw[(hm.no n hh).1]at hx;cases x with
  | some x=>cases hx
  | none=>
   simp only[Instr.lookup,Sem.run_bind,run_underlying hu,Result.andThen_ok,X0 hb,Sem.run_pure,YH hk,Xa hk hf,QCX hz];rw[(hm.no n hh).2,QNV hzz r];rfl
theorem QUO{id:Nat}(hu:P.underlying t=some (.map kt et))(hb:bk w b=some (.map es.toArray cl))(hm:JZ r k' z has get es)(h:QFo P kt id k n v k' z has get=some eff):
  ∃ es' cl',(Instr.mapUpdate t (.map (some b)) (.int k n) (v.den r)).run P w = .ok () (w.putObj b (.map es'.toArray cl'))/\JZ r k' z (Xp n true has) (XE n v get) es'/\eff=⟨true,true,.tup [],[(id,.mpf k' z (Xp n true has) (XE n v get))]⟩:=by
 unfold QFo at h;split at h<;>(try (cases h;done))
 rename_i hk hkk hv;have hkk:k=k':=by simpa using hkk
 subst hkk;simp only[qsI]at h;obtain⟨x,hf,hx⟩:=QA2 n 0 hm.keysI;cases x with
 | some x=>
  obtain⟨i,x⟩:=x;obtain⟨es',cl',h1,h2⟩:=QDA (id:=id) (k:=k) (n:=n) (v:=v) (P:=P) (kt:=kt) (cl:=cl) (eff:=⟨true,true,.tup [],[(id,.mp (Y6 (.int k n) (vA v) es i) cl)]⟩) hu hb (by simp only[Gu,hk,hv,hf]) r
  simp only[Eff.mk.injEq,List.cons.injEq,qpI,Blk.mp.injEq,true_and,and_true]at h2;obtain⟨rfl,rfl⟩:=h2;obtain⟨_,e,he,hek,_⟩:=Hy hf;exact⟨_,_,h1,hm.put hv (QXg hm.keysI (QKG he hek)) (λm=>QLy m hm.keysI he hek),h.symm⟩
 | none=>
  obtain⟨es',cl',h1,h2⟩:=QDA (id:=id) (k:=k) (n:=n) (v:=v) (P:=P) (kt:=kt) (cl:=cl) (eff:=⟨true,true,.tup [],[(id,.mp (es++[{ key := .int k n,val:=vA v,born:=cl }]) (cl+1))]⟩) hu hb (by simp only[Gu,hk,hv,hf]) r
  simp only[Eff.mk.injEq,List.cons.injEq,qpI,Blk.mp.injEq,true_and,and_true]at h2;obtain⟨rfl,rfl⟩:=h2;have hg0:Kf k n es=none:=by rw[<-hx];rfl
  have hK:VD k (es++[{ key := .int k n,val:=vA v,born:=cl }]):=by
   refine⟨λe he=>?_,?_⟩
   .rcases List.mem_append.1 he with he|he
    .exact hm.keys e he
    .simp only[List.mem_singleton]at he;subst he;exact⟨n,rfl⟩
   .rw[List.map_append,List.map_cons,List.map_nil,List.nodup_append];refine⟨hm.once,by simp,λa ha b hb'=>?_⟩
    obtain⟨e,he,rfl⟩:=List.mem_map.1 ha;simp only[List.mem_singleton]at hb';subst hb';exact QQG hm.keysI hg0 e he
  exact⟨_,_,h1,hm.put hv hK (λm=>QMq m hm.keysI hg0),h.symm⟩
theorem Qa9{tys:Array TypeId}{id:Nat}(hu:P.underlying t=some (.map kt et))(hb:bk w b=some (.map es.toArray cl))(ht:tys[0]? = some t)(hm:JZ r k' z has get es)(h:QIp P kt id k n k' z has get=some eff):
  ∃ es' cl',(Builtin.delete_ tys ty #[.map (some b),.int k n]).run P w = .ok (.tuple #[]) (w.putObj b (.map es'.toArray cl'))/\JZ r k' z (Xp n false has) (XE n z get) es'/\eff=⟨true,true,.tup [],[(id,.mpf k' z (Xp n false has) (XE n z get))]⟩:=by
 unfold QIp at h;split at h<;>(try (cases h;done))
 rename_i hk hkk;have hkk:k=k':=by simpa using hkk
 subst hkk;simp only[qsI]at h;obtain⟨x,hf,hx⟩:=QA2 n 0 hm.keysI;cases x with
 | some x=>
  obtain⟨i,x⟩:=x;obtain⟨es',cl',h1,h2⟩:=QHD (id:=id) (k:=k) (n:=n) (P:=P) (kt:=kt) (ty:=ty) (cl:=cl) (eff:=⟨true,true,.tup [],[(id,.mp (Xq es i) cl)]⟩) hu hb ht (by simp only[QAT,hk,hf])
  simp only[Eff.mk.injEq,List.cons.injEq,qpI,Blk.mp.injEq,true_and,and_true]at h2;obtain⟨rfl,rfl⟩:=h2;obtain⟨_,e,he,hek,_⟩:=Hy hf;exact⟨_,_,h1,hm.del (QOC hm.keysI) (λm=>QMk m hm.keysI he hek),h.symm⟩
 | none=>
  obtain⟨es',cl',h1,h2⟩:=QHD (id:=id) (k:=k) (n:=n) (P:=P) (kt:=kt) (ty:=ty) (cl:=cl) (eff:=⟨true,true,.tup [],[(id,.mp es cl)]⟩) hu hb ht (by simp only[QAT,hk,hf])
  simp only[Eff.mk.injEq,List.cons.injEq,qpI,Blk.mp.injEq,true_and,and_true]at h2;obtain⟨rfl,rfl⟩:=h2;have hg0:Kf k n es=none:=by rw[<-hx];rfl
  refine⟨_,_,h1,hm.del hm.keysI (λm=>?_),h.symm⟩
  by_cases e:m=n
  .rw[if_pos e,e];exact hg0
  .rw[if_neg e]
theorem Kb.zero{id:Nat}{z n:Nat}{g:Nat->List AV}(h:Kb r id w ty z n g)(hn:(r id).nil=true):n=0:=h.2.2.2.1 hn
theorem QSc{lk:Nat->Option Blk}{nid id cl:Nat}{has0:Int->Bool}{get0:Int->AV}{es0:List MapEntry}{cl0:Nat}(hid:inR nid id=false)(hlk:lk id=some (.mpf k z has0 get0))(hb:bk w (r id).blk=some (.map es0.toArray cl0))(hm:JZ r k z has get es):Qg lk r nid [(id,.mpf k z has get)] w r (w.putObj (r id).blk (.map es.toArray cl)):=
 Qg.same1 hid hlk rfl (λ_ h=>h) ⟨es,cl,QIw hb,hm⟩ (QHH w _ _)
theorem QUL{v:Value}{k:CK}(h:QIq v=some k)(r:Nat->Loc):v=(mkC k 0).den r:=by
 unfold QIq at h;split at h<;>(try (cases h;done))
 .split at h<;>(try (cases h;done))
  rename_i n hn;have:=qdt hn;subst this;simp only[qsI]at h;subst h;rfl
 .split at h<;>(try (cases h;done))
  simp only[qsI]at h;subst h;rfl
theorem QOq{l:List Value}{ks:List CK}(h:Gl l=some ks)(r:Nat->Loc)(j:Nat):l=AV.denL r (cellsOf ks j λ_=>0):=by
 induction l generalizing ks j with
 | nil=>simp only[Gl,qsI]at h;subst h;rfl
 | cons v l ih=>
  unfold Gl at h;split at h<;>(try (cases h;done))
  rename_i k ks' h1 h2;simp only[qsI]at h;subst h;rw[cellsOf,AV.denL,<-QUL h1 r,<-ih h2 (j+1)]
theorem QGP(z:List AV):∀ n,rep n z=Q4 n λ_=>z
 | 0=>rfl
 | n+1=>by
  rw[rep,QGP z n];simp only[Q4,List.map_const',List.length_range,List.replicate_succ]
theorem Qe5{c c':AV}{nid:Nat}(h:QFS P t c c' nid=some eff)(hp:eff.pre=true)(lk:Nat->Option Blk)(r:Nat->Loc)(w:World):
  ∃ r' w',(Instr.makeSlice t (c.den r) (c'.den r)).run P w = .ok (eff.val.den r') w'/\Qg lk r nid eff.upd w r' w':=by
 unfold QFS at h;split at h<;>(try (cases h;done))
 rename_i e c1 k1 n c2 k2 n' hu;split at h<;>(try (cases h;done))
 rename_i i hi;split at h<;>(try (cases h;done))
 rename_i z hz;split at h<;>(try (cases h;done))
 rename_i ks hks;split at h<;>(try (cases h;done))
 rename_i hsz hby
 simp only[qsI]at h;subst h;have hsz:i.size=ks.length:=qnb hsz;have hby:i.bytes<=4096:=Nat.le_of_ble_eq_true hby
 simp only[qbA]at hp;have e1:=qdt hp.1;obtain⟨h0,h1⟩:=qdt hp.2;subst e1;obtain⟨m,rfl⟩:∃ m:Nat,n=m:=⟨n.toNat,by omega⟩
 have hm:m<=17179869184:=by omega
 have hb:i.bytes*m<=281474976710656:=Nat.le_trans (Nat.mul_le_mul hby hm) (by decide)
 have hb':(i.bytes:Int)*(m:Int)<=281474976710656:=by
  have:=(Int.ofNat_le (m:=i.bytes*m) (n:=281474976710656)).2 hb
  rwa [Int.natCast_mul]at this
 have hr:=run_make (P:=P) w t e i z hu hi hz k1 k2 m m h0 (Int.le_refl _) hb' (by omega)
 simp only[Int.toNat_natCast]at hr;let l:Loc:=⟨w.heap.size,0,ks.length,m,false,none,λk=>k=w.heap.size⟩;refine⟨Qh r nid l,_,?_,Qg.new1 (l:=l) (o := .cells (madeCells z.cells (m*i.size)) e) rfl (λ_ h=>h) ?_⟩
 .simp only[AV.den]at hr ⊢;rw[hr];simp[Qh,l,Loc.base,Loc.room,Cap.den]
 .simp only[QK,Kb,Qh,if_true,l];refine⟨trivial,trivial,λk=>by simp,λh=>by simp at h,λj hj=>⟨Vp _ _ _,Jh _ _ _⟩,λ_=>⟨by simp,[],by simp,?_⟩⟩
  rw[W9,if_pos rfl];have hz':=QI4 (Qh r nid l) z (cellsOf ks 0 λ_=>0) (by rw[<-QOq hks]) m
  rw[Vp]at hz';simp only[madeCells,hsz,Int.toNat_natCast];rw[hz',List.append_nil,QGP];rfl
theorem QPT:∀(b z:List Value),z.length=b.length->JO b 0 z=z
 | [],[],_=>rfl
 | [],_::_,h=>by simp at h
 | _::_,[],h=>by simp at h
 | x::b,y::z,h=>by
  simp only[List.length_cons,Nat.add_right_cancel_iff]at h;have:=QCL z [y] b 0;simp only[List.length_cons,List.length_nil,Nat.zero_add,Nat.add_zero,List.cons_append,List.nil_append]at this;rw[JO,List.set_cons_zero,Nat.zero_add,this,QPT b z h]
theorem QfL(a b c z:List Value)(h:z.length=b.length):JO (a++(b++c)) a.length z=a++(z++c):=by
 have:=QCL z a (b++c) 0;rw[Nat.add_zero]at this;rw[this,QCg _ _ _ _ (by omega),QPT b z h]
theorem QfD{el:TypeId}{id e n:Nat}{cp:Cap}{ks:List CK}{m:Nat}{g:Nat->Nat->Int}(hu:P.underlying t=some (.slice el))(hb:QK r id w (.rowz true ty ks m g))(h:QIP P el id e n ty ks m g=some eff)(hp:eff.pre=true)(ty0:TypeId):
  ∃ w',(Builtin.clear_ #[t] ty0 #[(AV.slz id e n cp).den r]).run P w = .ok (.tuple #[]) w'/\eff.val = .tup []/\eff.upd=[(id,.rowz true ty ks m (qo e n g))]/\QK r id w' (.rowz true ty ks m (qo e n g))/\Fr w w' (λk=>k=(r id).blk)/\Qa r id (.rowz true ty ks m g) (r id).blk:=by
 unfold QIP at h;split at h<;>(try (cases h;done))
 rename_i z hz;split at h<;>(try (cases h;done))
 rename_i ks' hks;split at h<;>(try (cases h;done))
 rename_i hkb;have hkb:=XH hkb;subst hkb;simp only[qsI]at h;subst h;obtain⟨h1,h2⟩:=qdt hp;have hb:Kb r id w ty ks'.length m (QV ks' g):=hb;have hn:=GH hb h2;have hfoot:=hb.2.2.1;have hrow:=hb.2.2.2.2.1;have hft:∀ k,(r id).foot k↔k=(r id).blk:=λk=>by rw[hfoot k,hn];simp
 obtain⟨ho,hsz,hlen,hcap,rest,hrest,hbk⟩:=Hi hb hn;have hz':z.cells=(AV.denL r (cellsOf ks' 0 λ_=>0)).toArray:=by rw[<-QOq hks r 0]
 let L:=Q4 m (QV ks' g);let Z:=rep n (cellsOf ks' 0 λ_=>(0:Int));let L':=L.take e++(Z++L.drop (e+n))
 have hZl:∀ k,(rep k (cellsOf ks' 0 λ_=>(0:Int))).length=k:=by
  intro k
  induction k with
  | zero=>rfl
  | succ k ih=>rw[rep,List.length_cons,ih]
 have hZg:∀(i:Nat) (x:List AV),Z[i]? = some x->x=cellsOf ks' 0 λ_=>0:=by
  intro i x hx;have:Z=Q4 n λ_=>cellsOf ks' 0 λ_=>0:=QGP _ _;rw[this]at hx;obtain⟨_,_,h⟩:=WY (List.mem_of_getElem? hx);exact h
 have hLl:L.length=m:=K8 _ _
 have hL'l:L'.length=m:=by
  simp only[L',List.length_append,List.length_take,List.length_drop,Z,hZl,hLl];omega
 have hg:∀(i:Nat) (x:List AV),L'[i]? = some x->AV.denL r x=AV.denL r (QV ks' (qo e n g) i):=by
  intro i x hx;simp only[L']at hx;have htl:(L.take e).length=e:=by rw[List.length_take,hLl];omega
  rcases Nat.lt_or_ge i e with h3|h3
  .rw[List.getElem?_append_left (by omega),List.getElem?_take,if_pos h3]at hx
   have hi:i<m:=by omega
   rw[show L[i]? = some (QV ks' g i)from Xt hi]at hx;simp only[qsI]at hx;subst hx;simp only[QV,qo,show decide (e<=i/\i<e+n)=false from decide_eq_false (by omega),cond_false]
  .rw[List.getElem?_append_right (by omega),htl]at hx
   rcases Nat.lt_or_ge (i-e) n with h4|h4
   .rw[List.getElem?_append_left (by simp only[Z,hZl];exact h4)]at hx
    rw[hZg _ _ hx];simp only[QV,qo,show decide (e<=i/\i<e+n)=true from qde (by omega),cond_true]
   .rw[List.getElem?_append_right (by simp only[Z,hZl];exact h4)]at hx
    simp only[Z,hZl,List.getElem?_drop]at hx;rw[show e+n+(i-e-n)=i by omega]at hx
    have hi:i<m:=by
     have:=(List.getElem?_eq_some_iff.1 hx).1;omega
    rw[show L[i]? = some (QV ks' g i)from Xt hi]at hx;simp only[qsI]at hx;subst hx;simp only[QV,qo,show decide (e<=i/\i<e+n)=false from decide_eq_false (by omega),cond_false]
 have hsplit:L=L.take e++((L.drop e).take n++L.drop (e+n)):=by
  rw[<-List.drop_drop,List.take_append_drop,List.take_append_drop]
 have hLmem:∀ x∈L,x.length=ks'.length:=λx hx=>by
  obtain⟨i,hi,rfl⟩:=WY hx;exact(hrow i hi).1
 have flen:∀ l:List (List AV),(∀ x∈l,x∈L)->(AV.denL r l.flatten).length=l.length*ks'.length:=λl hl=>by
  rw[KQ,Yr _ _ (λx hx=>hLmem x (hl x hx))]
 have hzl:(AV.denL r Z.flatten).length=n*ks'.length:=by
  rw[KQ];show(rep n _).flatten.length=_;rw[QDx,Vp]
 have hoff:e*ks'.length=(AV.denL r (L.take e).flatten).length:=by
  rw[flen _ (λx hx=>List.mem_of_mem_take hx),List.length_take,hLl,Nat.min_eq_left (by omega)]
 have hmid:(AV.denL r Z.flatten).length=(AV.denL r ((L.drop e).take n).flatten).length:=by
  rw[hzl,flen _ (λx hx=>List.mem_of_mem_drop (List.mem_of_mem_take hx)),List.length_take,List.length_drop,hLl,Nat.min_eq_left (by omega)]
 have dap:∀ a b:List (List AV),AV.denL r (a++b).flatten=AV.denL r a.flatten++AV.denL r b.flatten:=λa b=>by
  rw[List.flatten_append,Qn,Qn,Qn,List.map_append]
 have hset:JO (AV.denL r L.flatten++rest) (e*ks'.length) (AV.denL r Z.flatten)=AV.denL r L'.flatten++rest:=by
  conv=>lhs;rw[hsplit]
  rw[dap,dap,List.append_assoc,List.append_assoc,hoff,QfL _ _ _ _ hmid];simp only[L',dap,List.append_assoc]
 have hone:∀ u∈AV.denL r Z.flatten,u.oneCell'=true:=by
  intro u hu;rw[Qn]at hu;obtain⟨v,hv,rfl⟩:=List.mem_map.1 hu;obtain⟨y,hy,hvy⟩:=List.mem_flatten.1 hv;obtain⟨i,hi⟩:=List.getElem?_of_mem hy;rw[hZg _ _ hi]at hvy;have:=Jh ks' 0 (λ_=>(0:Int));simp only[JK,List.all_eq_true,WV,qbA]at this;exact QB7 r (this v hvy).1
 have hrl:QK r id (w.setCells (r id).blk (e*ks'.length) (AV.denL r Z.flatten)) (.rowl ty ks'.length L'):=by
  refine⟨ho,hsz,λx hx=>?_,by rw[hL'l];rw[show(Q4 m (QV ks' g)).length=m from hLl]at hcap;exact hcap,rest,by rw[hL'l];rw[show(Q4 m (QV ks' g)).length=m from hLl]at hrest;exact hrest,?_⟩
  .obtain⟨i,hi⟩:=List.getElem?_of_mem hx;have:=hg i x hi;have h5:=KQ r x;rw[this,KQ,QV,Vp]at h5;exact h5.symm
  .rw[QAn _ _ _ _ _ hbk,hset]
 obtain⟨s1,s2,s3,s4,s5⟩:=QAS (r id).blk (AV.denL r Z.flatten) (e*ks'.length) w;refine⟨w.setCells (r id).blk (e*ks'.length) (AV.denL r Z.flatten),?_,rfl,rfl,QAd hrl hn hft hL'l hg (λi _=>Jh _ _ _),⟨s1,s2,s3,by omega,by rw[H1];exact qlr _,λk _ hk=>s5 k hk⟩,(hft _).2 rfl⟩
 have hbase:(AV.slz id e n cp).den r = .slice (some ⟨(r id).blk,e*ks'.length,none⟩) n ((r id).room (cp.den (r id).cap)):=by
  simp only[AV.den,Loc.base,hn,ho,hsz,Nat.zero_add]
 rw[hbase];obtain⟨i,hi,hzz⟩:=Option.bind_eq_some_iff.1 hz;rcases Nat.eq_zero_or_pos n with h0|h0
 .subst h0;have:AV.denL r Z.flatten=[]:=rfl;rw[this];simp[Builtin.clear_,run_underlying hu,World.setCells]
 .have hs:z.cells.size=(cellsOf ks' 0 λ_=>(0:Int)).length:=by rw[hz'];simp[KQ]
  have hzc:(Builtin.zeroCells z.cells n).toList=AV.denL r Z.flatten:=by
   have:=QI4 r z (cellsOf ks' 0 λ_=>0) hz' n;unfold Builtin.zeroCells;rw[show n*z.cells.size=n*(cellsOf ks' 0 λ_=>(0:Int)).length by rw[hs],this]
  have ht:=QB9 hbk (o:=e*ks'.length) (n:=(AV.denL r Z.flatten).length) (by
   have h6:(AV.denL r L.flatten).length=m*ks'.length:=by rw[flen _ (λx hx=>hx),hLl]
   have h7:(e+n)*ks'.length<=m*ks'.length:=Nat.mul_le_mul_right _ h1;rw[Nat.add_mul]at h7;rw[List.length_append,hzl,show(AV.denL r (Q4 m (QV ks' g)).flatten).length=m*ks'.length from h6];omega)
  have hst:=run_storeCells_cells (P:=P) (r id).blk (e*ks'.length) (AV.denL r Z.flatten) 0 w (λj hj=>?_) (λj hj=>?_) hone
  .obtain⟨k,rfl⟩:∃ k,n=k+1:=⟨n-1,by omega⟩
   simp only[Nat.add_zero]at hst;simp only[Builtin.clear_,Sem.run_bind,List.getElem?_toArray,List.getElem?_cons_zero,run_underlying hu,Result.andThen_ok,QCX hz,hzc,hst,Sem.run_pure]
  .simpa using (ht j hj).1
  .simpa using (ht j hj).2
theorem QXD{l:List AV}(hu:P.underlying t=some (.map kt et))(hb:bk w bm=some (.map es.toArray cl))(h:QHx P kt et l es=some eff)(hp:eff.pre=true):
  (Instr.lookup t (.map (some bm)) ((AV.agg l).den r) false).run P w = .ok (eff.val.den r) w/\eff.upd=[]:=by
 unfold QHx at h;split at h<;>(try (cases h;done))
 rename_i c1 a c2 b c3 c c4 d kz z hk hz;split at h<;>(try (cases h;done))
 rename_i h0;have h0:z=0:=qdt h0;subst h0;simp only[qsI]at h;subst h;exact⟨Qbn hu hb hk hp hz,rfl⟩
theorem Qeg{id:Nat}{l:List AV}(hu:P.underlying t=some (.map kt et))(hb:bk w bm=some (.map es.toArray cl))(h:QFX P kt id l v es cl=some eff)(hp:eff.pre=true):
  ∃ es' cl',(Instr.mapUpdate t (.map (some bm)) ((AV.agg l).den r) (v.den r)).run P w = .ok () (w.putObj bm (.map es'.toArray cl'))/\eff.val = .tup []/\eff.upd=[(id,.mp es' cl')]:=by
 unfold QFX at h;split at h<;>(try (cases h;done))
 rename_i c1 a c2 b c3 c c4 d c5 kz n hk;simp only[qsI]at h;subst h;exact⟨_,_,QVc hu hb hk hp,rfl,rfl⟩
theorem QSs{kz:IntKind}{e:MapEntry}{ka:AV}(hk:QGp P kt e=some ka)(hw:wfA P kt kz es=true)(hm:e∈es)(r:Nat->Loc):ka.den r=e.key/\Value.int kz (intV e.val)=e.val:=by
 unfold QGp at hk;unfold wfA at hw;split at hk
 .rename_i k hu;rw[hu]at hw;simp only[qsI]at hk;subst hk;have:=(List.all_eq_true.1 hw) e hm;rw[qbA]at this;obtain⟨n,hn⟩:=QDj this.1;obtain⟨v,hv⟩:=QDj this.2;exact⟨by simp[AV.den,QL,Ka,hn,intV],by rw[hv];rfl⟩
 .rename_i hu;split at hk<;>(try (cases hk;done))
  simp only[qsI]at hk;subst hk
  have hw:wf4 kz es=true:=by
   cases hq:P.underlying kt with
   | none=>rw[hq]at hw;exact hw
   | some d=>
    rw[hq]at hw;cases d with
    | int k=>exact absurd hq (hu k)
    | _=>exact hw
  have:=(List.all_eq_true.1 hw) e hm;rw[qbA]at this;obtain⟨a,b,c,d,hn⟩:=QEj this.1;obtain⟨v,hv⟩:=QDj this.2;exact⟨by simp[AV.den,AV.denL,QL,zx hn,hn,KK],by rw[hv];rfl⟩
theorem QYk{t m m' j:Nat}{seen:List Nat}{last ib since:Nat}(hi:bk w ib=some (.mapIter (some bm) since seen.toArray last))(hb:bk w bm=some (.map es.toArray cl))(h:QDD P t m m' j seen last es cl=some eff)(hp:eff.pre=true):
  (Instr.entry (.pointer (some ⟨ib,0,none⟩))).run P w = .ok (eff.val.den r) w/\eff.upd=[]/\m=m'/\j=0:=by
 unfold QDD at h;split at h<;>(try (cases h;done))
 rename_i kt et hmm hj hu;split at h<;>(try (cases h;done))
 rename_i kz z ka hz hka;simp only[qsI]at h;subst h;simp only[qbA]at hp;obtain⟨⟨hl,hh⟩,hw⟩:=hp;have hl:=qdt hl;subst hl;obtain⟨g1,g2⟩:=QUX (P:=P) hi hb hh;obtain⟨k1,k2⟩:=QSs hka hw g2 r;refine⟨?_,rfl,qnb hmm,qnb hj⟩;rw[g1];simp only[AV.den,AV.denL,k1,k2]
theorem QVB{o:Oper}{ev:Operand->AV}{nid:Nat}{a:Act}{look:Nat->Option Blk}{blks:List Blk}(hH:HOk r w nid look){ids:List Nat}{g:List Blk->Option Eff}(hV:QAt P o.op ev nid=some (ids,g))(hv:ids.map look=blks.map some)(he:g blks=some eff)(hp:eff.pre=true)(hρ:∀ x∈o.op.operands,a.eval x=(ev x).den r){K:Act->World->Prop}{Q:Exit->Act->World->Prop}(k:∀ r' w',Qg look r nid eff.upd w r' w'->K (a.put o.dst (eff.val.den r')) w'):o.wp P a w K Q:=by
 have KV:∀{s:Sem Value} {v:Value} {w':World},s.run P w = .ok v w'->(do pure (.value (<-s)):Sem Next).run P w = .ok (.value v) w':=by
  intro s v w' hs;rw[Sem.run_bind,hs];rfl
 have KU:∀{s:Sem Unit} {w':World},s.run P w = .ok () w'->(do s;pure .skip:Sem Next).run P w = .ok .skip w':=by
  intro s w' hs;rw[Sem.run_bind,hs];rfl
 have one:∀{id:Nat},[id].map look=blks.map some->∃ b,blks=[b]/\look id=some b:=by
  intro id h;obtain⟨b,rfl⟩:=vU h;simp only[List.map_cons,List.map_nil,List.cons.injEq,and_true]at h;exact⟨b,rfl,h⟩
 unfold QAt at hV;split at hV<;>(try (cases hV;done))<;>rename_i ho
 .rename_i t;simp only[qsI,qpI]at hV;obtain⟨rfl,rfl⟩:=hV;simp only[qsI]at he;subst he
  have hb:QK (Qh r nid (Loc.of w.heap.size 0 0 0)) nid (w.alloc (.map #[] 0)) (.mp [] 0):=by
   simp only[QK,Qh,if_true];show bk _ w.heap.size=_;rw[W9,if_pos rfl]
  refine JD (w':=w.alloc (.map #[] 0)) (v := .map (some w.heap.size)) ?_ ?_
  .unfold execOp;simp only[ho];exact KV rfl
  .have:=k _ _ (Qg.new1 (r:=r) rfl (λ_ h=>h) hb);simpa[AV.den,Qh,Loc.of]using this
 .rename_i t l c;have hl:=hρ l (by rw[ho];simp[Op.operands])
  have hc:=hρ c (by rw[ho];simp[Op.operands])
  simp only[qsI,qpI]at hV;obtain⟨rfl,rfl⟩:=hV;obtain⟨r',w',h1,h2⟩:=Qe5 he hp look r w;refine JD (w':=w') (v:=eff.val.den r') ?_ (k _ _ h2);unfold execOp;simp only[ho];rw[hl,hc];exact KV h1
 .rename_i t x;have hx:=hρ x (by rw[ho];simp[Op.operands])
  split at hV<;>(try (cases hV;done))
  rename_i kt et id hu hex;simp only[qsI,qpI]at hV;obtain⟨rfl,rfl⟩:=hV;obtain⟨b,rfl,hb⟩:=one hv;cases b<;>(try (cases he;done))
  rename_i es cl;simp only[qsI]at he;subst he;have hbk:bk w (r id).blk=some (.map es.toArray cl):=hH.rep id _ hb;have hne:id≠nid:=ZB (hH.out id _ hb);refine JD (w':=w.alloc (.mapIter (some (r id).blk) cl #[] cl)) (v := .pointer (some ⟨w.heap.size,0,none⟩)) ?_ ?_
  .unfold execOp;simp only[ho];rw[hx,hex];exact KV (run_range_map w t kt et _ _ _ hu hbk)
  .have hb':QK (Qh r nid (Loc.of w.heap.size 0 0 0)) nid (w.alloc (.mapIter (some (r id).blk) cl #[] cl)) (.itm [.map id] t cl [] cl):=by
    simp only[QK,Qh,if_true];refine⟨rfl,rfl,?_⟩;show bk _ w.heap.size=_;rw[W9,if_pos rfl];have e1:(Qh r nid (Loc.of w.heap.size 0 0 0) id)=r id:=by unfold Qh;rw[if_neg hne]
    simp only[AV.denL,AV.den,QLW,e1]
   have:=k _ _ (Qg.new1 (r:=r) rfl (λ_ h=>h) hb');simpa[AV.den,Qh,Loc.of]using this
 .rename_i x;have hx:=hρ x (by rw[ho];simp[Op.operands])
  split at hV<;>(try (cases hV;done))
  rename_i id m j hex;simp only[qsI,qpI]at hV;obtain⟨rfl,rfl⟩:=hV;simp only at he;split at he<;>(try (cases he;done))
  rename_i m' t since seen last es cl;simp only[List.map_cons,List.map_nil,List.cons.injEq,and_true]at hv;obtain⟨hb1,hb2⟩:=hv;obtain⟨o1,o2,hi⟩:=hH.rep id _ hb1;have hm:bk w (r m).blk=some (.map es.toArray cl):=hH.rep m _ hb2
  have key:m=m'->bk w (r id).blk=some (.mapIter (some (r m).blk) since seen.toArray last):=by
   rintro rfl;exact hi
  have hmm:m=m':=by
   unfold QDD at he;split at he<;>(try (cases he;done))
   rename_i h1 _ _;exact qnb h1
  obtain⟨g1,g2,_,rfl⟩:=QYk (r:=r) (key hmm) hm he hp;refine JD (w':=w) (v:=eff.val.den r) ?_ (k r w (by rw[g2];exact Qg.id look r nid w))
  unfold execOp;simp only[ho];rw[hx,hex];simp only[AV.den,o1,o2,Nat.mul_zero,Nat.add_zero];exact KV g1
 .rename_i t x ix;have hx:=hρ x (by rw[ho];simp[Op.operands])
  have hix:=hρ ix (by rw[ho];simp[Op.operands])
  split at hV<;>(try (cases hV;done))
  .rename_i kt et id c kk n hu hex hei;simp only[qsI,qpI]at hV;obtain⟨rfl,rfl⟩:=hV;obtain⟨b,rfl,hb⟩:=one hv
   have fin:(Instr.lookup t (.map (some (r id).blk)) (.int kk n) false).run P w = .ok (eff.val.den r) w/\eff.upd=[]->o.wp P a w K Q:=by
    rintro⟨h1,h2⟩;refine JD (w':=w) (v:=eff.val.den r) ?_ (k r w (by rw[h2];exact Qg.id look r nid w))
    unfold execOp;simp only[ho];rw[hx,hix,hex,hei];exact KV h1
   cases b<;>(try (cases he;done))
   .exact fin (QZA hu (hH.rep id _ hb) he r)
   .obtain⟨es,cl,hbk,hm⟩:=hH.rep id _ hb;exact fin (QfS hu hbk hm he hp)
  .rename_i kt et id l hu hex hei;simp only[qsI,qpI]at hV;obtain⟨rfl,rfl⟩:=hV;obtain⟨b,rfl,hb⟩:=one hv;cases b<;>(try (cases he;done))
   obtain⟨h1,h2⟩:=QXD (r:=r) hu (hH.rep id _ hb) he hp;refine JD (w':=w) (v:=eff.val.den r) ?_ (k r w (by rw[h2];exact Qg.id look r nid w))
   unfold execOp;simp only[ho];rw[hx,hix,hex,hei];exact KV h1
 .rename_i t x ix;have hx:=hρ x (by rw[ho];simp[Op.operands])
  have hix:=hρ ix (by rw[ho];simp[Op.operands])
  split at hV<;>(try (cases hV;done))
  rename_i kt et id c kk n hu hex hei;simp only[qsI,qpI]at hV;obtain⟨rfl,rfl⟩:=hV;obtain⟨b,rfl,hb⟩:=one hv
  have fin:(Instr.lookup t (.map (some (r id).blk)) (.int kk n) true).run P w = .ok (eff.val.den r) w/\eff.upd=[]->o.wp P a w K Q:=by
   rintro⟨h1,h2⟩;refine JD (w':=w) (v:=eff.val.den r) ?_ (k r w (by rw[h2];exact Qg.id look r nid w))
   unfold execOp;simp only[ho];rw[hx,hix,hex,hei];exact KV h1
  cases b<;>(try (cases he;done))
  obtain⟨es,cl,hbk,hm⟩:=hH.rep id _ hb;exact fin (QZe hu hbk hm he hp)
 .rename_i t m x v;have hm:=hρ m (by rw[ho];simp[Op.operands])
  have hx:=hρ x (by rw[ho];simp[Op.operands])
  have hvv:=hρ v (by rw[ho];simp[Op.operands])
  split at hV<;>(try (cases hV;done))
  .rename_i kt et id c kk n hu hem hex;simp only[qsI,qpI]at hV;obtain⟨rfl,rfl⟩:=hV;obtain⟨b,rfl,hb⟩:=one hv;cases b<;>(try (cases he;done))
   .obtain⟨es',cl',h1,rfl⟩:=QDA hu (hH.rep id _ hb) he r;refine Gn (w':=w.putObj (r id).blk (.map es'.toArray cl')) ?_ (k r _ (QD3 (hH.out id _ hb) hb (hH.rep id _ hb)));unfold execOp;simp only[ho];rw[hm,hx,hvv,hem,hex];exact KU h1
   .obtain⟨es,cl,hbk,hmi⟩:=hH.rep id _ hb;simp only[je]at he;obtain⟨es',cl',h1,h2,rfl⟩:=QUO hu hbk hmi he;refine Gn (w':=w.putObj (r id).blk (.map es'.toArray cl')) ?_ (k r _ (QSc (hH.out id _ hb) hb hbk h2));unfold execOp;simp only[ho];rw[hm,hx,hvv,hem,hex];exact KU h1
  .rename_i kt et id l hu hem hex;simp only[qsI,qpI]at hV;obtain⟨rfl,rfl⟩:=hV;obtain⟨b,rfl,hb⟩:=one hv;cases b<;>(try (cases he;done))
   obtain⟨es',cl',h1,h2,h3⟩:=Qeg (r:=r) hu (hH.rep id _ hb) he hp;refine Gn (w':=w.putObj (r id).blk (.map es'.toArray cl')) ?_ ?_
   .unfold execOp;simp only[ho];rw[hm,hx,hvv,hem,hex];exact KU h1
   .have:=k r _ (by rw[h3];exact QD3 (hH.out id _ hb) hb (hH.rep id _ hb))
    rw[h2]at this;exact this
 .rename_i t m x v;have hm:=hρ m (by rw[ho];simp[Op.operands])
  have hx:=hρ x (by rw[ho];simp[Op.operands])
  have hvv:=hρ v (by rw[ho];simp[Op.operands])
  split at hV<;>(try (cases hV;done))
  rename_i kt et id c kk n hu hem hex;simp only[qsI,qpI]at hV;obtain⟨rfl,rfl⟩:=hV;obtain⟨b,rfl,hb⟩:=one hv;cases b<;>(try (cases he;done))
  obtain⟨es',cl',h1,rfl⟩:=QDA hu (hH.rep id _ hb) he r;refine Gn (w':=w.putObj (r id).blk (.map es'.toArray cl')) ?_ (k r _ (QD3 (hH.out id _ hb) hb (hH.rep id _ hb)));unfold execOp;simp only[ho];rw[hm,hx,hvv,hem,hex];exact KU h1
 .rename_i args ts;split at hV<;>(try (cases hV;done))
  rename_i m x t t' hargs hts;have hargs':args = #[m,x]:=by apply Array.ext';simpa using hargs
  have hts':ts = #[t,t']:=by apply Array.ext';simpa using hts
  subst hargs' hts';have hm:=hρ m (by rw[ho];simp[Op.operands,Call.operands])
  have hx:=hρ x (by rw[ho];simp[Op.operands,Call.operands])
  split at hV<;>(try (cases hV;done))
  rename_i kt et id c kk n hu hem hex;simp only[qsI,qpI]at hV;obtain⟨rfl,rfl⟩:=hV;obtain⟨b,rfl,hb⟩:=one hv;cases b<;>(try (cases he;done))
  .obtain⟨es',cl',h1,rfl⟩:=QHD (ty:=o.type) (tys := #[t,t']) hu (hH.rep id _ hb) rfl he;refine JD (w':=w.putObj (r id).blk (.map es'.toArray cl')) (v := .tuple #[]) ?_ (k r _ (QD3 (hH.out id _ hb) hb (hH.rep id _ hb)));unfold execOp;simp only[ho];simp[resolve,invoke,builtin,hm,hx,hem,hex,AV.den,h1,Result.andThen]
  .obtain⟨es,cl,hbk,hmi⟩:=hH.rep id _ hb;obtain⟨es',cl',h1,h2,rfl⟩:=Qa9 (ty:=o.type) (tys := #[t,t']) hu hbk rfl hmi he;refine JD (w':=w.putObj (r id).blk (.map es'.toArray cl')) (v := .tuple #[]) ?_ (k r _ (QSc (hH.out id _ hb) hb hbk h2));unfold execOp;simp only[ho];simp[resolve,invoke,builtin,hm,hx,hem,hex,AV.den,h1,Result.andThen]
 .rename_i args ts;split at hV<;>(try (cases hV;done))
  rename_i x t hargs hts;have hargs':args = #[x]:=by apply Array.ext';simpa using hargs
  have hts':ts = #[t]:=by apply Array.ext';simpa using hts
  subst hargs' hts';have hx:=hρ x (by rw[ho];simp[Op.operands,Call.operands])
  split at hV<;>(try (cases hV;done))
  rename_i el id e n cp hu hex;simp only[qsI,qpI]at hV;obtain⟨rfl,rfl⟩:=hV;obtain⟨b,rfl,hb⟩:=one hv;cases b<;>(try (cases he;done))
  rename_i o' ty ks m g;cases o'<;>(try (cases he;done))
  obtain⟨w',h1,h2,h3,h4,h5,h6⟩:=QfD (cp:=cp) hu (hH.rep id _ hb) he hp o.type;refine JD (w':=w') (v := .tuple #[]) ?_ ?_
  .unfold execOp;simp only[ho];rw[<-hex]at h1;simp[resolve,invoke,builtin,hx,h1,Result.andThen]
  .have:=k r _ (by rw[h3];exact Qg.same1 (hH.out id _ hb) hb h6 (λ_ hk=>hk) h4 h5)
   rw[h2]at this;exact this
 .rename_i t x y c;have hx:=hρ x (by rw[ho];simp[Op.operands])
  have hy:=hρ y (by rw[ho];simp[Op.operands])
  split at hV<;>(try (cases hV;done))
  rename_i elem id e len cp hu hex hey;simp only[qsI,qpI]at hV;obtain⟨rfl,rfl⟩:=hV;obtain⟨b,rfl,hb⟩:=one hv;simp only at he;split at he<;>(try (cases he;done))
  rename_i n hn;simp only[qsI]at he;subst he;obtain⟨h1,h2⟩:=qdt hp;have hrep:=hH.rep id _ hb
  have hnil:(r id).nil=false:=by
   cases hh:(r id).nil with
   | false=>rfl
   | true=>
    exfalso;cases b<;>simp only[QLx]at hn<;>(try (cases hn;done))<;>simp only[qsI]at hn<;>subst hn
    .have:=Kb.zero hrep hh;omega
    .have:=hrep.2.2.1 hh;omega
  have hden:(AV.slz id e len cp).den r=(AV.slice true id e len cp).den r:=by
   simp only[AV.den,Loc.base,Loc.room,hnil]
  refine JD (w':=w) (v := .bool false) ?_ (k r w (Qg.id look r nid w));have:=QLC (P:=P) (op := .eql) (t:=t) (xo:=x) (yo:=y) (x := .slice true id e len cp) (y := .nils) (e:=⟨true,true,.bool true false⟩) (by simp[QBl,HW,eqA,hu,okE]) rfl r w
  unfold execOp;simp only[ho];rw[hx,hy,hex,hey,hden];exact KV this
