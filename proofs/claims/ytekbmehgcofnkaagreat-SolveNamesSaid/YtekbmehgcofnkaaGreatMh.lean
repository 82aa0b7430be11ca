/- - -/
import Derived.Test.YtekbmehgcofnkaaGreatMg
import Derived.RangeFuncRecord
import Derived.Laws.MakeOwn
namespace Go.SX
open Go Go.RowKit Go.Proofs.YtekbmehgcofnkaaGreat Told
def vL(v:AV):Value:=v.den λ_=>Loc.none 0
variable {v z:AV}{β:Type}{P:Program}{kt t et ty:TypeId}{k k':IntKind}{n:Int}{es es':List MapEntry}{w:World}{b cl bm:Nat}{eff:Eff}{r:Nat->Loc}{has:Int->Bool}{get:Int->AV}
theorem QGV(h:v.all (λ_=>false)=true)(r:Nat->Loc):v.den r=vL v:=Jf (p:=λ_=>false) (λ_ hf=>by cases hf) v h
def Yz(P:Program)(kt:TypeId)(k:IntKind):Bool:=match P.underlying kt with
 | some (.int k')=>k==k'
 | _=>false
def Xd(k:IntKind)(n:Int):List MapEntry->Nat->Option (Option (Nat×Value))
 | [],_=>some none
 | e::es,i=>match e.key with
  | .int k' m=>match k==k' with
   | true=>(match decide (n=m)with|true=>some (some (i,e.val))|false=>Xd k n es (i+1))
   | false=>none
  | _=>none
def Zb(key val:Value):List MapEntry->Nat->List MapEntry
 | [],_=>[]
 | e::es,0=>{ e with key,val }::es
 | e::es,i+1=>e::Zb key val es i
def YY:List MapEntry->Nat->List MapEntry
 | [],_=>[]
 | _::es,0=>es
 | e::es,i+1=>e::YY es i
def QIF(P:Program)(kt et:TypeId)(k:IntKind)(n:Int)(es:List MapEntry):Option Eff:=match Yz P kt k,Xd k n es 0 with
 | true,some (some (_,v))=>some ⟨true,true,ofValue v,[]⟩
 | true,some none=>match (P.info? et).bind (·.zero)with
  | some z=>some ⟨true,true,ofValue z,[]⟩
  | none=>none
 | _,_=>none
def Gt(P:Program)(kt:TypeId)(id:Nat)(k:IntKind)(n:Int)(v:AV)(es:List MapEntry)(cl:Nat):Option Eff:=match Yz P kt k,v.all (λ_=>false),Xd k n es 0 with
 | true,true,some (some (i,_))=>some ⟨true,true,.tup [],[(id,.mp (Zb (.int k n) (vL v) es i) cl)]⟩
 | true,true,some none=>some ⟨true,true,.tup [],[(id,.mp (es++[{ key := .int k n,val:=vL v,born:=cl }]) (cl+1))]⟩
 | _,_,_=>none
def QAr(P:Program)(kt:TypeId)(id:Nat)(k:IntKind)(n:Int)(es:List MapEntry)(cl:Nat):Option Eff:=match Yz P kt k,Xd k n es 0 with
 | true,some (some (i,_))=>some ⟨true,true,.tup [],[(id,.mp (YY es i) cl)]⟩
 | true,some none=>some ⟨true,true,.tup [],[(id,.mp es cl)]⟩
 | _,_=>none
def QHt:AV->Value->Bool
 | .bool _ b,.bool b'=>b==b'
 | .int _ k n,.int k' n'=>k==k'&&decide (n=n')
 | _,_=>false
def isI(k:IntKind):AV->Bool
 | .int _ k' _=>k==k'
 | _=>false
def toI:AV->Int
 | .int _ _ i=>i
 | _=>0
def QBR(z v:AV):Eff:=match z with
 | .int _ kz _=>⟨false,isI kz v,.int false kz (toI v),[]⟩
 | _=>⟨true,true,v,[]⟩
theorem QTj(h:(QBR z v).pre=true)(r:Nat->Loc):(QBR z v).val.den r=v.den r/\(QBR z v).upd=[]:=by
 unfold QBR at h ⊢;split
 .rename_i c kz i;simp only at h;cases v<;>(try (cases h;done))
  rename_i c' k' i';have e:kz=k':=by simpa[isI]using h
  subst e;exact⟨rfl,rfl⟩
 .exact⟨rfl,rfl⟩
def QBX(P:Program)(kt et:TypeId)(k:IntKind)(n:Int)(k':IntKind)(z:AV)(get:Int->AV):Option Eff:=match Yz P kt k,k==k',(P.info? et).bind (·.zero)with
 | true,true,some zz=>(match QHt z zz with
  | true=>some (QBR z (get n))
  | false=>none)
 | _,_,_=>none
def QFo(P:Program)(kt et:TypeId)(k:IntKind)(n:Int)(k':IntKind)(z:AV)(has:Int->Bool)(get:Int->AV):Option Eff:=match QBX P kt et k n k' z get with
 | some e=>some ⟨false,e.pre,.tup [e.val,.bool false (has n)],[]⟩
 | none=>none
def XG(n:Int)(v:AV)(get:Int->AV)(m:Int):AV:=match decide (m=n)with
 | true=>v
 | false=>get m
def Xu(n:Int)(b:Bool)(has:Int->Bool)(m:Int):Bool:=match decide (m=n)with
 | true=>b
 | false=>has m
def Vb{β:Type}(f:AV->(AV->β)->β):List AV->(List AV->β)->β
 | [],k=>k []
 | v::l,k=>f v λv'=>Vb f l λl'=>k (v'::l')
def Vx{β:Type}:Nat->AV->(AV->β)->β
 | 0,v,k=>k v
 | n+1,v,k=>match v with
  | .int c i x=>(match c with|true=>k (.int true i x)|false=>k (.int false i x))
  | .bool c x=>(match c with|true=>k (.bool true x)|false=>k (.bool false x))
  | .fn f l=>Vb (Vx n) l λl'=>k (.fn f l')
  | .mth f l=>Vb (Vx n) l λl'=>k (.mth f l')
  | .alt b v w=>Vx n v λv'=>Vx n w λw'=>k (.alt b v' w')
  | .ifc t v=>Vx n v λv'=>k (.ifc t v')
  | .agg l=>Vb (Vx n) l λl'=>k (.agg l')
  | .tup l=>Vb (Vx n) l λl'=>k (.tup l')
  | .opt b v=>Vx n v λv'=>k (.opt b v')
  | .ptr a b c=>k (.ptr a b c)
  | .slice a b c d e=>k (.slice a b c d e)
  | .slz a b c d=>k (.slz a b c d)
  | .map a=>k (.map a)
  | .yld a=>k (.yld a)
  | .addr a=>k (.addr a)
  | .nilp=>k .nilp
  | .nils=>k .nils
  | .nilm=>k .nilm
  | .nilf=>k .nilf
  | .nili=>k .nili
  | .str s=>k (.str s)
  | .raw v=>k (.raw v)
def V5(m:Nat)(k:Nat->β):β:=match m with
 | 0=>k 0
 | j+1=>k (Nat.succ j)
def QI2(n:Int)(k:Int->β):β:=match n with
 | .ofNat m=>V5 m λm=>k (.ofNat m)
 | .negSucc m=>V5 m λm=>k (.negSucc m)
def QJo(c:Cap)(k:Cap->β):β:=match c with
 | .lit n=>V5 n λn=>k (.lit n)
 | .of n=>V5 n λn=>k (.of n)
def Ym{β:Type}:Nat->AV->(AV->β)->β
 | 0,v,k=>k v
 | n+1,v,k=>match v with
  | .int c i x=>(match c with|true=>QI2 x λx=>k (.int true i x)|false=>k (.int false i x))
  | .bool c x=>(match c with|true=>(match x with|true=>k (.bool true true)|false=>k (.bool true false))|false=>k (.bool false x))
  | .fn f l=>Vb (Ym n) l λl'=>k (.fn f l')
  | .mth f l=>Vb (Ym n) l λl'=>k (.mth f l')
  | .alt b v w=>Ym n v λv'=>Ym n w λw'=>k (.alt b v' w')
  | .ifc t v=>Ym n v λv'=>k (.ifc t v')
  | .agg l=>Vb (Ym n) l λl'=>k (.agg l')
  | .tup l=>Vb (Ym n) l λl'=>k (.tup l')
  | .opt b v=>Ym n v λv'=>k (.opt b v')
  | .ptr a b c=>V5 a λa=>V5 b λb=>V5 c λc=>k (.ptr a b c)
  | .slice a b c d e=>V5 b λb=>V5 c λc=>V5 d λd=>QJo e λe=>(match a with|true=>k (.slice true b c d e)|false=>k (.slice false b c d e))
  | .slz a b c d=>k (.slz a b c d)
  | .map a=>V5 a λa=>k (.map a)
  | .yld a=>V5 a λa=>k (.yld a)
  | .addr a=>k (.addr a)
  | .nilp=>k .nilp
  | .nils=>k .nils
  | .nilm=>k .nilm
  | .nilf=>k .nilf
  | .nili=>k .nili
  | .str s=>k (.str s)
  | .raw v=>k (.raw v)
def QFG{β:Type}:List (Nat×Blk)->(List (Nat×Blk)->β)->β
 | [],k=>k []
 | (i,b)::h,k=>V5 i λi'=>QFG h λh'=>k ((i',b)::h')
def QAc(v:AV)(k:AV->β):β:=match v with
 | .agg l=>k (.agg l)
 | .tup l=>k (.tup l)
 | v=>Ym 1 v k
def QMy(l:List AV)(k:List AV->β):β:=Vb QAc l k
def GR{α:Type}(on:Bool)(f:α->(α->β)->β)(x:α)(k:α->β):β:=match on with
 | false=>k x
 | true=>f x k
theorem qz{β:Type}{f:AV->(AV->β)->β}(hf:∀ v k,f v k=k v):∀(l:List AV) (k:List AV->β),Vb f l k=k l
 | [],_=>rfl
 | v::l,k=>by rw[Vb,hf,qz hf l]
theorem jd{β:Type}:∀(n:Nat) (v:AV) (k:AV->β),Vx n v k=k v
 | 0,_,_=>rfl
 | n+1,v,k=>by
  cases v<;>simp only[Vx,jd n,qz (jd n)]
  .rename_i c i x;cases c<;>rfl
  .rename_i c x;cases c<;>rfl
theorem QAn(m:Nat)(k:Nat->β):V5 m k=k m:=by cases m<;>rfl
theorem QXL(n:Int)(k:Int->β):QI2 n k=k n:=by cases n<;>simp only[QI2,QAn]
theorem QbB(c:Cap)(k:Cap->β):QJo c k=k c:=by cases c<;>simp only[QJo,QAn]
theorem QG2{β:Type}:∀(n:Nat) (v:AV) (k:AV->β),Ym n v k=k v
 | 0,_,_=>rfl
 | n+1,v,k=>by
  cases v<;>simp only[Ym,QG2 n,qz (QG2 n),QAn,QXL,QbB]
  .rename_i c i x;cases c<;>rfl
  .rename_i c x;cases c<;>cases x<;>rfl
  .rename_i a b c d e;cases a<;>rfl
theorem QKJ{β:Type}:∀(l:List (Nat×Blk)) (k:List (Nat×Blk)->β),QFG l k=k l
 | [],_=>rfl
 | (i,b)::h,k=>by rw[QFG,QAn,QKJ h]
theorem QDn(v:AV)(k:AV->β):QAc v k=k v:=by
 cases v<;>simp only[QAc,QG2]
theorem Qfy(l:List AV)(k:List AV->β):QMy l k=k l:=qz QDn l k
theorem Gk{α:Type}{f:α->(α->β)->β}(hf:∀ x k,f x k=k x)(on:Bool)(x:α)(k:α->β):GR on f x k=k x:=by
 cases on with
 | false=>rfl
 | true=>exact hf x k
def QIW(P:Program)(kt:TypeId)(id:Nat)(k:IntKind)(n:Int)(v:AV)(k':IntKind)(z:AV)(has:Int->Bool)(get:Int->AV):Option Eff:=match Yz P kt k,k==k',v.all (λ_=>false)with
 | true,true,true=>some ⟨true,true,.tup [],[(id,.mpf k' z (Xu n true has) (XG n v get))]⟩
 | _,_,_=>none
def QGk(P:Program)(kt:TypeId)(id:Nat)(k:IntKind)(n:Int)(k':IntKind)(z:AV)(has:Int->Bool)(get:Int->AV):Option Eff:=match Yz P kt k,k==k' with
 | true,true=>some ⟨true,true,.tup [],[(id,.mpf k' z (Xu n false has) (XG n z get))]⟩
 | _,_=>none
def QBO:Blk->Option Nat
 | .rowz _ _ _ n _=>some n
 | .frz _ n _=>some n
 | _=>none
def QGR:Value->Option CK
 | .int k n=>(match decide (n=0)with|true=>some (.int k)|false=>none)
 | .bool b=>(match b with|true=>none|false=>some .bool)
 | _=>none
def Gj:List Value->Option (List CK)
 | []=>some []
 | v::l=>match QGR v,Gj l with
  | some k,some ks=>some (k::ks)
  | _,_=>none
def QHj(P:Program)(t:TypeId)(c c':AV)(nid:Nat):Option Eff:=match P.underlying t,c,c' with
 | some (.slice e),.int _ _ n,.int _ _ n'=>(match P.info? e with
  | some i=>(match i.zero with
   | some z=>(match Gj z.cells.toList with
    | some ks=>(match Nat.beq i.size ks.length,Nat.ble i.bytes 4096 with
     | true,true=>some ⟨false,decide (n=n')&&decide (0<=n/\n<=17179869184),.slz nid 0 n.toNat (.of 0),[(nid,.rowz true e ks n.toNat λ_ _=>0)]⟩
     | _,_=>none)
    | none=>none)
   | none=>none)
  | none=>none)
 | _,_,_=>none
def QGn(P:Program)(kt et:TypeId)(l:List AV)(es:List MapEntry):Option Eff:=match Y0 P kt,l,(P.info? et).bind (·.zero)with
 | true,[.int _ .i64 a,.int _ .i64 b,.int _ .i64 c,.int _ .i64 d],some (.int kz z)=>(match decide (z=0)with
  | true=>some ⟨false,wf4 kz es,.int false kz (KP es [a,b,c,d]),[]⟩
  | false=>none)
 | _,_,_=>none
def QIg(P:Program)(kt:TypeId)(id:Nat)(l:List AV)(v:AV)(es:List MapEntry)(cl:Nat):Option Eff:=match Y0 P kt,l,v with
 | true,[.int _ .i64 a,.int _ .i64 b,.int _ .i64 c,.int _ .i64 d],.int _ kz n=>some ⟨false,wf4 kz es,.tup [],[(id,.mp (JH [a,b,c,d] (KQ a b c d) (.int kz n) cl es) (clL [a,b,c,d] cl es))]⟩
 | _,_,_=>none
def QEN(P:Program)(t:TypeId)(m m' j:Nat)(seen:List Nat)(last:Nat)(es:List MapEntry)(cl:Nat):Option Eff:=match Nat.beq m m',Nat.beq j 0,P.underlying t with
 | true,true,some (.map kt et)=>(match (P.info? et).bind (·.zero),QJS P kt (QM es seen)with
  | some (.int kz _),some ka=>some ⟨false,(decide (last=cl)&&YN es seen)&&wfA P kt kz es,.tup [ka,.int false kz (intV (QM es seen).val)],[]⟩
  | _,_=>none)
 | _,_,_=>none
def jZ(e n:Nat)(g:Nat->Nat->Int):Nat->Nat->Int:=λi=>cond (decide (e<=i/\i<e+n)) (λ_=>0) (g i)
def QGH(P:Program)(el:TypeId)(id e n:Nat)(ty:TypeId)(ks:List CK)(m:Nat)(g:Nat->Nat->Int):Option Eff:=match (P.info? el).bind (·.zero)with
 | some z=>(match Gj z.cells.toList with
  | some ks'=>(match ksB ks' ks with
   | true=>some ⟨false,decide (e+n<=m/\0<m),.tup [],[(id,.rowz true ty ks m (jZ e n g))]⟩
   | false=>none)
  | none=>none)
 | none=>none
def QBt(P:Program)(op:Op)(ev:Operand->AV)(nid:Nat):Option W4:=match op with
 | .makeMap _ none=>some ([],λ_=>some ⟨true,true,.map nid,[(nid,.mp [] 0)]⟩)
 | .makeSlice t l c=>some ([],λ_=>QHj P t (ev l) (ev c) nid)
 | .range t x=>match P.underlying t,ev x with
  | some (.map _ _),.map id=>some ([id],λ|[.mp _ cl]=>some ⟨true,true,.ptr nid id 0,[(nid,.itm [.map id] t cl [] cl)]⟩|_=>none)
  | _,_=>none
 | .entry x=>match ev x with
  | .ptr id m j=>some ([id,m],λ|[.itm [.map m'] t _ seen last,.mp es cl]=>QEN P t m m' j seen last es cl|_=>none)
  | _=>none
 | .lookup t x ix false=>match P.underlying t,ev x,ev ix with
  | some (.map kt et),.map id,.int _ k n=>some ([id],λ|[.mp es _]=>QIF P kt et k n es|[.mpf k' z _ get]=>QBX P kt et k n k' z get|_=>none)
  | some (.map kt et),.map id,.agg l=>some ([id],λ|[.mp es _]=>QGn P kt et l es|_=>none)
  | _,_,_=>none
 | .lookup t x ix true=>match P.underlying t,ev x,ev ix with
  | some (.map kt et),.map id,.int _ k n=>some ([id],λ|[.mpf k' z has get]=>QFo P kt et k n k' z has get|_=>none)
  | _,_,_=>none
 | .mapUpdate t m x v=>match P.underlying t,ev m,ev x with
  | some (.map kt _),.map id,.int _ k n=>some ([id],λ|[.mp es cl]=>Gt P kt id k n (ev v) es cl|[.mpf k' z has get]=>Vx 6 (ev v) λu=>QIW P kt id k n u k' z has get|_=>none)
  | some (.map kt _),.map id,.agg l=>some ([id],λ|[.mp es cl]=>QIg P kt id l (ev v) es cl|_=>none)
  | _,_,_=>none
 | .insert t m x v=>match P.underlying t,ev m,ev x with
  | some (.map kt _),.map id,.int _ k n=>some ([id],λ|[.mp es cl]=>Gt P kt id k n (ev v) es cl|_=>none)
  | _,_,_=>none
 | .call ⟨.builtin .delete,args,ts⟩=>match args.toList,ts.toList with
  | [m,x],[t,_]=>match P.underlying t,ev m,ev x with
   | some (.map kt _),.map id,.int _ k n=>some ([id],λ|[.mp es cl]=>QAr P kt id k n es cl|[.mpf k' z has get]=>QGk P kt id k n k' z has get|_=>none)
   | _,_,_=>none
  | _,_=>none
 | .call ⟨.builtin .clear,args,ts⟩=>match args.toList,ts.toList with
  | [x],[t]=>match P.underlying t,ev x with
   | some (.slice el),.slz id e n _=>some ([id],λ|[.rowz true ty ks m g]=>QGH P el id e n ty ks m g|_=>none)
   | _,_=>none
  | _,_=>none
 | .binOp .eql t x y _=>match P.underlying t,ev x,ev y with
  | some (.slice _),.slz id _ len _,.nils=>some ([id],fun
   | [b]=>(match QBO b with
    | some n=>some ⟨false,decide (0<len/\len<=n),.bool true false,[]⟩
    | none=>none)
   | _=>none)
  | _,_,_=>none
 | _=>none
theorem QK0{k:IntKind}{n:Int}:∀{es:List MapEntry} {i:Nat} {x:Option (Nat×Value)},Xd k n es i=some x->Instr.findNow (.int k) (.int k n) es i=some x
 | [],i,x,h=>h
 | e::es,i,x,h=>by
  simp only[Xd]at h;split at h<;>(try (cases h;done))
  rename_i k' m he;split at h<;>(try (cases h;done))
  rename_i hk;have hk:k=k':=by simpa using hk
  subst hk;simp only[Instr.findNow,he,Instr.sameNow,if_true]
  by_cases hm:n=m
  .subst hm;simp only[decide_true]at h;simp only[beq_self_eq_true];exact h
  .simp only[hm,decide_false]at h;have:(n==m)=false:=by simpa using hm
   simp only[this];exact QK0 h
theorem QST(h:Yz P kt k=true):P.underlying kt=some (.int k):=by
 unfold Yz at h;split at h<;>(try (cases h;done))
 rename_i k' hu;have:k=k':=by simpa using h
 subst this;exact hu
theorem Xq{x:Option (Nat×Value)}(hk:Yz P kt k=true)(h:Xd k n es 0=some x)(w:World):
  (Instr.findKey kt (.int k n) es).run P w = .ok x w:=by
 simp only[Instr.findKey,Sem.run_bind,run_underlying (QST hk),Result.andThen_ok,QK0 h,Sem.run_pure]
theorem Qfo(hk:Yz P kt k=true)(b:Bool)(m:Nat)(w:World):(Instr.checkKey b (m+1) kt (.int k n)).run P w = .ok () w:=by
 rw[Instr.checkKey,Sem.run_bind,run_underlying (QST hk)];rfl
theorem YD(hk:Yz P kt k=true)(b:Bool)(w:World):(Instr.checkKey b 10000 kt (.int k n)).run P w = .ok () w:=Qfo hk b 9999 w
theorem YE{es:Array MapEntry}(h:bk w b=some (.map es cl)):(getObj b).run P w = .ok (.map es cl) w:=by
 unfold bk at h;simp[getObj,Sem.run,h]
theorem QCC{es:Array MapEntry}{o':Obj}(h:bk w b=some (.map es cl)):(setObj b o').run P w = .ok () (w.putObj b o'):=by
 unfold bk at h;simp[setObj,Sem.run,h,World.putObj]
theorem QCO{z:Value}(h:(P.info? t).bind (·.zero)=some z)(w:World):(zeroValue t).run P w = .ok z w:=by
 cases hi:P.info? t with
 | none=>simp[hi]at h
 | some i=>
  simp only[hi,Option.bind_some]at h;simp[zeroValue,typeInfo,hi,h,Sem.run_bind]
theorem QA3{k:IntKind}{n:Int}:∀{es:List MapEntry} {i j:Nat} {v:Value},Xd k n es i=some (some (j,v))->i<=j/\∃ e,es[j-i]? = some e/\e.key = .int k n/\e.val=v
 | [],i,j,v,h=>by simp[Xd]at h
 | e::es,i,j,v,h=>by
  simp only[Xd]at h;split at h<;>(try (cases h;done))
  rename_i k' m he;split at h<;>(try (cases h;done))
  rename_i hk;have hk:k=k':=by simpa using hk
  subst hk
  by_cases hm:n=m
  .subst hm;simp only[decide_true,qsI,qpI]at h;obtain⟨rfl,rfl⟩:=h;exact⟨qlr _,e,by simp,he,rfl⟩
  .simp only[hm,decide_false]at h;obtain⟨h1,e',h2,h3⟩:=QA3 h;exact⟨by omega,e',by rw[show j-i=(j-(i+1))+1 by omega];simpa using h2,h3⟩
theorem QRB(key val:Value):∀(es:List MapEntry) (i:Nat),es.modify i (λe=>{ e with key,val })=Zb key val es i
 | [],i=>by cases i<;>rfl
 | e::es,0=>rfl
 | e::es,i+1=>by rw[List.modify_succ_cons,QRB key val es i];rfl
theorem QLd:∀(es:List MapEntry) (i:Nat),es.eraseIdx i=YY es i
 | [],i=>by cases i<;>rfl
 | e::es,0=>rfl
 | e::es,i+1=>by rw[List.eraseIdx_cons_succ,QLd es i];rfl
theorem QF9(w:World)(b:Nat)(o:Obj):Fr w (w.putObj b o) (λk=>k=b):=by
 refine⟨rfl,rfl,rfl,by simp[World.putObj],qlr _,λk _ hk=>?_⟩
 unfold bk;exact World.putObj_heap_other hk
theorem QGo{o o':Obj}(h:bk w b=some o):bk (w.putObj b o') b=some o':=by
 unfold bk;exact World.putObj_heap_same (V6 h)
theorem QX7(hu:P.underlying t=some (.map kt et))(hb:bk w b=some (.map es.toArray cl))(h:QIF P kt et k n es=some eff)(r:Nat->Loc):
  (Instr.lookup t (.map (some b)) (.int k n) false).run P w = .ok (eff.val.den r) w/\eff.upd=[]:=by
 unfold QIF at h;split at h<;>(try (cases h;done))
 .rename_i i v hk hf;simp only[qsI]at h;subst h;refine⟨?_,rfl⟩;simp only[Instr.lookup,Sem.run_bind,run_underlying hu,Result.andThen_ok,YE hb,Sem.run_pure,YD hk,Xq hk hf,QHE];rfl
 .rename_i hk hf;split at h<;>(try (cases h;done))
  rename_i z hz;simp only[qsI]at h;subst h;refine⟨?_,rfl⟩;simp only[Instr.lookup,Sem.run_bind,run_underlying hu,Result.andThen_ok,YE hb,Sem.run_pure,YD hk,Xq hk hf,QHE,QCO hz];rfl
theorem QEO{id:Nat}(hu:P.underlying t=some (.map kt et))(hb:bk w b=some (.map es.toArray cl))(h:Gt P kt id k n v es cl=some eff)(r:Nat->Loc):
  ∃ es' cl',(Instr.mapUpdate t (.map (some b)) (.int k n) (v.den r)).run P w = .ok () (w.putObj b (.map es'.toArray cl'))/\eff=⟨true,true,.tup [],[(id,.mp es' cl')]⟩:=by
 unfold Gt at h;split at h<;>(try (cases h;done))
 .rename_i i x hk hv hf;simp only[qsI]at h;obtain⟨_,e,he,hek,_⟩:=QA3 hf;refine⟨_,_,?_,h.symm⟩
  have hkey:((es.toArray[i]?).map (·.key)).getD (.int k n) = .int k n:=by
   rw[List.getElem?_toArray];simp only[Nat.sub_zero]at he;rw[he];simpa using hek
  have hst:(Instr.keyThatStays (.int k n) (.int k n)).run P w = .ok (.int k n) w:=by
   simp[Instr.keyThatStays,Instr.sameBits]
  simp only[Instr.mapUpdate,Sem.run_bind,run_underlying hu,Result.andThen_ok,YE hb,YD hk,Xq hk hf,hkey,hst,QGV hv r];rw[QCC hb];congr 2;rw[List.modify_toArray,QRB]
 .rename_i hk hv hf;simp only[qsI]at h;refine⟨_,_,?_,h.symm⟩;simp only[Instr.mapUpdate,Sem.run_bind,run_underlying hu,Result.andThen_ok,YE hb,YD hk,Xq hk hf,QGV hv r];rw[QCC hb];simp
theorem QI9{tys:Array TypeId}{id:Nat}(hu:P.underlying t=some (.map kt et))(hb:bk w b=some (.map es.toArray cl))(ht:tys[0]? = some t)(h:QAr P kt id k n es cl=some eff):
  ∃ es' cl',(Builtin.delete_ tys ty #[.map (some b),.int k n]).run P w = .ok (.tuple #[]) (w.putObj b (.map es'.toArray cl'))/\eff=⟨true,true,.tup [],[(id,.mp es' cl')]⟩:=by
 unfold QAr at h;split at h<;>(try (cases h;done))
 .rename_i i x hk hf;simp only[qsI]at h;obtain⟨_,e,he,_⟩:=QA3 hf;refine⟨_,_,?_,h.symm⟩;simp only[Builtin.delete_,ht,Sem.run_bind,run_underlying hu,Result.andThen_ok,YE hb,YD hk,Xq hk hf];simp only[List.getElem?_toArray,List.getElem?_cons_zero,List.getElem?_cons_succ,Sem.run_bind,run_underlying hu,Result.andThen_ok,YE hb,YD hk,Xq hk hf];rw[QCC hb];simp only[Result.andThen_ok,Sem.run_pure];congr 3;rw[<-QLd];apply Array.ext';rw[Array.toList_eraseIdxIfInBounds]
 .rename_i hk hf;simp only[qsI]at h;refine⟨_,_,?_,h.symm⟩;simp only[Builtin.delete_,ht,Sem.run_bind,run_underlying hu,Result.andThen_ok,YE hb,YD hk,Xq hk hf];simp only[List.getElem?_toArray,List.getElem?_cons_zero,List.getElem?_cons_succ,Sem.run_bind,run_underlying hu,Result.andThen_ok,YE hb,YD hk,Xq hk hf];rw[QCC hb];simp only[Result.andThen_ok,Sem.run_pure]
theorem QFZ{lk:Nat->Option Blk}{nid id cl:Nat}{es0:List MapEntry}{cl0:Nat}(hid:inR nid id=false)(hlk:lk id=some (.mp es0 cl0))(hb:bk w (r id).blk=some (.map es0.toArray cl0)):Qi lk r nid [(id,.mp es cl)] w r (w.putObj (r id).blk (.map es.toArray cl)):=
 Qi.same1 hid hlk rfl (λ_ h=>h) (QGo hb) (QF9 w _ _)
structure Va (k:IntKind) (es:List MapEntry):Prop where
 keys:∀ e∈es,∃ m,e.key = .int k m
 once:(es.map (·.key)).Nodup
theorem Va.tail{e:MapEntry}(h:Va k (e::es)):Va k es:=⟨λx hx=>h.keys x (List.mem_cons_of_mem _ hx),(List.nodup_cons.1 h.once).2⟩
theorem QB8{k:IntKind}(n:Int):∀{es:List MapEntry} (i:Nat),Va k es->∃ x,Xd k n es i=some x/\x.map (·.2)=Kl k n es
 | [],i,_=>⟨none,rfl,rfl⟩
 | e::es,i,h=>by
  obtain⟨m,hm⟩:=h.keys e (by simp)
  by_cases hn:n=m
  .exact⟨some (i,e.val),by simp[Xd,hm,hn],by simp[Kl,hm,hn]⟩
  .obtain⟨x,h1,h2⟩:=QB8 n (i+1) h.tail;exact⟨x,by simp[Xd,hm,hn,h1],by simp[Kl,hm,hn,h2]⟩
theorem QR2{k:IntKind}{n:Int}:∀{es:List MapEntry},Va k es->Kl k n es=none->∀ e∈es,e.key ≠ .int k n
 | [],_,_,e,he=>by cases he
 | e'::es,h,hg,e,he=>by
  obtain⟨m,hm⟩:=h.keys e' (by simp)
  by_cases hn:n=m
  .simp[Kl,hm,hn]at hg
  .simp only[Kl,hm,hn,and_false,decide_false]at hg;rcases List.mem_cons.1 he with rfl|he
   .rw[hm];simp only[ne_eq,Value.int.injEq,true_and];exact λh=>hn h.symm
   .exact QR2 h.tail hg e he
theorem QPi{key val:Value}:∀{es:List MapEntry} {i:Nat} {e:MapEntry},es[i]? = some e->e.key=key->(Zb key val es i).map (·.key)=es.map (·.key)
 | [],i,e,h,_=>by simp at h
 | x::es,0,e,h,hk=>by
  simp only[List.getElem?_cons_zero,qsI]at h;subst h;simp[Zb,hk]
 | x::es,i+1,e,h,hk=>by
  simp only[List.getElem?_cons_succ]at h;simp[Zb,QPi h hk]
theorem QdQ(h:Va k es)(he:es'.map (·.key)=es.map (·.key)):Va k es':=by
 refine⟨λe hm=>?_,by rw[he];exact h.once⟩
 have:e.key∈es'.map (·.key):=List.mem_map_of_mem hm;rw[he]at this;obtain⟨e2,h2,h3⟩:=List.mem_map.1 this;obtain⟨m,hm⟩:=h.keys e2 h2;exact⟨m,by rw[<-h3,hm]⟩
theorem QTq{k:IntKind}{n:Int}{val:Value}(m:Int):∀{es:List MapEntry} {i:Nat} {e:MapEntry},Va k es->es[i]? = some e->e.key = .int k n->Kl k m (Zb (.int k n) val es i)=if m=n then some val else Kl k m es
 | [],i,e,_,h,_=>by simp at h
 | x::es,0,e,hK,h,hk=>by
  simp only[List.getElem?_cons_zero,qsI]at h;subst h;simp only[Zb,Kl,hk,true_and]
  by_cases hm:m=n<;>simp[hm]
 | x::es,i+1,e,hK,h,hk=>by
  simp only[List.getElem?_cons_succ]at h;obtain⟨j,hj⟩:=hK.keys x (by simp)
  have hne:j≠n:=by
   intro hjn;have:=(List.nodup_cons.1 hK.once).1;refine this ?_;show x.key∈_;rw[hj,hjn,<-hk];exact List.mem_map_of_mem (List.mem_of_getElem? h)
  simp only[Zb,Kl,hj,true_and]
  by_cases hm:m=j
  .subst hm;simp[hne]
  .simp only[hm,decide_false];exact QTq m hK.tail h hk
theorem QQW{k:IntKind}{n:Int}{val:Value}{cl:Nat}(m:Int):∀{es:List MapEntry},Va k es->Kl k n es=none->Kl k m (es++[{ key := .int k n,val,born:=cl }])=if m=n then some val else Kl k m es
 | [],_,_=>by
  simp only[List.nil_append,Kl,true_and]
  by_cases hm:m=n<;>simp[hm]
 | x::es,hK,hg=>by
  obtain⟨j,hj⟩:=hK.keys x (by simp)
  have hne:n≠j:=λh=>by simp[Kl,hj,h]at hg
  have hg':Kl k n es=none:=by simpa[Kl,hj,hne]using hg
  simp only[List.cons_append,Kl,hj,true_and]
  by_cases hm:m=j
  .subst hm;simp[hne.symm]
  .simp only[hm,decide_false];exact QQW m hK.tail hg'
theorem QSI{x:MapEntry}:∀{es:List MapEntry} {i:Nat},x∈YY es i->x∈es
 | [],_,h=>h
 | _::_,0,h=>List.mem_cons_of_mem _ h
 | _::es,i+1,h=>by
  simp only[YY]at h;rcases List.mem_cons.1 h with rfl|h
  .simp
  .exact List.mem_cons_of_mem _ (QSI h)
theorem QKU{k:IntKind}:∀{es:List MapEntry} {i:Nat},Va k es->Va k (YY es i)
 | [],_,h=>h
 | _::_,0,h=>h.tail
 | x::es,i+1,h=>by
  have ht:=QKU (i:=i) h.tail;refine⟨λe he=>?_,?_⟩
  .simp only[YY]at he;rcases List.mem_cons.1 he with rfl|he
   .exact h.keys _ (by simp)
   .exact ht.keys e he
  .simp only[YY,List.map_cons,List.nodup_cons];refine⟨λhm=>?_,ht.once⟩;obtain⟨y,hy,hyk⟩:=List.mem_map.1 hm;exact(List.nodup_cons.1 h.once).1 (List.mem_map.2 ⟨y,QSI hy,hyk⟩)
theorem QP9{k:IntKind}{n:Int}:∀{es:List MapEntry},Va k es->(∀ e∈es,e.key ≠ .int k n)->Kl k n es=none
 | [],_,_=>rfl
 | x::es,hK,h=>by
  obtain⟨j,hj⟩:=hK.keys x (by simp)
  have hne:n≠j:=λe=>h x (by simp) (by rw[hj,e])
  simp only[Kl,hj,true_and,hne,decide_false];exact QP9 hK.tail (λe he=>h e (by simp[he]))
theorem QRO{k:IntKind}{n:Int}(m:Int):∀{es:List MapEntry} {i:Nat} {e:MapEntry},Va k es->es[i]? = some e->e.key = .int k n->Kl k m (YY es i)=if m=n then none else Kl k m es
 | [],i,e,_,h,_=>by simp at h
 | x::es,0,e,hK,h,hk=>by
  simp only[List.getElem?_cons_zero,qsI]at h;subst h;simp only[YY,Kl,hk,true_and]
  by_cases hm:m=n
  .subst hm;simp only[if_true];refine QP9 hK.tail λe he hek=>?_;refine(List.nodup_cons.1 hK.once).1 ?_;show x.key∈_;rw[hk,<-hek];exact List.mem_map_of_mem he
  .simp[hm]
 | x::es,i+1,e,hK,h,hk=>by
  simp only[List.getElem?_cons_succ]at h;obtain⟨j,hj⟩:=hK.keys x (by simp)
  have hne:j≠n:=by
   intro hjn;have:=(List.nodup_cons.1 hK.once).1;refine this ?_;show x.key∈_;rw[hj,hjn,<-hk];exact List.mem_map_of_mem (List.mem_of_getElem? h)
  simp only[YY,Kl,hj,true_and]
  by_cases hm:m=j
  .subst hm;simp[hne]
  .simp only[hm,decide_false];exact QRO m hK.tail h hk
theorem Ji.keysI(h:Ji r k z has get es):Va k es:=⟨h.keys,h.once⟩
theorem QN7{zz:Value}(h:QHt z zz=true)(r:Nat->Loc):zz=z.den r:=by
 unfold QHt at h;split at h
 .simp only[AV.den];rw[eq_of_beq h]
 .simp only[qbA,qdE,beq_iff_eq]at h;simp only[AV.den,h.1,h.2]
 .cases h
theorem Ji.put(h:Ji r k z has get es)(hv:v.all (λ_=>false)=true)(hK:Va k es')(hg:∀ m,Kl k m es'=if m=n then some (vL v)else Kl k m es):Ji r k z (Xu n true has) (XG n v get) es':=by
 refine⟨hK.keys,hK.once,λm=>?_,h.zero,λm hm=>?_,λm hm=>?_⟩
 .unfold XG;split
  .exact hv
  .exact h.flat m
 .rw[hg m];unfold Xu at hm;unfold XG
  by_cases e:m=n
  .simp[e,QGV hv r]
  .simp only[e,decide_false,if_false]at hm ⊢;exact h.yes m hm
 .rw[hg m];unfold Xu at hm;unfold XG
  by_cases e:m=n
  .simp[e]at hm
  .simp only[e,decide_false,if_false]at hm ⊢;exact h.no m hm
theorem Ji.del(h:Ji r k z has get es)(hK:Va k es')(hg:∀ m,Kl k m es'=if m=n then none else Kl k m es):Ji r k z (Xu n false has) (XG n z get) es':=by
 refine⟨hK.keys,hK.once,λm=>?_,h.zero,λm hm=>?_,λm hm=>?_⟩
 .unfold XG;split
  .exact h.zero
  .exact h.flat m
 .rw[hg m];unfold Xu at hm;unfold XG
  by_cases e:m=n
  .simp[e]at hm
  .simp only[e,decide_false,if_false]at hm ⊢;exact h.yes m hm
 .rw[hg m];unfold Xu at hm;unfold XG
  by_cases e:m=n
  .simp[e]
  .simp only[e,decide_false,if_false]at hm ⊢;exact h.no m hm
theorem Qh7(hu:P.underlying t=some (.map kt et))(hb:bk w b=some (.map es.toArray cl))(hm:Ji r k' z has get es)(h:QBX P kt et k n k' z get=some eff)(hp:eff.pre=true):
  (Instr.lookup t (.map (some b)) (.int k n) false).run P w = .ok (eff.val.den r) w/\eff.upd=[]:=by
 unfold QBX at h;split at h<;>(try (cases h;done))
 rename_i zz hk hkk hz;split at h<;>(try (cases h;done))
 rename_i hzz;have hkk:k=k':=by simpa using hkk
 subst hkk;simp only[qsI]at h;subst h;obtain⟨hv1,hv2⟩:=QTj hp r;refine⟨?_,hv2⟩;rw[hv1];obtain⟨x,hf,hx⟩:=QB8 n 0 hm.keysI;cases hh:has n with
 | true=>
  rw[hm.yes n hh]at hx;cases x with
  | none=>cases hx
  | some x=>
   simp only[Option.map_some,qsI]at hx;simp only[Instr.lookup,Sem.run_bind,run_underlying hu,Result.andThen_ok,YE hb,Sem.run_pure,YD hk,Xq hk hf];rw[<-hx];rfl
 | false=>
  rw[(hm.no n hh).1]at hx;cases x with
  | some x=>cases hx
  | none=>
   simp only[Instr.lookup,Sem.run_bind,run_underlying hu,Result.andThen_ok,YE hb,Sem.run_pure,YD hk,Xq hk hf,QCO hz];rw[(hm.no n hh).2,QN7 hzz r];rfl
theorem QU0(hu:P.underlying t=some (.map kt et))(hb:bk w b=some (.map es.toArray cl))(hm:Ji r k' z has get es)(h:QFo P kt et k n k' z has get=some eff)(hp:eff.pre=true):
  (Instr.lookup t (.map (some b)) (.int k n) true).run P w = .ok (eff.val.den r) w/\eff.upd=[]:=by
 unfold QFo at h;split at h<;>(try (cases h;done))
 rename_i e0 h';simp only[qsI]at h;subst h;have hp:e0.pre=true:=hp;have h:=h';clear h';unfold QBX at h;split at h<;>(try (cases h;done))
 rename_i zz hk hkk hz;split at h<;>(try (cases h;done))
 rename_i hzz;have hkk:k=k':=by simpa using hkk
 subst hkk;simp only[qsI]at h;subst h;obtain⟨hv1,hv2⟩:=QTj hp r;refine⟨?_,rfl⟩;simp only[AV.den,AV.denL];rw[hv1];obtain⟨x,hf,hx⟩:=QB8 n 0 hm.keysI;cases hh:has n with
 | true=>
  rw[hm.yes n hh]at hx;cases x with
  | none=>cases hx
  | some x=>
   simp only[Option.map_some,qsI]at hx;simp only[Instr.lookup,Sem.run_bind,run_underlying hu,Result.andThen_ok,YE hb,Sem.run_pure,YD hk,Xq hk hf];rw[<-hx];rfl
 | false=>
  rw[(hm.no n hh).1]at hx;cases x with
  | some x=>cases hx
  | none=>
   simp only[Instr.lookup,Sem.run_bind,run_underlying hu,Result.andThen_ok,YE hb,Sem.run_pure,YD hk,Xq hk hf,QCO hz];rw[(hm.no n hh).2,QN7 hzz r];rfl
theorem QWN{id:Nat}(hu:P.underlying t=some (.map kt et))(hb:bk w b=some (.map es.toArray cl))(hm:Ji r k' z has get es)(h:QIW P kt id k n v k' z has get=some eff):
  ∃ es' cl',(Instr.mapUpdate t (.map (some b)) (.int k n) (v.den r)).run P w = .ok () (w.putObj b (.map es'.toArray cl'))/\Ji r k' z (Xu n true has) (XG n v get) es'/\eff=⟨true,true,.tup [],[(id,.mpf k' z (Xu n true has) (XG n v get))]⟩:=by
 unfold QIW at h;split at h<;>(try (cases h;done))
 rename_i hk hkk hv;have hkk:k=k':=by simpa using hkk
 subst hkk;simp only[qsI]at h;obtain⟨x,hf,hx⟩:=QB8 n 0 hm.keysI;cases x with
 | some x=>
  obtain⟨i,x⟩:=x;obtain⟨es',cl',h1,h2⟩:=QEO (id:=id) (k:=k) (n:=n) (v:=v) (P:=P) (kt:=kt) (cl:=cl) (eff:=⟨true,true,.tup [],[(id,.mp (Zb (.int k n) (vL v) es i) cl)]⟩) hu hb (by simp only[Gt,hk,hv,hf]) r
  simp only[Eff.mk.injEq,List.cons.injEq,qpI,Blk.mp.injEq,true_and,and_true]at h2;obtain⟨rfl,rfl⟩:=h2;obtain⟨_,e,he,hek,_⟩:=QA3 hf;exact⟨_,_,h1,hm.put hv (QdQ hm.keysI (QPi he hek)) (λm=>QTq m hm.keysI he hek),h.symm⟩
 | none=>
  obtain⟨es',cl',h1,h2⟩:=QEO (id:=id) (k:=k) (n:=n) (v:=v) (P:=P) (kt:=kt) (cl:=cl) (eff:=⟨true,true,.tup [],[(id,.mp (es++[{ key := .int k n,val:=vL v,born:=cl }]) (cl+1))]⟩) hu hb (by simp only[Gt,hk,hv,hf]) r
  simp only[Eff.mk.injEq,List.cons.injEq,qpI,Blk.mp.injEq,true_and,and_true]at h2;obtain⟨rfl,rfl⟩:=h2;have hg0:Kl k n es=none:=by rw[<-hx];rfl
  have hK:Va k (es++[{ key := .int k n,val:=vL v,born:=cl }]):=by
   refine⟨λe he=>?_,?_⟩
   .rcases List.mem_append.1 he with he|he
    .exact hm.keys e he
    .simp only[List.mem_singleton]at he;subst he;exact⟨n,rfl⟩
   .rw[List.map_append,List.map_cons,List.map_nil,List.nodup_append];refine⟨hm.once,by simp,λa ha b hb'=>?_⟩
    obtain⟨e,he,rfl⟩:=List.mem_map.1 ha;simp only[List.mem_singleton]at hb';subst hb';exact QR2 hm.keysI hg0 e he
  exact⟨_,_,h1,hm.put hv hK (λm=>QQW m hm.keysI hg0),h.symm⟩
theorem Qei{tys:Array TypeId}{id:Nat}(hu:P.underlying t=some (.map kt et))(hb:bk w b=some (.map es.toArray cl))(ht:tys[0]? = some t)(hm:Ji r k' z has get es)(h:QGk P kt id k n k' z has get=some eff):
  ∃ es' cl',(Builtin.delete_ tys ty #[.map (some b),.int k n]).run P w = .ok (.tuple #[]) (w.putObj b (.map es'.toArray cl'))/\Ji r k' z (Xu n false has) (XG n z get) es'/\eff=⟨true,true,.tup [],[(id,.mpf k' z (Xu n false has) (XG n z get))]⟩:=by
 unfold QGk at h;split at h<;>(try (cases h;done))
 rename_i hk hkk;have hkk:k=k':=by simpa using hkk
 subst hkk;simp only[qsI]at h;obtain⟨x,hf,hx⟩:=QB8 n 0 hm.keysI;cases x with
 | some x=>
  obtain⟨i,x⟩:=x;obtain⟨es',cl',h1,h2⟩:=QI9 (id:=id) (k:=k) (n:=n) (P:=P) (kt:=kt) (ty:=ty) (cl:=cl) (eff:=⟨true,true,.tup [],[(id,.mp (YY es i) cl)]⟩) hu hb ht (by simp only[QAr,hk,hf])
  simp only[Eff.mk.injEq,List.cons.injEq,qpI,Blk.mp.injEq,true_and,and_true]at h2;obtain⟨rfl,rfl⟩:=h2;obtain⟨_,e,he,hek,_⟩:=QA3 hf;exact⟨_,_,h1,hm.del (QKU hm.keysI) (λm=>QRO m hm.keysI he hek),h.symm⟩
 | none=>
  obtain⟨es',cl',h1,h2⟩:=QI9 (id:=id) (k:=k) (n:=n) (P:=P) (kt:=kt) (ty:=ty) (cl:=cl) (eff:=⟨true,true,.tup [],[(id,.mp es cl)]⟩) hu hb ht (by simp only[QAr,hk,hf])
  simp only[Eff.mk.injEq,List.cons.injEq,qpI,Blk.mp.injEq,true_and,and_true]at h2;obtain⟨rfl,rfl⟩:=h2;have hg0:Kl k n es=none:=by rw[<-hx];rfl
  refine⟨_,_,h1,hm.del hm.keysI (λm=>?_),h.symm⟩
  by_cases e:m=n
  .rw[if_pos e,e];exact hg0
  .rw[if_neg e]
theorem Ka.zero{id:Nat}{z n:Nat}{g:Nat->List AV}(h:Ka r id w ty z n g)(hn:(r id).nil=true):n=0:=h.2.2.2.1 hn
theorem QKW{lk:Nat->Option Blk}{nid id cl:Nat}{has0:Int->Bool}{get0:Int->AV}{es0:List MapEntry}{cl0:Nat}(hid:inR nid id=false)(hlk:lk id=some (.mpf k z has0 get0))(hb:bk w (r id).blk=some (.map es0.toArray cl0))(hm:Ji r k z has get es):Qi lk r nid [(id,.mpf k z has get)] w r (w.putObj (r id).blk (.map es.toArray cl)):=
 Qi.same1 hid hlk rfl (λ_ h=>h) ⟨es,cl,QGo hb,hm⟩ (QF9 w _ _)
theorem QgI{v:Value}{k:CK}(h:QGR v=some k)(r:Nat->Loc):v=(mkC k 0).den r:=by
 unfold QGR at h;split at h<;>(try (cases h;done))
 .split at h<;>(try (cases h;done))
  rename_i n hn;have:=qdt hn;subst this;simp only[qsI]at h;subst h;rfl
 .split at h<;>(try (cases h;done))
  simp only[qsI]at h;subst h;rfl
theorem QRj{l:List Value}{ks:List CK}(h:Gj l=some ks)(r:Nat->Loc)(j:Nat):l=AV.denL r (cellsOf ks j λ_=>0):=by
 induction l generalizing ks j with
 | nil=>simp only[Gj,qsI]at h;subst h;rfl
 | cons v l ih=>
  unfold Gj at h;split at h<;>(try (cases h;done))
  rename_i k ks' h1 h2;simp only[qsI]at h;subst h;rw[cellsOf,AV.denL,<-QgI h1 r,<-ih h2 (j+1)]
theorem QFq(z:List AV):∀ n,rep n z=Q5 n λ_=>z
 | 0=>rfl
 | n+1=>by
  rw[rep,QFq z n];simp only[Q5,List.map_const',List.length_range,List.replicate_succ]
theorem QUx{c c':AV}{nid:Nat}(h:QHj P t c c' nid=some eff)(hp:eff.pre=true)(lk:Nat->Option Blk)(r:Nat->Loc)(w:World):
  ∃ r' w',(Instr.makeSlice t (c.den r) (c'.den r)).run P w = .ok (eff.val.den r') w'/\Qi lk r nid eff.upd w r' w':=by
 unfold QHj at h;split at h<;>(try (cases h;done))
 rename_i e c1 k1 n c2 k2 n' hu;split at h<;>(try (cases h;done))
 rename_i i hi;split at h<;>(try (cases h;done))
 rename_i z hz;split at h<;>(try (cases h;done))
 rename_i ks hks;split at h<;>(try (cases h;done))
 rename_i hsz hby
 simp only[qsI]at h;subst h;have hsz:i.size=ks.length:=qnb hsz;have hby:i.bytes<=4096:=Nat.le_of_ble_eq_true hby
 simp only[qbA]at hp;have e1:=qdt hp.1;obtain⟨h0,h1⟩:=qdt hp.2;subst e1;obtain⟨m,rfl⟩:∃ m:Nat,n=m:=⟨n.toNat,by omega⟩
 have hm:m<=17179869184:=by omega
 have hb:i.bytes*m<=281474976710656:=Nat.le_trans (Nat.mul_le_mul hby hm) (by decide)
 have hb':(i.bytes:Int)*(m:Int)<=281474976710656:=by
  have:=(Int.ofNat_le (m:=i.bytes*m) (n:=281474976710656)).2 hb
  rwa [Int.natCast_mul]at this
 have hr:=run_make (P:=P) w t e i z hu hi hz k1 k2 m m h0 (Int.le_refl _) hb' (by omega)
 simp only[Int.toNat_natCast]at hr;let l:Loc:=⟨w.heap.size,0,ks.length,m,false,none,λk=>k=w.heap.size⟩;refine⟨Qk r nid l,_,?_,Qi.new1 (l:=l) (o := .cells (madeCells z.cells (m*i.size)) e) rfl (λ_ h=>h) ?_⟩
 .simp only[AV.den]at hr ⊢;rw[hr];simp[Qk,l,Loc.base,Loc.room,Cap.den]
 .simp only[QL,Ka,Qk,if_true,l];refine⟨trivial,trivial,λk=>by simp,λh=>by simp at h,λj hj=>⟨V0 _ _ _,J2 _ _ _⟩,λ_=>⟨by simp,[],by simp,?_⟩⟩
  rw[Wl,if_pos rfl];have hz':=QFz (Qk r nid l) z (cellsOf ks 0 λ_=>0) (by rw[<-QRj hks]) m
  rw[V0]at hz';simp only[madeCells,hsz,Int.toNat_natCast];rw[hz',List.append_nil,QFq];rfl
theorem QLN:∀(b z:List Value),z.length=b.length->JY b 0 z=z
 | [],[],_=>rfl
 | [],_::_,h=>by simp at h
 | _::_,[],h=>by simp at h
 | x::b,y::z,h=>by
  simp only[List.length_cons,Nat.add_right_cancel_iff]at h;have:=QC6 z [y] b 0;simp only[List.length_cons,List.length_nil,Nat.zero_add,Nat.add_zero,List.cons_append,List.nil_append]at this;rw[JY,List.set_cons_zero,Nat.zero_add,this,QLN b z h]
theorem QZZ(a b c z:List Value)(h:z.length=b.length):JY (a++(b++c)) a.length z=a++(z++c):=by
 have:=QC6 z a (b++c) 0;rw[Nat.add_zero]at this;rw[this,QDa _ _ _ _ (by omega),QLN b z h]
theorem Qda{el:TypeId}{id e n:Nat}{cp:Cap}{ks:List CK}{m:Nat}{g:Nat->Nat->Int}(hu:P.underlying t=some (.slice el))(hb:QL r id w (.rowz true ty ks m g))(h:QGH P el id e n ty ks m g=some eff)(hp:eff.pre=true)(ty0:TypeId):
  ∃ w',(Builtin.clear_ #[t] ty0 #[(AV.slz id e n cp).den r]).run P w = .ok (.tuple #[]) w'/\eff.val = .tup []/\eff.upd=[(id,.rowz true ty ks m (jZ e n g))]/\QL r id w' (.rowz true ty ks m (jZ e n g))/\Fr w w' (λk=>k=(r id).blk)/\Qc r id (.rowz true ty ks m g) (r id).blk:=by
 unfold QGH at h;split at h<;>(try (cases h;done))
 rename_i z hz;split at h<;>(try (cases h;done))
 rename_i ks' hks;split at h<;>(try (cases h;done))
 rename_i hkb;have hkb:=Xf hkb;subst hkb;simp only[qsI]at h;subst h;obtain⟨h1,h2⟩:=qdt hp;have hb:Ka r id w ty ks'.length m (QW ks' g):=hb;have hn:=Ha hb h2;have hfoot:=hb.2.2.1;have hrow:=hb.2.2.2.2.1;have hft:∀ k,(r id).foot k↔k=(r id).blk:=λk=>by rw[hfoot k,hn];simp
 obtain⟨ho,hsz,hlen,hcap,rest,hrest,hbk⟩:=QA1 hb hn;have hz':z.cells=(AV.denL r (cellsOf ks' 0 λ_=>0)).toArray:=by rw[<-QRj hks r 0]
 let L:=Q5 m (QW ks' g);let Z:=rep n (cellsOf ks' 0 λ_=>(0:Int));let L':=L.take e++(Z++L.drop (e+n))
 have hZl:∀ k,(rep k (cellsOf ks' 0 λ_=>(0:Int))).length=k:=by
  intro k
  induction k with
  | zero=>rfl
  | succ k ih=>rw[rep,List.length_cons,ih]
 have hZg:∀(i:Nat) (x:List AV),Z[i]? = some x->x=cellsOf ks' 0 λ_=>0:=by
  intro i x hx;have:Z=Q5 n λ_=>cellsOf ks' 0 λ_=>0:=QFq _ _;rw[this]at hx;obtain⟨_,_,h⟩:=Wh (List.mem_of_getElem? hx);exact h
 have hLl:L.length=m:=JI _ _
 have hL'l:L'.length=m:=by
  simp only[L',List.length_append,List.length_take,List.length_drop,Z,hZl,hLl];omega
 have hg:∀(i:Nat) (x:List AV),L'[i]? = some x->AV.denL r x=AV.denL r (QW ks' (jZ e n g) i):=by
  intro i x hx;simp only[L']at hx;have htl:(L.take e).length=e:=by rw[List.length_take,hLl];omega
  rcases Nat.lt_or_ge i e with h3|h3
  .rw[List.getElem?_append_left (by omega),List.getElem?_take,if_pos h3]at hx
   have hi:i<m:=by omega
   rw[show L[i]? = some (QW ks' g i)from Xs hi]at hx;simp only[qsI]at hx;subst hx;simp only[QW,jZ,show decide (e<=i/\i<e+n)=false from decide_eq_false (by omega),cond_false]
  .rw[List.getElem?_append_right (by omega),htl]at hx
   rcases Nat.lt_or_ge (i-e) n with h4|h4
   .rw[List.getElem?_append_left (by simp only[Z,hZl];exact h4)]at hx
    rw[hZg _ _ hx];simp only[QW,jZ,show decide (e<=i/\i<e+n)=true from qde (by omega),cond_true]
   .rw[List.getElem?_append_right (by simp only[Z,hZl];exact h4)]at hx
    simp only[Z,hZl,List.getElem?_drop]at hx;rw[show e+n+(i-e-n)=i by omega]at hx
    have hi:i<m:=by
     have:=(List.getElem?_eq_some_iff.1 hx).1;omega
    rw[show L[i]? = some (QW ks' g i)from Xs hi]at hx;simp only[qsI]at hx;subst hx;simp only[QW,jZ,show decide (e<=i/\i<e+n)=false from decide_eq_false (by omega),cond_false]
 have hsplit:L=L.take e++((L.drop e).take n++L.drop (e+n)):=by
  rw[<-List.drop_drop,List.take_append_drop,List.take_append_drop]
 have hLmem:∀ x∈L,x.length=ks'.length:=λx hx=>by
  obtain⟨i,hi,rfl⟩:=Wh hx;exact(hrow i hi).1
 have flen:∀ l:List (List AV),(∀ x∈l,x∈L)->(AV.denL r l.flatten).length=l.length*ks'.length:=λl hl=>by
  rw[KS,Y8 _ _ (λx hx=>hLmem x (hl x hx))]
 have hzl:(AV.denL r Z.flatten).length=n*ks'.length:=by
  rw[KS];show(rep n _).flatten.length=_;rw[QCX,V0]
 have hoff:e*ks'.length=(AV.denL r (L.take e).flatten).length:=by
  rw[flen _ (λx hx=>List.mem_of_mem_take hx),List.length_take,hLl,Nat.min_eq_left (by omega)]
 have hmid:(AV.denL r Z.flatten).length=(AV.denL r ((L.drop e).take n).flatten).length:=by
  rw[hzl,flen _ (λx hx=>List.mem_of_mem_drop (List.mem_of_mem_take hx)),List.length_take,List.length_drop,hLl,Nat.min_eq_left (by omega)]
 have dap:∀ a b:List (List AV),AV.denL r (a++b).flatten=AV.denL r a.flatten++AV.denL r b.flatten:=λa b=>by
  rw[List.flatten_append,Qp,Qp,Qp,List.map_append]
 have hset:JY (AV.denL r L.flatten++rest) (e*ks'.length) (AV.denL r Z.flatten)=AV.denL r L'.flatten++rest:=by
  conv=>lhs;rw[hsplit]
  rw[dap,dap,List.append_assoc,List.append_assoc,hoff,QZZ _ _ _ _ hmid];simp only[L',dap,List.append_assoc]
 have hone:∀ u∈AV.denL r Z.flatten,u.oneCell'=true:=by
  intro u hu;rw[Qp]at hu;obtain⟨v,hv,rfl⟩:=List.mem_map.1 hu;obtain⟨y,hy,hvy⟩:=List.mem_flatten.1 hv;obtain⟨i,hi⟩:=List.getElem?_of_mem hy;rw[hZg _ _ hi]at hvy;have:=J2 ks' 0 (λ_=>(0:Int));simp only[JV,List.all_eq_true,qx,qbA]at this;exact QD1 r (this v hvy).1
 have hrl:QL r id (w.setCells (r id).blk (e*ks'.length) (AV.denL r Z.flatten)) (.rowl ty ks'.length L'):=by
  refine⟨ho,hsz,λx hx=>?_,by rw[hL'l];rw[show(Q5 m (QW ks' g)).length=m from hLl]at hcap;exact hcap,rest,by rw[hL'l];rw[show(Q5 m (QW ks' g)).length=m from hLl]at hrest;exact hrest,?_⟩
  .obtain⟨i,hi⟩:=List.getElem?_of_mem hx;have:=hg i x hi;have h5:=KS r x;rw[this,KS,QW,V0]at h5;exact h5.symm
  .rw[QB4 _ _ _ _ _ hbk,hset]
 obtain⟨s1,s2,s3,s4,s5⟩:=H7 (r id).blk (AV.denL r Z.flatten) (e*ks'.length) w;refine⟨w.setCells (r id).blk (e*ks'.length) (AV.denL r Z.flatten),?_,rfl,rfl,H9 hrl hn hft hL'l hg (λi _=>J2 _ _ _),⟨s1,s2,s3,by omega,by rw[QAF];exact qlr _,λk _ hk=>s5 k hk⟩,(hft _).2 rfl⟩
 have hbase:(AV.slz id e n cp).den r = .slice (some ⟨(r id).blk,e*ks'.length,none⟩) n ((r id).room (cp.den (r id).cap)):=by
  simp only[AV.den,Loc.base,hn,ho,hsz,Nat.zero_add]
 rw[hbase];obtain⟨i,hi,hzz⟩:=Option.bind_eq_some_iff.1 hz;rcases Nat.eq_zero_or_pos n with h0|h0
 .subst h0;have:AV.denL r Z.flatten=[]:=rfl;rw[this];simp[Builtin.clear_,run_underlying hu,World.setCells]
 .have hs:z.cells.size=(cellsOf ks' 0 λ_=>(0:Int)).length:=by rw[hz'];simp[KS]
  have hzc:(Builtin.zeroCells z.cells n).toList=AV.denL r Z.flatten:=by
   have:=QFz r z (cellsOf ks' 0 λ_=>0) hz' n;unfold Builtin.zeroCells;rw[show n*z.cells.size=n*(cellsOf ks' 0 λ_=>(0:Int)).length by rw[hs],this]
  have ht:=QDQ hbk (o:=e*ks'.length) (n:=(AV.denL r Z.flatten).length) (by
   have h6:(AV.denL r L.flatten).length=m*ks'.length:=by rw[flen _ (λx hx=>hx),hLl]
   have h7:(e+n)*ks'.length<=m*ks'.length:=Nat.mul_le_mul_right _ h1;rw[Nat.add_mul]at h7;rw[List.length_append,hzl,show(AV.denL r (Q5 m (QW ks' g)).flatten).length=m*ks'.length from h6];omega)
  have hst:=run_storeCells_cells (P:=P) (r id).blk (e*ks'.length) (AV.denL r Z.flatten) 0 w (λj hj=>?_) (λj hj=>?_) hone
  .obtain⟨k,rfl⟩:∃ k,n=k+1:=⟨n-1,by omega⟩
   simp only[Nat.add_zero]at hst;simp only[Builtin.clear_,Sem.run_bind,List.getElem?_toArray,List.getElem?_cons_zero,run_underlying hu,Result.andThen_ok,QCO hz,hzc,hst,Sem.run_pure]
  .simpa using (ht j hj).1
  .simpa using (ht j hj).2
theorem QWZ{l:List AV}(hu:P.underlying t=some (.map kt et))(hb:bk w bm=some (.map es.toArray cl))(h:QGn P kt et l es=some eff)(hp:eff.pre=true):
  (Instr.lookup t (.map (some bm)) ((AV.agg l).den r) false).run P w = .ok (eff.val.den r) w/\eff.upd=[]:=by
 unfold QGn at h;split at h<;>(try (cases h;done))
 rename_i c1 a c2 b c3 c c4 d kz z hk hz;split at h<;>(try (cases h;done))
 rename_i h0;have h0:z=0:=qdt h0;subst h0;simp only[qsI]at h;subst h;exact⟨QYD hu hb hk hp hz,rfl⟩
theorem QeN{id:Nat}{l:List AV}(hu:P.underlying t=some (.map kt et))(hb:bk w bm=some (.map es.toArray cl))(h:QIg P kt id l v es cl=some eff)(hp:eff.pre=true):
  ∃ es' cl',(Instr.mapUpdate t (.map (some bm)) ((AV.agg l).den r) (v.den r)).run P w = .ok () (w.putObj bm (.map es'.toArray cl'))/\eff.val = .tup []/\eff.upd=[(id,.mp es' cl')]:=by
 unfold QIg at h;split at h<;>(try (cases h;done))
 rename_i c1 a c2 b c3 c c4 d c5 kz n hk;simp only[qsI]at h;subst h;exact⟨_,_,QYe hu hb hk hp,rfl,rfl⟩
theorem Qdp{kz:IntKind}{e:MapEntry}{ka:AV}(hk:QJS P kt e=some ka)(hw:wfA P kt kz es=true)(hm:e∈es)(r:Nat->Loc):ka.den r=e.key/\Value.int kz (intV e.val)=e.val:=by
 unfold QJS at hk;unfold wfA at hw;split at hk
 .rename_i k hu;rw[hu]at hw;simp only[qsI]at hk;subst hk;have:=(List.all_eq_true.1 hw) e hm;rw[qbA]at this;obtain⟨n,hn⟩:=QCW this.1;obtain⟨v,hv⟩:=QCW this.2;exact⟨by simp[AV.den,QR,Ke,hn,intV],by rw[hv];rfl⟩
 .rename_i hu;split at hk<;>(try (cases hk;done))
  simp only[qsI]at hk;subst hk
  have hw:wf4 kz es=true:=by
   cases hq:P.underlying kt with
   | none=>rw[hq]at hw;exact hw
   | some d=>
    rw[hq]at hw;cases d with
    | int k=>exact absurd hq (hu k)
    | _=>exact hw
  have:=(List.all_eq_true.1 hw) e hm;rw[qbA]at this;obtain⟨a,b,c,d,hn⟩:=QEw this.1;obtain⟨v,hv⟩:=QCW this.2;exact⟨by simp[AV.den,AV.denL,QR,GK hn,hn,KQ],by rw[hv];rfl⟩
theorem QVC{t m m' j:Nat}{seen:List Nat}{last ib since:Nat}(hi:bk w ib=some (.mapIter (some bm) since seen.toArray last))(hb:bk w bm=some (.map es.toArray cl))(h:QEN P t m m' j seen last es cl=some eff)(hp:eff.pre=true):
  (Instr.entry (.pointer (some ⟨ib,0,none⟩))).run P w = .ok (eff.val.den r) w/\eff.upd=[]/\m=m'/\j=0:=by
 unfold QEN at h;split at h<;>(try (cases h;done))
 rename_i kt et hmm hj hu;split at h<;>(try (cases h;done))
 rename_i kz z ka hz hka;simp only[qsI]at h;subst h;simp only[qbA]at hp;obtain⟨⟨hl,hh⟩,hw⟩:=hp;have hl:=qdt hl;subst hl;obtain⟨g1,g2⟩:=QWL (P:=P) hi hb hh;obtain⟨k1,k2⟩:=Qdp hka hw g2 r;refine⟨?_,rfl,qnb hmm,qnb hj⟩;rw[g1];simp only[AV.den,AV.denL,k1,k2]
theorem QUh{o:Oper}{ev:Operand->AV}{nid:Nat}{a:Act}{look:Nat->Option Blk}{blks:List Blk}(hH:HOk r w nid look){ids:List Nat}{g:List Blk->Option Eff}(hV:QBt P o.op ev nid=some (ids,g))(hv:ids.map look=blks.map some)(he:g blks=some eff)(hp:eff.pre=true)(hρ:∀ x∈o.op.operands,a.eval x=(ev x).den r){K:Act->World->Prop}{Q:Exit->Act->World->Prop}(k:∀ r' w',Qi look r nid eff.upd w r' w'->K (a.put o.dst (eff.val.den r')) w'):o.wp P a w K Q:=by
 have KV:∀{s:Sem Value} {v:Value} {w':World},s.run P w = .ok v w'->(do pure (.value (<-s)):Sem Next).run P w = .ok (.value v) w':=by
  intro s v w' hs;rw[Sem.run_bind,hs];rfl
 have KU:∀{s:Sem Unit} {w':World},s.run P w = .ok () w'->(do s;pure .skip:Sem Next).run P w = .ok .skip w':=by
  intro s w' hs;rw[Sem.run_bind,hs];rfl
 have one:∀{id:Nat},[id].map look=blks.map some->∃ b,blks=[b]/\look id=some b:=by
  intro id h;obtain⟨b,rfl⟩:=zj h;simp only[List.map_cons,List.map_nil,List.cons.injEq,and_true]at h;exact⟨b,rfl,h⟩
 unfold QBt at hV;split at hV<;>(try (cases hV;done))<;>rename_i ho
 .rename_i t;simp only[qsI,qpI]at hV;obtain⟨rfl,rfl⟩:=hV;simp only[qsI]at he;subst he
  have hb:QL (Qk r nid (Loc.of w.heap.size 0 0 0)) nid (w.alloc (.map #[] 0)) (.mp [] 0):=by
   simp only[QL,Qk,if_true];show bk _ w.heap.size=_;rw[Wl,if_pos rfl]
  refine JC (w':=w.alloc (.map #[] 0)) (v := .map (some w.heap.size)) ?_ ?_
  .unfold execOp;simp only[ho];exact KV rfl
  .have:=k _ _ (Qi.new1 (r:=r) rfl (λ_ h=>h) hb);simpa[AV.den,Qk,Loc.of]using this
 .rename_i t l c;have hl:=hρ l (by rw[ho];simp[Op.operands])
  have hc:=hρ c (by rw[ho];simp[Op.operands])
  simp only[qsI,qpI]at hV;obtain⟨rfl,rfl⟩:=hV;obtain⟨r',w',h1,h2⟩:=QUx he hp look r w;refine JC (w':=w') (v:=eff.val.den r') ?_ (k _ _ h2);unfold execOp;simp only[ho];rw[hl,hc];exact KV h1
 .rename_i t x;have hx:=hρ x (by rw[ho];simp[Op.operands])
  split at hV<;>(try (cases hV;done))
  rename_i kt et id hu hex;simp only[qsI,qpI]at hV;obtain⟨rfl,rfl⟩:=hV;obtain⟨b,rfl,hb⟩:=one hv;cases b<;>(try (cases he;done))
  rename_i es cl;simp only[qsI]at he;subst he;have hbk:bk w (r id).blk=some (.map es.toArray cl):=hH.rep id _ hb;have hne:id≠nid:=ZP (hH.out id _ hb);refine JC (w':=w.alloc (.mapIter (some (r id).blk) cl #[] cl)) (v := .pointer (some ⟨w.heap.size,0,none⟩)) ?_ ?_
  .unfold execOp;simp only[ho];rw[hx,hex];exact KV (run_range_map w t kt et _ _ _ hu hbk)
  .have hb':QL (Qk r nid (Loc.of w.heap.size 0 0 0)) nid (w.alloc (.mapIter (some (r id).blk) cl #[] cl)) (.itm [.map id] t cl [] cl):=by
    simp only[QL,Qk,if_true];refine⟨rfl,rfl,?_⟩;show bk _ w.heap.size=_;rw[Wl,if_pos rfl];have e1:(Qk r nid (Loc.of w.heap.size 0 0 0) id)=r id:=by unfold Qk;rw[if_neg hne]
    simp only[AV.denL,AV.den,QNT,e1]
   have:=k _ _ (Qi.new1 (r:=r) rfl (λ_ h=>h) hb');simpa[AV.den,Qk,Loc.of]using this
 .rename_i x;have hx:=hρ x (by rw[ho];simp[Op.operands])
  split at hV<;>(try (cases hV;done))
  rename_i id m j hex;simp only[qsI,qpI]at hV;obtain⟨rfl,rfl⟩:=hV;simp only at he;split at he<;>(try (cases he;done))
  rename_i m' t since seen last es cl;simp only[List.map_cons,List.map_nil,List.cons.injEq,and_true]at hv;obtain⟨hb1,hb2⟩:=hv;obtain⟨o1,o2,hi⟩:=hH.rep id _ hb1;have hm:bk w (r m).blk=some (.map es.toArray cl):=hH.rep m _ hb2
  have key:m=m'->bk w (r id).blk=some (.mapIter (some (r m).blk) since seen.toArray last):=by
   rintro rfl;exact hi
  have hmm:m=m':=by
   unfold QEN at he;split at he<;>(try (cases he;done))
   rename_i h1 _ _;exact qnb h1
  obtain⟨g1,g2,_,rfl⟩:=QVC (r:=r) (key hmm) hm he hp;refine JC (w':=w) (v:=eff.val.den r) ?_ (k r w (by rw[g2];exact Qi.id look r nid w))
  unfold execOp;simp only[ho];rw[hx,hex];simp only[AV.den,o1,o2,Nat.mul_zero,Nat.add_zero];exact KV g1
 .rename_i t x ix;have hx:=hρ x (by rw[ho];simp[Op.operands])
  have hix:=hρ ix (by rw[ho];simp[Op.operands])
  split at hV<;>(try (cases hV;done))
  .rename_i kt et id c kk n hu hex hei;simp only[qsI,qpI]at hV;obtain⟨rfl,rfl⟩:=hV;obtain⟨b,rfl,hb⟩:=one hv
   have fin:(Instr.lookup t (.map (some (r id).blk)) (.int kk n) false).run P w = .ok (eff.val.den r) w/\eff.upd=[]->o.wp P a w K Q:=by
    rintro⟨h1,h2⟩;refine JC (w':=w) (v:=eff.val.den r) ?_ (k r w (by rw[h2];exact Qi.id look r nid w))
    unfold execOp;simp only[ho];rw[hx,hix,hex,hei];exact KV h1
   cases b<;>(try (cases he;done))
   .exact fin (QX7 hu (hH.rep id _ hb) he r)
   .obtain⟨es,cl,hbk,hm⟩:=hH.rep id _ hb;exact fin (Qh7 hu hbk hm he hp)
  .rename_i kt et id l hu hex hei;simp only[qsI,qpI]at hV;obtain⟨rfl,rfl⟩:=hV;obtain⟨b,rfl,hb⟩:=one hv;cases b<;>(try (cases he;done))
   obtain⟨h1,h2⟩:=QWZ (r:=r) hu (hH.rep id _ hb) he hp;refine JC (w':=w) (v:=eff.val.den r) ?_ (k r w (by rw[h2];exact Qi.id look r nid w))
   unfold execOp;simp only[ho];rw[hx,hix,hex,hei];exact KV h1
 .rename_i t x ix;have hx:=hρ x (by rw[ho];simp[Op.operands])
  have hix:=hρ ix (by rw[ho];simp[Op.operands])
  split at hV<;>(try (cases hV;done))
  rename_i kt et id c kk n hu hex hei;simp only[qsI,qpI]at hV;obtain⟨rfl,rfl⟩:=hV;obtain⟨b,rfl,hb⟩:=one hv
  have fin:(Instr.lookup t (.map (some (r id).blk)) (.int kk n) true).run P w = .ok (eff.val.den r) w/\eff.upd=[]->o.wp P a w K Q:=by
   rintro⟨h1,h2⟩;refine JC (w':=w) (v:=eff.val.den r) ?_ (k r w (by rw[h2];exact Qi.id look r nid w))
   unfold execOp;simp only[ho];rw[hx,hix,hex,hei];exact KV h1
  cases b<;>(try (cases he;done))
  obtain⟨es,cl,hbk,hm⟩:=hH.rep id _ hb;exact fin (QU0 hu hbk hm he hp)
 .rename_i t m x v;have hm:=hρ m (by rw[ho];simp[Op.operands])
  have hx:=hρ x (by rw[ho];simp[Op.operands])
  have hvv:=hρ v (by rw[ho];simp[Op.operands])
  split at hV<;>(try (cases hV;done))
  .rename_i kt et id c kk n hu hem hex;simp only[qsI,qpI]at hV;obtain⟨rfl,rfl⟩:=hV;obtain⟨b,rfl,hb⟩:=one hv;cases b<;>(try (cases he;done))
   .obtain⟨es',cl',h1,rfl⟩:=QEO hu (hH.rep id _ hb) he r;refine zk (w':=w.putObj (r id).blk (.map es'.toArray cl')) ?_ (k r _ (QFZ (hH.out id _ hb) hb (hH.rep id _ hb)));unfold execOp;simp only[ho];rw[hm,hx,hvv,hem,hex];exact KU h1
   .obtain⟨es,cl,hbk,hmi⟩:=hH.rep id _ hb;simp only[jd]at he;obtain⟨es',cl',h1,h2,rfl⟩:=QWN hu hbk hmi he;refine zk (w':=w.putObj (r id).blk (.map es'.toArray cl')) ?_ (k r _ (QKW (hH.out id _ hb) hb hbk h2));unfold execOp;simp only[ho];rw[hm,hx,hvv,hem,hex];exact KU h1
  .rename_i kt et id l hu hem hex;simp only[qsI,qpI]at hV;obtain⟨rfl,rfl⟩:=hV;obtain⟨b,rfl,hb⟩:=one hv;cases b<;>(try (cases he;done))
   obtain⟨es',cl',h1,h2,h3⟩:=QeN (r:=r) hu (hH.rep id _ hb) he hp;refine zk (w':=w.putObj (r id).blk (.map es'.toArray cl')) ?_ ?_
   .unfold execOp;simp only[ho];rw[hm,hx,hvv,hem,hex];exact KU h1
   .have:=k r _ (by rw[h3];exact QFZ (hH.out id _ hb) hb (hH.rep id _ hb))
    rw[h2]at this;exact this
 .rename_i t m x v;have hm:=hρ m (by rw[ho];simp[Op.operands])
  have hx:=hρ x (by rw[ho];simp[Op.operands])
  have hvv:=hρ v (by rw[ho];simp[Op.operands])
  split at hV<;>(try (cases hV;done))
  rename_i kt et id c kk n hu hem hex;simp only[qsI,qpI]at hV;obtain⟨rfl,rfl⟩:=hV;obtain⟨b,rfl,hb⟩:=one hv;cases b<;>(try (cases he;done))
  obtain⟨es',cl',h1,rfl⟩:=QEO hu (hH.rep id _ hb) he r;refine zk (w':=w.putObj (r id).blk (.map es'.toArray cl')) ?_ (k r _ (QFZ (hH.out id _ hb) hb (hH.rep id _ hb)));unfold execOp;simp only[ho];rw[hm,hx,hvv,hem,hex];exact KU h1
 .rename_i args ts;split at hV<;>(try (cases hV;done))
  rename_i m x t t' hargs hts;have hargs':args = #[m,x]:=by apply Array.ext';simpa using hargs
  have hts':ts = #[t,t']:=by apply Array.ext';simpa using hts
  subst hargs' hts';have hm:=hρ m (by rw[ho];simp[Op.operands,Call.operands])
  have hx:=hρ x (by rw[ho];simp[Op.operands,Call.operands])
  split at hV<;>(try (cases hV;done))
  rename_i kt et id c kk n hu hem hex;simp only[qsI,qpI]at hV;obtain⟨rfl,rfl⟩:=hV;obtain⟨b,rfl,hb⟩:=one hv;cases b<;>(try (cases he;done))
  .obtain⟨es',cl',h1,rfl⟩:=QI9 (ty:=o.type) (tys := #[t,t']) hu (hH.rep id _ hb) rfl he;refine JC (w':=w.putObj (r id).blk (.map es'.toArray cl')) (v := .tuple #[]) ?_ (k r _ (QFZ (hH.out id _ hb) hb (hH.rep id _ hb)));unfold execOp;simp only[ho];simp[resolve,invoke,builtin,hm,hx,hem,hex,AV.den,h1,Result.andThen]
  .obtain⟨es,cl,hbk,hmi⟩:=hH.rep id _ hb;obtain⟨es',cl',h1,h2,rfl⟩:=Qei (ty:=o.type) (tys := #[t,t']) hu hbk rfl hmi he;refine JC (w':=w.putObj (r id).blk (.map es'.toArray cl')) (v := .tuple #[]) ?_ (k r _ (QKW (hH.out id _ hb) hb hbk h2));unfold execOp;simp only[ho];simp[resolve,invoke,builtin,hm,hx,hem,hex,AV.den,h1,Result.andThen]
 .rename_i args ts;split at hV<;>(try (cases hV;done))
  rename_i x t hargs hts;have hargs':args = #[x]:=by apply Array.ext';simpa using hargs
  have hts':ts = #[t]:=by apply Array.ext';simpa using hts
  subst hargs' hts';have hx:=hρ x (by rw[ho];simp[Op.operands,Call.operands])
  split at hV<;>(try (cases hV;done))
  rename_i el id e n cp hu hex;simp only[qsI,qpI]at hV;obtain⟨rfl,rfl⟩:=hV;obtain⟨b,rfl,hb⟩:=one hv;cases b<;>(try (cases he;done))
  rename_i o' ty ks m g;cases o'<;>(try (cases he;done))
  obtain⟨w',h1,h2,h3,h4,h5,h6⟩:=Qda (cp:=cp) hu (hH.rep id _ hb) he hp o.type;refine JC (w':=w') (v := .tuple #[]) ?_ ?_
  .unfold execOp;simp only[ho];rw[<-hex]at h1;simp[resolve,invoke,builtin,hx,h1,Result.andThen]
  .have:=k r _ (by rw[h3];exact Qi.same1 (hH.out id _ hb) hb h6 (λ_ hk=>hk) h4 h5)
   rw[h2]at this;exact this
 .rename_i t x y c;have hx:=hρ x (by rw[ho];simp[Op.operands])
  have hy:=hρ y (by rw[ho];simp[Op.operands])
  split at hV<;>(try (cases hV;done))
  rename_i elem id e len cp hu hex hey;simp only[qsI,qpI]at hV;obtain⟨rfl,rfl⟩:=hV;obtain⟨b,rfl,hb⟩:=one hv;simp only at he;split at he<;>(try (cases he;done))
  rename_i n hn;simp only[qsI]at he;subst he;obtain⟨h1,h2⟩:=qdt hp;have hrep:=hH.rep id _ hb
  have hnil:(r id).nil=false:=by
   cases hh:(r id).nil with
   | false=>rfl
   | true=>
    exfalso;cases b<;>simp only[QBO]at hn<;>(try (cases hn;done))<;>simp only[qsI]at hn<;>subst hn
    .have:=Ka.zero hrep hh;omega
    .have:=hrep.2.2.1 hh;omega
  have hden:(AV.slz id e len cp).den r=(AV.slice true id e len cp).den r:=by
   simp only[AV.den,Loc.base,Loc.room,hnil]
  refine JC (w':=w) (v := .bool false) ?_ (k r w (Qi.id look r nid w));have:=QSP (P:=P) (op := .eql) (t:=t) (xo:=x) (yo:=y) (x := .slice true id e len cp) (y := .nils) (e:=⟨true,true,.bool true false⟩) (by simp[QFR,QBF,eqA,hu,okE]) rfl r w
  unfold execOp;simp only[ho];rw[hx,hy,hex,hey,hden];exact KV this
