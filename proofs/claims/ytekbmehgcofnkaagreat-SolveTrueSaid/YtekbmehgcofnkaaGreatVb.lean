/- - -/
import Derived.Test.YtekbmehgcofnkaaGreatVa
namespace Go.SX
open Go Go.RowKit Go.Proofs.YtekbmehgcofnkaaGreat
structure VE where
 known:Bool
 pre:Bool
 val:AV
def okE(v:AV):Option VE:=some ⟨true,true,v⟩
def VL(row:Bool)(n:Nat)(l:List AV)(j:Nat):Option AV:=
 if row then (if j+n<=l.length then some (.agg ((l.drop j).take n))else none)else l[j]?
def szT(P:Program)(t:TypeId):Option Nat:=(P.info? t).map (·.size)
def VI(P:Program)(t:TypeId):Option Bool:=(P.underlying t).map TypeDesc.isRow
def QFG(P:Program)(t:TypeId)(f:Nat):Option Field:=match P.underlying t with
 | some (.struct fs)=>fs[f]?
 | _=>none
def AV.storable:AV->Bool
 | .agg l=>l.all AV.atom
 | v=>v.atom
variable {v x y:AV}{P:Program}{r:Nat->Loc}{t:TypeId}{n:Nat}
theorem QGq(r:Nat->Loc)(h:v.storable=true):(v.den r).cells=(AV.denL r v.cells).toArray:=
 Qhi r v (by cases v<;>first|exact .inl h|exact .inr ⟨_,rfl⟩)
theorem QT9(r:Nat->Loc){v:AV}(h:v.storable=true):∀ x∈AV.denL r v.cells,x.oneCell'=true:=by
 intro x hx;rw[Qy]at hx;obtain⟨y,hy,rfl⟩:=List.mem_map.1 hx;refine QEH r ?_;cases v<;>simp only[AV.cells,List.mem_singleton]at hy<;>first|(subst hy;exact h)|skip
 simp only[AV.storable,List.all_eq_true]at h;exact h y hy
def XH(l:List AV)(j:Nat):List AV->List AV
 | []=>l
 | v::vs=>XH (l.set j v) (j+1) vs
def Jk(l:List Value)(j:Nat):List Value->List Value
 | []=>l
 | v::vs=>Jk (l.set j v) (j+1) vs
theorem QYe(r:Nat->Loc):∀(l:List AV) (j:Nat) (v:AV),AV.denL r (l.set j v)=(AV.denL r l).set j (v.den r):=by
 intro l j v;rw[Qy,Qy,List.map_set]
theorem QFp(r:Nat->Loc):∀(vs:List AV) (l:List AV) (j:Nat),AV.denL r (XH l j vs)=Jk (AV.denL r l) j (AV.denL r vs)
 | [],_,_=>rfl
 | v::vs,l,j=>by rw[XH,QFp r vs,QYe];rfl
theorem QIW:∀(vs:List AV) (l:List AV) (j:Nat),(XH l j vs).length=l.length
 | [],_,_=>rfl
 | v::vs,l,j=>by rw[XH,QIW vs,List.length_set]
theorem QNI(off:Nat):∀(vs:List Value) (k:Nat) (cs:List Value),(vs.zipIdx k).foldl (λ(c:Array Value) (x:Value×Nat)=>c.setIfInBounds (off+x.2) x.1) cs.toArray=(Jk cs (off+k) vs).toArray
 | [],_,_=>rfl
 | v::vs,k,cs=>by
  rw[List.zipIdx_cons,List.foldl_cons,Jk];rw[List.setIfInBounds_toArray,QNI off vs (k+1)];rfl
def Xm(place:Nat->Option (Nat×Nat))(cells:List AV):List (Nat×AV)->Option (List AV)
 | []=>some cells
 | (i,v)::rest=>
  match place i with
  | none=>none
  | some (off,size)=>if v.storable&&v.cells.length==size&&decide (off+v.cells.length<=cells.length)then Xm place (XH cells off v.cells) rest else none
theorem Kf(r:Nat->Loc)(l:List AV):(AV.denL r l).length=l.length:=by rw[Qy,List.length_map]
theorem QE3(r:Nat->Loc)(place:Nat->Option (Nat×Nat)):∀(parts:List (Nat×AV)) (cells:List AV) (out:List AV),Xm place cells parts=some out ->
  Instr.fill place (AV.denL r cells).toArray (parts.map λx=>(x.1,x.2.den r))=some (AV.denL r out).toArray
 | [],cells,out,h=>by simp only[Xm,qsI]at h;subst h;rfl
 | (i,v)::parts,cells,out,h=>by
  simp only[Xm]at h;cases hp:place i with
  | none=>simp[hp]at h
  | some q=>
   obtain⟨off,size⟩:=q;simp only[hp]at h;split at h
   .rename_i hc;simp only[qbA,beq_iff_eq,qdE]at hc;obtain⟨⟨h1,h2⟩,h3⟩:=hc;simp only[List.map_cons,Instr.fill,hp,QGq r h1,List.size_toArray,Kf];rw[if_neg (by simp;omega)]
    rw[<-QE3 r place parts _ out h,QFp];congr 1;have:=QNI off (AV.denL r v.cells) 0 (AV.denL r cells);rw[Nat.add_zero]at this;rw[<-this];simp
   .cases h
def QKk(P:Program)(t:TypeId)(parts:List (Nat×AV)):Option (List AV):=
 match P.info? t,P.underlying t with
 | some it,some (.array _ e)=>
  match it.zero,P.info? e with
  | some (.agg z),some ie=>Xm (λi=>some (i*ie.size,ie.size)) (z.toList.map XL) parts
  | _,_=>none
 | some it,some (.struct fields)=>
  match it.zero,fields.toList.mapM (λf=>(P.info? f.type).map λi=>(f.offset,i.size))with
  | some (.agg z),some places=>Xm (places.toArray[·]?) (z.toList.map XL) parts
  | _,_=>none
 | _,_=>none
theorem QZZ{parts:List (Nat×AV)}{out:List AV}(h:QKk P t parts=some out)(w:World):
  (Instr.build t (parts.map λx=>(x.1,x.2.den r)).toArray).run P w = .ok (.agg (AV.denL r out).toArray) w:=by
 refine run_build w t _ _ ?_;unfold QKk at h;unfold Program.built;split at h
 .rename_i it n e hi hu;simp only[hi,hu];split at h
  .rename_i z ie hz hie;simp only[hz,hie];have:=QE3 r _ _ _ _ h;rw[QAS]at this;simpa[Value.cells]using this
  .cases h
 .rename_i it fs hi hu;simp only[hi,hu];split at h
  .rename_i z places hz hp;simp only[hz,hp];have:=QE3 r _ _ _ _ h;rw[QAS]at this;simpa[Value.cells]using this
  .cases h
 .cases h
def jt(P:Program)(eq:TypeId->AV->AV->Option (Bool×Bool))(xs ys:List AV):List Field->Option (Bool×Bool)
 | []=>some (true,true)
 | f::fs=>
  if f.name = "_" then jt P eq xs ys fs else
  match VI P f.type,szT P f.type with
  | some row,some n=>
   match VL row n xs f.offset,VL row n ys f.offset with
   | some a,some b=>
    match eq f.type a b with
    | some (c,e)=>
     if c then (if e then jt P eq xs ys fs else some (true,false))else
     match jt P eq xs ys fs with
     | some (_,e')=>some (false,e&&e')
     | none=>none
    | none=>none
   | _,_=>none
  | _,_=>none
def Hx(eq:AV->AV->Option (Bool×Bool))(row:Bool)(n:Nat)(xs ys:List AV):List Nat->Option (Bool×Bool)
 | []=>some (true,true)
 | i::is=>
  match VL row n xs (i*n),VL row n ys (i*n)with
  | some a,some b=>
   match eq a b with
   | some (c,e)=>
    if c then (if e then Hx eq row n xs ys is else some (true,false))else
    match Hx eq row n xs ys is with
    | some (_,e')=>some (false,e&&e')
    | none=>none
   | none=>none
  | _,_=>none
def eqA(P:Program):Nat->TypeId->AV->AV->Option (Bool×Bool)
 | 0,_,_,_=>none
 | d+1,t,x,y=>
  match P.underlying t,x,y with
  | some .bool,.bool c a,.bool c' b=>some (c&&c',a==b)
  | some (.int _),.int c k a,.int c' k' b=>if k=k' then some (c&&c',a==b)else none
  | some (.interface _),.nili,.nili=>some (true,true)
  | some (.interface _),.nili,.ifc .. => some (true,false)
  | some (.interface _),.ifc ..,.nili=>some (true,false)
  | some (.slice _),.nils,.nils=>some (true,true)
  | some (.slice _),.nils,.slice .. => some (true,false)
  | some (.slice _),.slice ..,.nils=>some (true,false)
  | some (.pointer _),.nilp,.nilp=>some (true,true)
  | some (.pointer _),.nilp,.ptr .. => some (true,false)
  | some (.pointer _),.ptr ..,.nilp=>some (true,false)
  | some (.struct fs),.agg xs,.agg ys=>if P.stoodInHeld t then none else jt P (eqA P d) xs ys fs.toList
  | some (.array k e),.agg xs,.agg ys=>
   match VI P e,szT P e with
   | some row,some n=>Hx (eqA P d e) row n xs ys (List.range k)
   | _,_=>none
  | _,_,_=>none
theorem QKd(h:szT P t=some n):∃ i,P.info? t=some i/\i.size=n:=by
 unfold szT at h;cases hi:P.info? t with
 | none=>simp[hi]at h
 | some i=>exact⟨i,rfl,by simpa[hi]using h⟩
theorem Qkg{row:Bool}(h:VI P t=some row)(w:World):(isAgg t).run P w = .ok row w:=by
 unfold VI at h;cases hu:P.underlying t with
 | none=>simp[hu]at h
 | some d=>
  simp only[hu,Option.map_some,qsI]at h;subst h;unfold isAgg;rw[Sem.run_bind,run_underlying hu w];cases d<;>rfl
theorem XC(h:szT P t=some n)(w:World):(sizeOf t).run P w = .ok n w:=by
 obtain⟨i,hi,rfl⟩:=QKd h;simp[sizeOf,typeInfo,hi]
theorem jl{row:Bool}{l:List AV}{j:Nat}(hr:VI P t=some row)(hn:szT P t=some n)(h:VL row n l j=some v)(w:World):
  (part t (AV.denL r l).toArray j).run P w = .ok (v.den r) w:=by
 unfold part;rw[Sem.run_bind,Qkg hr];unfold VL at h;cases row with
 | true=>
  simp only[if_true]at h;split at h
  .simp only[qsI]at h;subst h;simp only[Result.andThen_ok,if_true,Sem.run_bind,XC hn,Sem.run_pure,AV.den];congr 2;apply Array.ext';simp[Qy,Nat.add_sub_cancel_left,List.map_take,List.map_drop,List.extract_eq_take_drop]
  .cases h
 | false=>
  simp only[Bool.false_eq_true,if_false]at h;have:(AV.denL r l)[j]? = some (v.den r):=by rw[Qy,List.getElem?_map,h];rfl
  simp[this]
theorem QKV:∀(d:Nat) (t:TypeId) (x y:AV) (c b:Bool),eqA P d t x y=some (c,b)->∀(D:Nat),d<=D->∀ w,(Op.equalIn D t (x.den r) (y.den r)).run P w = .ok b w:=by
 intro d
 induction d with
 | zero=>intro t x y c b h;simp[eqA]at h
 | succ d ih=>
  intro t x y c b h D hD w;obtain⟨D,rfl⟩:∃ D',D=D'+1:=⟨D-1,by omega⟩
  unfold eqA at h;split at h<;>try (cases h;done)
  .rename_i hu;simp only[qsI,qpI]at h;obtain⟨_,rfl⟩:=h;simp[AV.den,Op.equalIn,run_underlying hu]
  .rename_i hu;split at h
   .rename_i hk;subst hk;simp only[qsI,qpI]at h;obtain⟨_,rfl⟩:=h;simp[AV.den,Op.equalIn,run_underlying hu]
   .cases h
  .rename_i hu;simp only[qsI,qpI]at h;obtain⟨_,rfl⟩:=h;simp[AV.den,Op.equalIn,run_underlying hu]
  .rename_i hu;simp only[qsI,qpI]at h;obtain⟨_,rfl⟩:=h;simp[AV.den,Op.equalIn,run_underlying hu]
  .rename_i hu;simp only[qsI,qpI]at h;obtain⟨_,rfl⟩:=h;simp[AV.den,Op.equalIn,run_underlying hu]
  .rename_i hu;simp only[qsI,qpI]at h;obtain⟨_,rfl⟩:=h;simp[AV.den,Op.equalIn,run_underlying hu]
  .rename_i hu;simp only[qsI,qpI]at h;obtain⟨_,rfl⟩:=h;simp[AV.den,Op.equalIn,run_underlying hu]
  .rename_i hu;simp only[qsI,qpI]at h;obtain⟨_,rfl⟩:=h;simp[AV.den,Op.equalIn,run_underlying hu]
  .rename_i hu;simp only[qsI,qpI]at h;obtain⟨_,rfl⟩:=h;simp[AV.den,Op.equalIn,run_underlying hu]
  .rename_i hu;simp only[qsI,qpI]at h;obtain⟨_,rfl⟩:=h;simp[AV.den,Op.equalIn,run_underlying hu]
  .rename_i hu;simp only[qsI,qpI]at h;obtain⟨_,rfl⟩:=h;simp[AV.den,Op.equalIn,run_underlying hu]
  .rename_i fs xs ys hu;split at h
   .cases h
   .rename_i hs;have hf:P.fieldsOf t=fs:=by unfold Program.fieldsOf;rw[hu]
    simp only[AV.den];rw[run_equalIn_struct w D t _ _ (by rw[hf,hu]) (by simpa using hs),hf]
    generalize fs.toList=l at h;clear hf hu hs
    induction l generalizing c b w with
    | nil=>simp only[jt,qsI,qpI]at h;obtain⟨_,rfl⟩:=h;simp[Op.eqFields]
    | cons f l ihl=>
     unfold jt at h;unfold Op.eqFields;split at h
     .rename_i hn;rw[if_neg (by simp[hn])];exact ihl _ _ _ h
     .rename_i hn;rw[if_pos hn];split at h<;>try (cases h;done)
      rename_i row n hr hz;split at h<;>try (cases h;done)
      rename_i a e ha he;split at h<;>try (cases h;done)
      rename_i c1 e1 h1;have hq:=ih f.type a e c1 e1 h1 D (by omega) w
      simp only[Sem.run_bind,jl hr hz ha,jl hr hz he,Result.andThen_ok,hq];split at h
      .split at h
       .rename_i he1;subst he1;simp only[Bool.not_true,Bool.false_eq_true,if_false];exact ihl _ _ _ h
       .rename_i he1;simp only[qsI,qpI]at h;obtain⟨_,rfl⟩:=h;simp only[Bool.not_eq_true]at he1;subst he1;simp
      .split at h<;>try (cases h;done)
       rename_i c2 e2 h2;simp only[qsI,qpI]at h;obtain⟨_,rfl⟩:=h;cases e1 with
       | true=>simp only[Bool.not_true,Bool.false_eq_true,if_false,Bool.true_and];exact ihl _ _ _ h2
       | false=>simp
  .rename_i k e xs ys hu;split at h<;>try (cases h;done)
   rename_i row n hr hz;obtain⟨i,hi,_⟩:=QKd hz
   have hc:P.cellsOf e=n:=by
    have h1:=run_sizeOf w hi;rw[XC hz w]at h1;simp only[Result.ok.injEq]at h1;exact h1.1.symm
   simp only[AV.den];rw[run_equalIn_array w D _ _ hu hi,hc];generalize List.range k=l at h;clear hu
   induction l generalizing c b w with
   | nil=>simp only[Hx,qsI,qpI]at h;obtain⟨_,rfl⟩:=h;simp[Op.eqItems]
   | cons j l ihl=>
    unfold Hx at h;unfold Op.eqItems;split at h<;>try (cases h;done)
    rename_i a e' ha he;split at h<;>try (cases h;done)
    rename_i c1 e1 h1;have hq:=ih e a e' c1 e1 h1 D (by omega) w
    simp only[Sem.run_bind,jl hr hz ha,jl hr hz he,Result.andThen_ok,hq];split at h
    .split at h
     .rename_i he1;subst he1;simp only[Bool.not_true,Bool.false_eq_true,if_false];exact ihl _ _ _ h
     .rename_i he1;simp only[qsI,qpI]at h;obtain⟨_,rfl⟩:=h;simp only[Bool.not_eq_true]at he1;subst he1;simp
    .split at h<;>try (cases h;done)
     rename_i c2 e2 h2;simp only[qsI,qpI]at h;obtain⟨_,rfl⟩:=h;cases e1 with
     | true=>simp only[Bool.not_true,Bool.false_eq_true,if_false,Bool.true_and];exact ihl _ _ _ h2
     | false=>simp
def QKu(op:BinOp)(c c':Bool)(k k':IntKind)(a b:Int):Option VE:=
 match op with
 | .shl=>if c' then (if b<0 then none else okE (.int (c&&c') k (k.wrap (a*2^(min b.toNat k.bits)))))else some ⟨false,decide (0<=b),.int false k (k.wrap (a*2^(min b.toNat k.bits)))⟩
 | .shr=>if c' then (if b<0 then none else okE (.int (c&&c') k (a.fdiv (2^(min b.toNat k.bits)))))else some ⟨false,decide (0<=b),.int false k (a.fdiv (2^(min b.toNat k.bits)))⟩
 | .add=>if k=k' then okE (.int (c&&c') k (k.wrap (a+b)))else none
 | .sub=>if k=k' then okE (.int (c&&c') k (k.wrap (a-b)))else none
 | .mul=>if k=k' then okE (.int (c&&c') k (k.wrap (a*b)))else none
 | .quo=>if k=k' then some ⟨c',!decide (b=0),.int (c&&c') k (k.wrap (a.tdiv b))⟩else none
 | .rem=>if k=k' then some ⟨c',!decide (b=0),.int (c&&c') k (a.tmod b)⟩else none
 | .eql=>if k=k' then okE (.bool (c&&c') (a==b))else none
 | .neq=>if k=k' then okE (.bool (c&&c') (a != b))else none
 | .lss=>if k=k' then okE (.bool (c&&c') (decide (a<b)))else none
 | .leq=>if k=k' then okE (.bool (c&&c') (decide (a<=b)))else none
 | .gtr=>if k=k' then okE (.bool (c&&c') (decide (a>b)))else none
 | .geq=>if k=k' then okE (.bool (c&&c') (decide (a≥b)))else none
 | .and=>if k=k' then okE (.int (c&&c') k (k.wrap (BitVec.ofInt k.bits a &&& BitVec.ofInt k.bits b).toNat))else none
 | .or=>if k=k' then okE (.int (c&&c') k (k.wrap (BitVec.ofInt k.bits a ||| BitVec.ofInt k.bits b).toNat))else none
 | .xor=>if k=k' then okE (.int (c&&c') k (k.wrap (BitVec.ofInt k.bits a ^^^ BitVec.ofInt k.bits b).toNat))else none
 | .andNot=>if k=k' then okE (.int (c&&c') k (k.wrap (BitVec.ofInt k.bits a &&& ~~~(BitVec.ofInt k.bits b)).toNat))else none
def QKG:Operand->Bool
 | .const _=>true
 | _=>false
def QCy(P:Program)(t:TypeId)(x y:Operand)(a b:AV):Bool:=
 match a,b with
 | .nili,.nili=>QKG x||QKG y
 | .agg _,.agg _ => !P.eqGuardType P.depth t
 | .bool ..,.bool .. => true
 | .ifc ..,_=>true
 | _,.ifc .. => true
 | .nils,_=>true
 | _,.nils=>true
 | .nilp,_=>true
 | _,.nilp=>true
 | _,_=>false
def QEY(P:Program)(op:BinOp)(t:TypeId)(xo yo:Operand)(x y:AV):Option VE:=
 match x,y with
 | .int c k a,.int c' k' b=>QKu op c c' k k' a b
 | x,y=>
  match op with
  | .eql=>if QCy P t xo yo x y then (match eqA P 20 t x y with|some (c,b)=>okE (.bool c b)|none=>none)else none
  | .neq=>if QCy P t xo yo x y then (match eqA P 20 t x y with|some (c,b)=>okE (.bool c (!b))|none=>none)else none
  | _=>none
theorem QZR(op:BinOp)(t:TypeId)(x y:Operand)(k k':IntKind)(a b:Int)(w:World):(eqGuard op t x y (.int k a) (.int k' b)).run P w = .ok () w:=by
 cases op<;>simp[eqGuard]
theorem Qb1{op:BinOp}{c c':Bool}{k k':IntKind}{a b:Int}{e:VE}(h:QKu op c c' k k' a b=some e)(hp:e.pre=true)(t:TypeId)(r:Nat->Loc)(w:World):
  (binOp op t (.int k a) (.int k' b)).run P w = .ok (e.val.den r) w:=by
 unfold QKu at h;cases op<;>simp only[okE]at h<;>(try (cases h;done))
 case shl=>
  split at h
  .split at h
   .cases h
   .rename_i hb;simp only[qsI]at h;subst h;simp[binOp,Op.shift,hb,AV.den]
  .simp only[qsI]at h;subst h;simp only[qdE]at hp;simp[binOp,Op.shift,show ¬ b<0 by omega,AV.den]
 case shr=>
  split at h
  .split at h
   .cases h
   .rename_i hb;simp only[qsI]at h;subst h;simp[binOp,Op.shift,hb,AV.den]
  .simp only[qsI]at h;subst h;simp only[qdE]at hp;simp[binOp,Op.shift,show ¬ b<0 by omega,AV.den]
 case quo=>
  split at h<;>(try (cases h;done))
  rename_i hk;simp only[qsI]at h;subst h;simp only[Bool.not_eq_true',decide_eq_false_iff_not]at hp;simp[binOp,Op.intDiv,hk,hp,AV.den]
 case rem=>
  split at h<;>(try (cases h;done))
  rename_i hk;simp only[qsI]at h;subst h;simp only[Bool.not_eq_true',decide_eq_false_iff_not]at hp;simp[binOp,Op.intDiv,hk,hp,AV.den]
 all_goals
  split at h<;>(try (cases h;done))
  rename_i hk;simp only[qsI]at h;subst h;subst hk;simp[binOp,Op.intArith,Op.intCmp,Op.intBits,AV.den]
theorem QQv{xo yo:Operand}(h:QCy P t xo yo x y=true)(op:BinOp)(r:Nat->Loc)(w:World):(eqGuard op t xo yo (x.den r) (y.den r)).run P w = .ok () w:=by
 unfold QCy at h;split at h<;>(try (cases h;done))
 case h_1=>
  cases xo<;>cases yo<;>simp only[QKG,Bool.or_self,Bool.false_eq_true,Bool.or_true,Bool.true_or]at h<;>(try (cases h;done))<;>cases op<;>simp[eqGuard,AV.den]
 case h_2=>
  simp only[Bool.not_eq_true']at h;simp only[AV.den];exact run_eqGuard_agg _ op t xo yo _ _ h
 all_goals
  first
  | (cases op<;>simp[eqGuard,AV.den];done)
  | (rename_i v _ _;cases op<;>cases v<;>simp_all [eqGuard,AV.den];done)
  | (rename_i v _;cases op<;>cases v<;>simp_all [eqGuard,AV.den];done)
  | (rename_i v;cases op<;>cases v<;>simp_all [eqGuard,AV.den];done)
theorem QNF{d:Nat}{q:Bool×Bool}(h:eqA P (d+1) t x y=some q)(hi:∀ c k a c' k' b,x = .int c k a->y = .int c' k' b->False)(r:Nat->Loc):
  binOp .eql t (x.den r) (y.den r)=(do pure (.bool (<-Op.equal t (x.den r) (y.den r))))/\binOp .neq t (x.den r) (y.den r)=(do pure (.bool (!(<-Op.equal t (x.den r) (y.den r))))):=by
 unfold eqA at h;split at h<;>(try (cases h;done))<;>first|exact⟨rfl,rfl⟩|(exact(hi _ _ _ _ _ _ rfl rfl).elim)
theorem QMi{op:BinOp}{xo yo:Operand}{e:VE}(h:QEY P op t xo yo x y=some e)(hp:e.pre=true)(r:Nat->Loc)(w:World):
  (do eqGuard op t xo yo (x.den r) (y.den r);binOp op t (x.den r) (y.den r):Sem Value).run P w = .ok (e.val.den r) w:=by
 unfold QEY at h;split at h
 .simp only[AV.den,Sem.run_bind,QZR,Result.andThen_ok];exact Qb1 h hp t r w
 .rename_i hno;split at h
  .split at h<;>(try (cases h;done))
   rename_i hg;split at h<;>(try (cases h;done))
   rename_i c b he;simp only[okE,qsI]at h;subst h;rw[Sem.run_bind,QQv hg,Result.andThen_ok,(QNF he hno r).1];simp[Op.equal,Op.maxDepth,QKV 20 t x y c b he 10000 (by omega) w,AV.den]
  .split at h<;>(try (cases h;done))
   rename_i hg;split at h<;>(try (cases h;done))
   rename_i c b he;simp only[okE,qsI]at h;subst h;rw[Sem.run_bind,QQv hg,Result.andThen_ok,(QNF he hno r).2];simp[Op.equal,Op.maxDepth,QKV 20 t x y c b he 10000 (by omega) w,AV.den]
  .cases h
