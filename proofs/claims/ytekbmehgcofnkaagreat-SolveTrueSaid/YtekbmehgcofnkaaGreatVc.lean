/- - -/
import Derived.Test.YtekbmehgcofnkaaGreatVb
namespace Go.SX
open Go Go.RowKit Go.Proofs.YtekbmehgcofnkaaGreat
def HZ(c:Bool)(k:IntKind)(a:Int):List AV->Option AV
 | []=>some (.int c k a)
 | .int c' _ b::l=>HZ (c&&c') k (min a b) l
 | _::_=>none
def HI(c:Bool)(k:IntKind)(a:Int):List AV->Option AV
 | []=>some (.int c k a)
 | .int c' _ b::l=>HI (c&&c') k (max a b) l
 | _::_=>none
def QPP:List AV->Option AV
 | .int c k a::l=>HZ c k a l
 | _=>none
def QPe:List AV->Option AV
 | .int c k a::l=>HI c k a l
 | _=>none
def QSS(P:Program)(t:TypeId)(x:AV):Option AV:=
 match P.underlying t,x with
 | some (.slice _),.slice c _ _ n _=>some (.int c .i64 n)
 | some (.slice _),.nils=>some (.int true .i64 0)
 | some (.slice _),.slz _ _ n _=>some (.int false .i64 n)
 | some (.array n _),_=>some (.int true .i64 n)
 | some .string,.str s=>some (.int true .i64 s.size)
 | _,_=>none
def QAW(P:Program)(op:Op)(ev:Operand->AV):Option VE:=
 match op with
 | .move x=>okE (ev x)
 | .assign x=>okE (ev x)
 | .pick c a b=>
  match ev c with
  | .bool true x=>okE (match x with|true=>ev a|false=>ev b)
  | .bool false x=>
   match ev a,ev b with
   | .bool _ p,.bool _ q=>okE (.bool false (match x with|true=>p|false=>q))
   | _,_=>none
  | _=>none
 | .build t parts=>(QKk P t (parts.toList.map λp=>(p.1,ev p.2))).map λl=>⟨true,true,.agg l⟩
 | .binOp op t x y _=>QEY P op t x y (ev x) (ev y)
 | .unOp op _ x=>
  match op,ev x with
  | .neg,.int c k n=>okE (.int c k (k.wrap (0-n)))
  | .not,.bool c b=>okE (.bool c (!b))
  | _,_=>none
 | .convert src dst x=>
  match P.underlying src,P.underlying dst,ev x with
  | some _,some (.int k),.int c _ n=>okE (.int c k (k.wrap n))
  | _,_,_=>none
 | .makeInterface t x=>if P.concrete t then okE (.ifc t (ev x))else none
 | .makeFunc fn first cap=>if first.size==0 then okE (.fn fn (cap.toList.map ev))else (if cap.size==0 then okE (.mth fn (first.toList.map ev))else none)
 | .fieldAddr s x f=>
  match ev x,QFG P s f with
  | .ptr id e j,some fd=>match szT P fd.type with
   | some (_+1)=>okE (.ptr id e (j+fd.offset))
   | _=>none
  | _,_=>none
 | .field t x f=>
  match ev x,QFG P t f with
  | .agg l,some fd=>match VI P fd.type,szT P fd.type with
   | some row,some n=>(VL row n l fd.offset).map λv=>⟨true,true,v⟩
   | _,_=>none
  | _,_=>none
 | .indexAddr t x ix=>
  match P.underlying t,ev x,ev ix with
  | some (.array len elem),.ptr id e j,.int c _ i=>match szT P elem with
   | some n=>some ⟨c,decide (0<=i/\i<len),.ptr id e (j+i.toNat*n)⟩
   | none=>none
  | _,_,_=>none
 | .index t x ix=>
  match P.underlying t,ev x,ev ix with
  | some (.array len elem),.agg l,.int c _ i=>match VI P elem,szT P elem with
   | some row,some n=>(VL row n l (i.toNat*n)).map λv=>⟨c,decide (0<=i/\i<len),v⟩
   | _,_=>none
  | _,_,_=>none
 | .extract x n=>match ev x with
  | .tup l=>(l[n]?).map λv=>⟨true,true,v⟩
  | _=>none
 | .nilCheck x=>match ev x with
  | .ptr id e j=>okE (.ptr id e j)
  | .fn (.func f) cap=>okE (.fn (.func f) cap)
  | _=>none
 | .call ⟨.builtin .len,args,ts⟩=>match args.toList,ts.toList with
  | [x],[t]=>(QSS P t (ev x)).map λv=>⟨true,true,v⟩
  | _,_=>none
 | .call ⟨.builtin .min,args,_⟩=>(QPP (args.toList.map ev)).map λv=>⟨true,true,v⟩
 | .call ⟨.builtin .max,args,_⟩=>(QPe (args.toList.map ev)).map λv=>⟨true,true,v⟩
 | _=>none
theorem QS8{P:Program}{t:TypeId}{f:Nat}{fd:Field}(h:QFG P t f=some fd):∃ fs,P.underlying t=some (.struct fs)/\fs[f]? = some fd:=by
 unfold QFG at h;split at h
 .rename_i fs hu;exact⟨fs,hu,h⟩
 .cases h
theorem Ve(b o n:Nat):(⟨b,o,none⟩:Addr).add n=⟨b,o+n,none⟩:=Addr.add_mid b o n
theorem QP3{P:Program}(r:Nat->Loc):∀(l:List AV) (c:Bool) (k:IntKind) (a:Int) (v:AV) (w:World),HZ c k a l=some v->((AV.denL r l).foldlM Builtin.min2 (Value.int k a)).run P w = .ok (v.den r) w
 | [],c,k,a,v,w,h=>by simp only[HZ,qsI]at h;subst h;rfl
 | x::l,c,k,a,v,w,h=>by
  cases x<;>(try (simp[HZ]at h;done))
  rename_i c' k' b;simp only[HZ]at h;have:=QP3 (P:=P) r l _ _ _ _ w h;simp only[AV.denL,AV.den,List.foldlM_cons,Builtin.min2,Sem.run_bind,Sem.run_pure,Result.andThen_ok];rw[show(if b<a then b else a)=min a b by omega]
  exact this
theorem QNv{P:Program}(r:Nat->Loc):∀(l:List AV) (c:Bool) (k:IntKind) (a:Int) (v:AV) (w:World),HI c k a l=some v->((AV.denL r l).foldlM Builtin.max2 (Value.int k a)).run P w = .ok (v.den r) w
 | [],c,k,a,v,w,h=>by simp only[HI,qsI]at h;subst h;rfl
 | x::l,c,k,a,v,w,h=>by
  cases x<;>(try (simp[HI]at h;done))
  rename_i c' k' b;simp only[HI]at h;have:=QNv (P:=P) r l _ _ _ _ w h;simp only[AV.denL,AV.den,List.foldlM_cons,Builtin.max2,Sem.run_bind,Sem.run_pure,Result.andThen_ok];rw[show(if b>a then b else a)=max a b by omega]
  exact this
theorem Yw{ρ:Operand->Value}{ev:Operand->AV}{r:Nat->Loc}{xs:Array Operand}(h:∀ x∈xs,ρ x=(ev x).den r):xs.map ρ=(AV.denL r (xs.toList.map ev)).toArray:=by
 apply Array.ext';rw[Qy,Array.toList_map,List.map_map];simp only[List.map_inj_left];exact λx hx=>h x (by simpa using hx)
theorem QfQ{P:Program}{o:Oper}{ev:Operand->AV}{e:VE}{r:Nat->Loc}{ρ:Operand->Value}(h:QAW P o.op ev=some e)(hp:e.pre=true)(hρ:∀ x∈o.op.operands,ρ x=(ev x).den r)(w:World):
  (execOp ρ o).run P w = .ok (.value (e.val.den r)) w:=by
 have K:∀{s:Sem Value} {v:Value},s.run P w = .ok v w->(do pure (.value (<-s)):Sem Next).run P w = .ok (.value v) w:=by
  intro s v hs;rw[Sem.run_bind,hs];rfl
 unfold QAW at h;split at h<;>(try (cases h;done))<;>rename_i ho<;>simp only[ho,Op.operands]at hρ<;>unfold execOp<;>simp only[ho]
 .simp only[okE,qsI]at h;subst h;rw[hρ _ (by simp)];rfl
 .simp only[okE,qsI]at h;subst h;rw[hρ _ (by simp)];rfl
 .rename_i c a b;have hc:=hρ c (by simp);have ha:=hρ a (by simp);have hb:=hρ b (by simp)
  split at h<;>(try (cases h;done))
  .rename_i x hx;simp only[okE,qsI]at h;subst h;rw[hx]at hc;rw[hc,ha,hb];simp only[AV.den,asBool];cases x<;>rfl
  .rename_i x hx;split at h<;>(try (cases h;done))
   rename_i p q hpa hqb;simp only[okE,qsI]at h;subst h;rw[hx]at hc;rw[hpa]at ha;rw[hqb]at hb;rw[hc,ha,hb];simp only[AV.den,asBool];cases x<;>rfl
 .rename_i t parts;rw[Option.map_eq_some_iff]at h;obtain⟨l,hl,rfl⟩:=h;refine K ?_;have hb:=QZZ (r:=r) hl w
  have:(parts.map λ(i,x)=>(i,ρ x))=((parts.toList.map λp=>(p.1,ev p.2)).map λx=>(x.1,x.2.den r)).toArray:=by
   apply Array.ext';rw[Array.toList_map,List.map_map];simp only[List.map_inj_left];intro p hpm;show(p.1,ρ p.2)=_;rw[hρ p.2 (by simp;exact⟨p.1,by simpa using hpm⟩)];rfl
  rw[this];exact hb
 .rename_i op t x y yt;refine K ?_;rw[hρ x (by simp),hρ y (by simp)]
  exact QMi h hp r w
 .rename_i op t x;refine K ?_;rw[hρ x (by simp)]
  split at h<;>(try (cases h;done))<;>rename_i hx<;>simp only[okE,qsI]at h<;>subst h<;>rw[hx]<;>simp[AV.den,Op.unary,Op.intArith]
 .rename_i src dst x;refine K ?_;rw[hρ x (by simp)]
  split at h<;>(try (cases h;done))
  rename_i d k c k' n hs hd hx;simp only[okE,qsI]at h;subst h;rw[hx];simp only[AV.den,convert,Sem.run_bind,run_underlying hs,run_underlying hd,Result.andThen_ok];cases d<;>simp[Conv.intToInt]
 .rename_i t x;refine K ?_;rw[hρ x (by simp)]
  split at h<;>(try (cases h;done))
  rename_i hc;simp only[okE,qsI]at h;subst h;exact run_makeInterface w t _ hc
 .rename_i fn first cap
  refine K ?_;split at h
  .rename_i hz;simp only[okE,qsI]at h;subst h;have:first = #[]:=by simpa using hz
   subst this;rw[Yw (xs:=cap) (λx hx=>hρ x (by simpa using hx))]
   simp[Instr.makeFunc,AV.den]
  .split at h<;>(try (cases h;done))
   rename_i hz;simp only[okE,qsI]at h;subst h;have:cap = #[]:=by simpa using hz
   subst this;rw[Yw (xs:=first) (λx hx=>hρ x (by simpa using hx))]
   simp[Instr.makeFunc,AV.den]
 .rename_i s x f;refine K ?_;rw[hρ x (by simp)]
  split at h<;>(try (cases h;done))
  rename_i id e j fd hx hf;split at h<;>(try (cases h;done))
  rename_i n hn;simp only[okE,qsI]at h;subst h;obtain⟨fs,hu,hff⟩:=QS8 hf;rw[hx];simp[AV.den,Instr.fieldAt,run_underlying hu,hff,Instr.sureAddr,fieldPlace,XC hn,Ve,Nat.add_assoc]
 .rename_i t x f;refine K ?_;rw[hρ x (by simp)]
  split at h<;>(try (cases h;done))
  rename_i l fd hx hf;split at h<;>(try (cases h;done))
  rename_i row n hr hn;rw[Option.map_eq_some_iff]at h;obtain⟨v,hv,rfl⟩:=h;obtain⟨fs,hu,hff⟩:=QS8 hf;rw[hx];simp[AV.den,Instr.field,run_underlying hu,hff,asAgg,jl hr hn hv]
 .rename_i t x ix;refine K ?_;rw[hρ x (by simp),hρ ix (by simp)]
  split at h<;>(try (cases h;done))
  rename_i len elem id e j c k i hu hx hi;split at h<;>(try (cases h;done))
  rename_i n hn;simp only[qsI]at h;subst h;simp only[qdE]at hp;rw[hx,hi];simp[AV.den,Instr.indexAt,asIntOf,run_underlying hu,Instr.sureAddr,XC hn,Ve,Nat.add_assoc,hp.1,hp.2]
 .rename_i t x ix;refine K ?_;rw[hρ x (by simp),hρ ix (by simp)]
  split at h<;>(try (cases h;done))
  rename_i len elem l c k i hu hx hi;split at h<;>(try (cases h;done))
  rename_i row n hr hn;rw[Option.map_eq_some_iff]at h;obtain⟨v,hv,rfl⟩:=h;simp only[qdE]at hp;rw[hx,hi];simp[AV.den,Instr.index,asIntOf,run_underlying hu,XC hn,hp.1,hp.2,jl hr hn hv]
 .rename_i x n;refine K ?_;rw[hρ x (by simp)]
  split at h<;>(try (cases h;done))
  rename_i l hx;rw[Option.map_eq_some_iff]at h;obtain⟨v,hv,rfl⟩:=h;rw[hx];have:(AV.denL r l)[n]? = some (v.den r):=by rw[Qy,List.getElem?_map,hv];rfl
  simp[AV.den,Instr.extract,this]
 .rename_i x;rw[hρ x (by simp)]
  split at h<;>(try (cases h;done))<;>rename_i hx<;>simp only[okE,qsI]at h<;>subst h<;>rw[hx]<;>rfl
 .rename_i args ts;split at h<;>(try (cases h;done))
  rename_i x t hx ht;rw[Option.map_eq_some_iff]at h;obtain⟨v,hv,rfl⟩:=h;have hx':args = #[x]:=by apply Array.ext';simpa using hx
  have ht':ts = #[t]:=by apply Array.ext';simpa using ht
  subst hx' ht';have hxx:=hρ x (by simp[Call.operands])
  unfold QSS at hv;split at hv<;>(try (cases hv;done))
  .rename_i hu hxe;simp only[qsI]at hv;subst hv;rw[hxe]at hxx;simp[resolve,invoke,builtin,Builtin.len_,run_underlying hu,hxx,AV.den,goInt]
  .rename_i hu hxe;simp only[qsI]at hv;subst hv;rw[hxe]at hxx;simp[resolve,invoke,builtin,Builtin.len_,run_underlying hu,hxx,AV.den,goInt]
  .rename_i hu hxe;simp only[qsI]at hv;subst hv;rw[hxe]at hxx;simp[resolve,invoke,builtin,Builtin.len_,run_underlying hu,hxx,AV.den,goInt]
  .rename_i n _ hu;simp only[qsI]at hv;subst hv;simp[resolve,invoke,builtin,Builtin.len_,run_underlying hu,AV.den,goInt]
  .rename_i hu hxe;simp only[qsI]at hv;subst hv;rw[hxe]at hxx;simp[resolve,invoke,builtin,Builtin.len_,run_underlying hu,hxx,AV.den,goInt]
 .rename_i args ts;rw[Option.map_eq_some_iff]at h;obtain⟨v,hv,rfl⟩:=h;have ha:=Yw (xs:=args) (λx hx=>hρ x (by simpa[Call.operands]using hx))
  simp only[resolve,invoke,builtin,ha,Builtin.min_];unfold QPP at hv;split at hv<;>(try (cases hv;done))
  rename_i c k a l hl;rw[hl];have:=QP3 (P:=P) r l c k a v w hv;simp[AV.denL,AV.den,this]
 .rename_i args ts;rw[Option.map_eq_some_iff]at h;obtain⟨v,hv,rfl⟩:=h;have ha:=Yw (xs:=args) (λx hx=>hρ x (by simpa[Call.operands]using hx))
  simp only[resolve,invoke,builtin,ha,Builtin.max_];unfold QPe at hv;split at hv<;>(try (cases hv;done))
  rename_i c k a l hl;rw[hl];have:=QNv (P:=P) r l c k a v w hv;simp[AV.denL,AV.den,this]
