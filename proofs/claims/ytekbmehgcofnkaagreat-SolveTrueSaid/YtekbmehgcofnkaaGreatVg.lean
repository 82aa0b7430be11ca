/- - -/
import Derived.Test.YtekbmehgcofnkaaGreatVf
import Derived.RangeFuncRecord
namespace Go.SX
open Go Go.RowKit Go.Proofs.YtekbmehgcofnkaaGreat
namespace Told
def intV:Value->Int
 | .int _ n=>n
 | _=>0
def Kt(e:MapEntry):List Int:=match e.key with
 | .agg a=>a.toList.map intV
 | v=>[intV v]
def noE:MapEntry:={ key := .tuple #[],val := .tuple #[],born:=0 }
def K8(k:List Int):List MapEntry->Nat->Option (Nat×Value)
 | [],_=>none
 | e::es,i=>match Kt e==k with
  | true=>some (i,e.val)
  | false=>K8 k es (i+1)
variable (es:List MapEntry)
def Kc(k:List Int):Int:=match K8 k es 0 with
 | some (_,v)=>intV v
 | none=>0
def VU(key val:Value):List MapEntry->Nat->List MapEntry
 | [],_=>[]
 | e::es,0=>{ e with key,val }::es
 | e::es,i+1=>e::VU key val es i
def JZ(k:List Int)(kv v:Value)(cl:Nat)(es:List MapEntry):List MapEntry:=match K8 k es 0 with
 | some (i,_)=>VU kv v es i
 | none=>es++[{ key:=kv,val:=v,born:=cl }]
def clL(k:List Int)(cl:Nat)(es:List MapEntry):Nat:=match K8 k es 0 with
 | some _=>cl
 | none=>cl+1
def QL(seen:List Nat):MapEntry:=match seen.getLast? with
 | some b=>(es.find? (·.born==b)).getD noE
 | none=>noE
def YW(seen:List Nat):Bool:=match seen.getLast? with
 | some b=>es.any (·.born==b)
 | none=>false
def QT(e:MapEntry)(j:Nat):Int:=(Kt e).getD j 0
end Told
open Told
def QAc(P:Program)(f:Field)(o:Nat):Bool:=match P.underlying f.type,VI P f.type,szT P f.type with
 | some (.int .i64), some false, some 1 => (decide (f.name ≠ "_")) && Nat.beq f.offset o
 | _,_,_=>false
def ZR(P:Program)(kt:TypeId):Bool:=match P.underlying kt with
 | some (.array 2 e)=>(match P.underlying e,VI P e,szT P e with
  | some (.struct fs),some true,some 2=>(match fs.toList with
   | [f,g]=>QAc P f 0&&(QAc P g 1 && !P.stoodInHeld e)
   | _=>false)
  | _,_,_=>false)
 | _=>false
namespace Told
def Kd(a b c d:Int):Value := .agg #[.int .i64 a,.int .i64 b,.int .i64 c,.int .i64 d]
def QJt:Value->Bool
 | .agg a=>(match a.toList with
  | [.int .i64 _,.int .i64 _,.int .i64 _,.int .i64 _]=>true
  | _=>false)
 | _=>false
def QBf(k:IntKind):Value->Bool
 | .int k' _=>k==k'
 | _=>false
def wf4(kz:IntKind)(es:List MapEntry):Bool:=es.all λe=>QJt e.key&&QBf kz e.val
def wf1(k kz:IntKind)(es:List MapEntry):Bool:=es.all λe=>QBf k e.key&&QBf kz e.val
def QBx(es:List MapEntry)(since last:Nat):Prop:=(∀ e∈es,e.born<since)/\since<=last
def Z1(es:List MapEntry)(seen:List Nat):Prop:=∀ e∈es,e.born∈seen
variable (es:List MapEntry)
def QAi(seen:List Nat)(j:Nat):Prop:=j<es.length/\(es.getD j noE).born ∉ seen
def nxI(g:Nat->Value):Nat:=(intV (g 0)).toNat
end Told
def QK3(P:Program)(kt:TypeId)(e:MapEntry):Option AV:=match P.underlying kt with
 | some (.int k)=>some (.int false k (QT e 0))
 | _=>match ZR P kt with
  | true=>some (.agg [.int false .i64 (QT e 0),.int false .i64 (QT e 1),.int false .i64 (QT e 2),.int false .i64 (QT e 3)])
  | false=>none
def wfA(P:Program)(kt:TypeId)(kz:IntKind)(es:List MapEntry):Bool:=match P.underlying kt with
 | some (.int k)=>wf1 k kz es
 | _=>wf4 kz es
variable {v:Value}{P:Program}{kt t:TypeId}{a b c d:Int}{kz:IntKind}{w:World}{cl bm:Nat}
theorem QDW(h:QJt v=true):∃ a b c d,v=Kd a b c d:=by
 unfold QJt at h;split at h<;>(try (cases h;done))
 rename_i a;split at h<;>(try (cases h;done))
 rename_i x y z u hl;exact⟨x,y,z,u,by rw[Kd];congr 1;apply Array.ext';simpa using hl⟩
theorem QDJ{k:IntKind}(h:QBf k v=true):∃ n,v = .int k n:=by
 unfold QBf at h;split at h<;>(try (cases h;done))
 rename_i k' n;have:k=k':=by simpa using h
 subst this;exact⟨n,rfl⟩
theorem QDC{P : Program}{f : Field}{o : Nat}(h : QAc P f o = true): P.underlying f.type = some (.int .i64) /\ VI P f.type = some false /\ szT P f.type = some 1 /\ f.name ≠ "_" /\ f.offset = o := by
 unfold QAc at h;split at h<;>(try (cases h;done))
 rename_i h1 h2 h3;rw[qbA]at h;exact⟨h1,h2,h3,qdt h.1,qnb h.2⟩
structure Qgb (P:Program) (kt:TypeId):Prop where
 ex:∃ (e:TypeId) (f g:Field),P.underlying kt=some (.array 2 e)/\P.underlying e=some (.struct #[f,g])/\VI P e=some true/\szT P e=some 2/\P.stoodInHeld e=false/\QAc P f 0=true/\QAc P g 1=true
theorem QHx(h:ZR P kt=true):Qgb P kt:=by
 unfold ZR at h;split at h<;>(try (cases h;done))
 rename_i e hu;split at h<;>(try (cases h;done))
 rename_i fs h1 h2 h3;split at h<;>(try (cases h;done))
 rename_i f g hl;simp only[qbA]at h;have:fs = #[f,g]:=by apply Array.ext';simpa using hl
 subst this;exact⟨e,f,g,hu,h1,h2,h3,by simpa using h.2.2,h.1,h.2.1⟩
theorem QlY(h:ZR P kt=true)(a b c d a' b' c' d':Int)(w:World):(Op.equal kt (Kd a b c d) (Kd a' b' c' d')).run P w = .ok (decide ([a',b',c',d']=[a,b,c,d])) w:=by
 obtain⟨e,f,g,hu,he,hr,hz,hst,hf,hg⟩:=(QHx h).ex;obtain⟨f1,f2,f3,f4,f5⟩:=QDC hf;obtain⟨g1,g2,g3,g4,g5⟩:=QDC hg
 have hA:eqA P 3 kt (.agg [.int false .i64 a,.int false .i64 b,.int false .i64 c,.int false .i64 d]) (.agg [.int false .i64 a',.int false .i64 b',.int false .i64 c',.int false .i64 d'])=some (false,(a==a'&&(b==b'&&true))&&((c==c'&&(d==d'&&true))&&true)):=by
  simp[eqA,jt,Hx,hu,he,hr,hz,hst,f1,f2,f3,f4,f5,g1,g2,g3,g4,g5,VL,List.range,List.range.loop]
 have:=QKV (r:=λ_=>Loc.none 0) 3 kt _ _ _ _ hA Op.maxDepth (by decide) w
 have e1:(AV.agg [.int false .i64 a,.int false .i64 b,.int false .i64 c,.int false .i64 d]).den (λ_=>Loc.none 0)=Kd a b c d:=rfl;have e2:(AV.agg [.int false .i64 a',.int false .i64 b',.int false .i64 c',.int false .i64 d']).den (λ_=>Loc.none 0)=Kd a' b' c' d':=rfl;rw[e1,e2]at this;unfold Op.equal;rw[this];congr 1;rw[Bool.eq_iff_iff];simp only[qbA,beq_iff_eq,Bool.and_true,qdE,List.cons.injEq,and_true];constructor
 .rintro⟨⟨rfl,rfl⟩,rfl,rfl⟩;exact⟨rfl,rfl,rfl,rfl⟩
 .rintro⟨rfl,rfl,rfl,rfl⟩;exact⟨⟨rfl,rfl⟩,rfl,rfl⟩
theorem HK{e:MapEntry}(h:e.key=Kd a b c d):Kt e=[a,b,c,d]:=by unfold Kt;rw[h];rfl
theorem QMC{P:Program}{kt:TypeId}(h:ZR P kt=true)(a b c d:Int)(kz:IntKind)(w:World):∀(es:List MapEntry) (i:Nat),wf4 kz es=true->(Instr.findAsking kt (Kd a b c d) es i).run P w = .ok (K8 [a,b,c,d] es i) w
 | [],i,_=>rfl
 | e::es,i,hw=>by
  simp only[wf4,List.all_cons,qbA]at hw;obtain⟨a',b',c',d',hk⟩:=QDW hw.1.1;rw[Instr.findAsking,Sem.run_bind,hk,QlY h,Result.andThen_ok,K8,HK hk]
  have e1:([a',b',c',d']==[a,b,c,d])=decide ([a',b',c',d']=[a,b,c,d]):=by
   rw[Bool.eq_iff_iff,beq_iff_eq,qdE]
  rw[e1];cases decide ([a',b',c',d']=[a,b,c,d])with
  | true=>rfl
  | false=>exact QMC h a b c d kz w es (i+1) hw.2
theorem QDf(h:ZR P kt=true)(a b c d:Int){es:List MapEntry}(hw:wf4 kz es=true)(w:World):(Instr.findKey kt (Kd a b c d) es).run P w = .ok (K8 [a,b,c,d] es 0) w:=by
 obtain⟨e,f,g,hu,_⟩:=(QHx h).ex;rw[Instr.findKey,Sem.run_bind,run_underlying hu,Result.andThen_ok];cases es with
 | nil=>rfl
 | cons x es=>
  have:Instr.findNow (.array 2 e) (Kd a b c d) (x::es) 0=none:=by
   simp only[Instr.findNow,Instr.sameNow,Kd]
  rw[this];exact QMC h a b c d kz w (x::es) 0 hw
theorem QTA{e:TypeId}{n:Nat}(hr:VI P e=some true)(hz:szT P e=some n){l:List Value}{o:Nat}(hl:o+n<=l.length)(w:World):(part e l.toArray o).run P w = .ok (.agg ((l.drop o).take n).toArray) w:=by
 have hs:VL true n (l.map λv=>AV.raw v) o=some (.agg (((l.map λv=>AV.raw v).drop o).take n)):=by
  simp[VL,hl]
 have:=jl (P:=P) (r:=λ_=>Loc.none 0) (t:=e) hr hz hs w
 have e1:AV.denL (λ_=>Loc.none 0) (l.map λv=>AV.raw v)=l:=by
  rw[Qy,List.map_map];simp only[Function.comp_def,AV.den,List.map_id']
 rw[e1]at this;rw[this];congr 1;show Value.agg (AV.denL (λ_=>Loc.none 0) (((l.map λv=>AV.raw v).drop o).take n)).toArray=_;congr 2;rw[<-List.map_drop,<-List.map_take,Qy,List.map_map];simp only[Function.comp_def,AV.den,List.map_id']
theorem QSH{e:TypeId}{n:Nat}(hr:VI P e=some false)(hz:szT P e=some n){l:List Value}{o:Nat}(hl:l[o]? = some v)(w:World):(part e l.toArray o).run P w = .ok v w:=by
 have hs:VL false n (l.map λv=>AV.raw v) o=some (.raw v):=by
  simp[VL,hl]
 have:=jl (P:=P) (r:=λ_=>Loc.none 0) (t:=e) hr hz hs w
 have e1:AV.denL (λ_=>Loc.none 0) (l.map λv=>AV.raw v)=l:=by
  rw[Qy,List.map_map];simp only[Function.comp_def,AV.den,List.map_id']
 rw[e1]at this;exact this
theorem QUq(h:ZR P kt=true)(x:Bool)(m:Nat)(a b c d:Int)(w:World):(Instr.checkKey x (m+3) kt (Kd a b c d)).run P w = .ok () w:=by
 obtain⟨e,f,g,hu,he,hr,hz,hst,hf,hg⟩:=(QHx h).ex;obtain⟨f1,f2,f3,f4,f5⟩:=QDC hf;obtain⟨g1,g2,g3,g4,g5⟩:=QDC hg;have hs:∀ w,(sizeOf e).run P w = .ok 2 w:=λw=>XC hz w
 have inner:∀ p q w,(Instr.checkKey x (m+2) e (.agg #[.int .i64 p,.int .i64 q])).run P w = .ok () w:=by
  intro p q w;have q1:=QSH (P:=P) f2 f3 (l:=[.int .i64 p,.int .i64 q]) (o:=0) (v := .int .i64 p) rfl;have q2:=QSH (P:=P) g2 g3 (l:=[.int .i64 p,.int .i64 q]) (o:=1) (v := .int .i64 q) rfl
  have c1:∀ w,(Instr.checkKey x (m+1) f.type (.int .i64 p)).run P w = .ok () w:=λw=>by
   rw[Instr.checkKey,Sem.run_bind,run_underlying f1];rfl
  have c2:∀ w,(Instr.checkKey x (m+1) g.type (.int .i64 q)).run P w = .ok () w:=λw=>by
   rw[Instr.checkKey,Sem.run_bind,run_underlying g1];rfl
  rw[Instr.checkKey,Sem.run_bind,run_underlying he];simp[f4,g4,f5,g5,q1,q2,c1,c2]
 have r1:=QTA (P:=P) hr hz (l:=[.int .i64 a,.int .i64 b,.int .i64 c,.int .i64 d]) (o:=0) (by simp)
 have r2:=QTA (P:=P) hr hz (l:=[.int .i64 a,.int .i64 b,.int .i64 c,.int .i64 d]) (o:=2) (by simp)
 rw[Instr.checkKey,Sem.run_bind,run_underlying hu,Result.andThen_ok];simp[Kd,hs,Std.Legacy.Range.forIn_eq_forIn_range',List.range'];simp at r1 r2;simp[r1,r2,inner]
theorem QCp{k:List Int}:∀{es:List MapEntry} {i j:Nat} {v:Value},K8 k es i=some (j,v)->i<=j/\∃ e,es[j-i]? = some e/\Kt e=k/\e.val=v
 | [],_,_,_,h=>by cases h
 | e::es,i,j,v,h=>by
  simp only[K8]at h;split at h
  .rename_i hk;simp only[qsI,qpI]at h;obtain⟨rfl,rfl⟩:=h;exact⟨qlr _,e,by simp,beq_iff_eq.1 hk,rfl⟩
  .obtain⟨h1,e',h2,h3,h4⟩:=QCp h;refine⟨by omega,e',?_,h3,h4⟩
   rw[show j-i=(j-(i+1))+1 by omega,List.getElem?_cons_succ];exact h2
theorem Gn{b:Nat}{es:Array MapEntry}(h:bk w b=some (.map es cl)):(getObj b).run P w = .ok (.map es cl) w:=by
 unfold bk at h;simp[getObj,Sem.run,h]
theorem QPS{b:Nat}{es:Array MapEntry}{o':Obj}(h:bk w b=some (.map es cl)):(setObj b o').run P w = .ok () (w.putObj b o'):=by
 unfold bk at h;simp[setObj,Sem.run,h,World.putObj]
theorem QXF{b:Nat}{m:Option Nat}{s:Nat}{l:Array Nat}{c:Nat}{o':Obj}(h:bk w b=some (.mapIter m s l c)):(setObj b o').run P w = .ok () (w.putObj b o'):=by
 unfold bk at h;simp[setObj,Sem.run,h,World.putObj]
theorem Qko{z:Value}(h:(P.info? t).bind (·.zero)=some z)(w:World):(zeroValue t).run P w = .ok z w:=by
 cases hi:P.info? t with
 | none=>simp[hi]at h
 | some i=>simp only[hi,Option.bind_some]at h;simp[zeroValue,typeInfo,hi,h]
theorem Qie{et:TypeId}{es:List MapEntry}(hu:P.underlying t=some (.map kt et))(hb:bk w bm=some (.map es.toArray cl))(hk:ZR P kt=true)(hw:wf4 kz es=true)(hz:(P.info? et).bind (·.zero)=some (.int kz 0)):
  (Instr.lookup t (.map (some bm)) (Kd a b c d) false).run P w = .ok (.int kz (Kc es [a,b,c,d])) w:=by
 have hc:=λx w=>QUq hk x 9997 a b c d w;have hc:∀ x w,(Instr.checkKey x 10000 kt (Kd a b c d)).run P w = .ok () w:=hc;cases hf:K8 [a,b,c,d] es 0 with
 | none=>
  simp only[Instr.lookup,Sem.run_bind,run_underlying hu,Result.andThen_ok,Gn hb,Sem.run_pure,hc,QDf hk a b c d hw,hf,Qko hz,Kc];rfl
 | some q=>
  obtain⟨i,v⟩:=q;obtain⟨_,e,he,_,hv⟩:=QCp hf;have hm:e∈es:=List.mem_of_getElem? he;have:=(List.all_eq_true.1 hw) e hm;rw[qbA]at this;obtain⟨n,hn⟩:=QDJ this.2;rw[hn]at hv;subst hv;simp only[Instr.lookup,Sem.run_bind,run_underlying hu,Result.andThen_ok,Gn hb,Sem.run_pure,hc,QDf hk a b c d hw,hf,Kc,intV];rfl
theorem QVt(key val:Value):∀(es:List MapEntry) (i:Nat),es.modify i (λe=>{ e with key,val })=VU key val es i
 | [],i=>by cases i<;>rfl
 | e::es,0=>rfl
 | e::es,i+1=>by rw[List.modify_succ_cons,QVt key val es i];rfl
theorem Qaz{et:TypeId}{es:List MapEntry}(hu:P.underlying t=some (.map kt et))(hb:bk w bm=some (.map es.toArray cl))(hk:ZR P kt=true)(hw:wf4 kz es=true):
  (Instr.mapUpdate t (.map (some bm)) (Kd a b c d) v).run P w = .ok () (w.putObj bm (.map (JZ [a,b,c,d] (Kd a b c d) v cl es).toArray (clL [a,b,c,d] cl es))):=by
 have hc:∀ x w,(Instr.checkKey x 10000 kt (Kd a b c d)).run P w = .ok () w:=λx w=>QUq hk x 9997 a b c d w;cases hf:K8 [a,b,c,d] es 0 with
 | none=>
  simp only[Instr.mapUpdate,Sem.run_bind,run_underlying hu,Result.andThen_ok,Gn hb,hc,QDf hk a b c d hw,hf,JZ,clL];rw[QPS hb];simp
 | some q=>
  obtain⟨i,u⟩:=q;obtain⟨_,e,he,hke,hv⟩:=QCp hf;have hm:e∈es:=List.mem_of_getElem? he;have h4:=(List.all_eq_true.1 hw) e hm;rw[qbA]at h4;obtain⟨a',b',c',d',hk4⟩:=QDW h4.1;have hk5:=HK hk4;rw[hke]at hk5;simp only[List.cons.injEq,and_true]at hk5;obtain⟨rfl,rfl,rfl,rfl⟩:=hk5
  have hkey:((es.toArray[i]?).map (·.key)).getD (Kd a b c d)=Kd a b c d:=by
   rw[List.getElem?_toArray];simp only[Nat.sub_zero]at he;rw[he];simpa using hk4
  have hst:(Instr.keyThatStays (Kd a b c d) (Kd a b c d)).run P w = .ok (Kd a b c d) w:=by
   simp[Instr.keyThatStays,Instr.sameBits,Kd]
  simp only[Instr.mapUpdate,Sem.run_bind,run_underlying hu,Result.andThen_ok,Gn hb,hc,QDf hk a b c d hw,hf,hkey,hst,JZ,clL];rw[QPS hb];congr 2;rw[List.modify_toArray,QVt]
theorem QWk{ib since last:Nat}{seen:List Nat}{es:List MapEntry}(hi:bk w ib=some (.mapIter (some bm) since seen.toArray last))(hb:bk w bm=some (.map es.toArray cl))(hold:∀ e∈es,e.born<since)(hsc:since<=last)(ty:TypeId):
  ((∀ e∈es,e.born∈seen)/\(Instr.next (.pointer (some ⟨ib,0,none⟩)) false ty).run P w = .ok (.tuple #[.bool false]) w) ∨
  ∃ j,j<es.length/\(es.getD j noE).born ∉ seen/\∃ w1,(w1=w∨w1=w.drew)/\(Instr.next (.pointer (some ⟨ib,0,none⟩)) false ty).run P w = .ok (.tuple #[.bool true,(es.getD j noE).key,(es.getD j noE).val]) (w1.putObj ib (.mapIter (some bm) since (seen++[(es.getD j noE).born]).toArray cl)):=by
 have g1:(getObj ib).run P w = .ok (.mapIter (some bm) since seen.toArray last) w:=by unfold bk at hi;simp[getObj,Sem.run,hi]
 have g2:(getObj bm).run P w = .ok (.map es.toArray cl) w:=Gn hb;have ht:=next_test_false seen.toArray es.toArray since last (λx hx=>hold x (by simpa using hx)) hsc
 simp only[Instr.next,Sem.run_bind,g1,g2,Result.andThen_ok,ht,Bool.false_eq_true,if_false]
 have hmem:∀ x∈(Array.filter (λe=>!seen.toArray.contains e.born) es.toArray).toList,x.born<since:=λx hx=>hold x (by simp at hx;exact hx.1)
 have hL:∀ x,x∈(Array.filter (λe=>!seen.toArray.contains e.born) es.toArray).toList↔x∈es/\x.born ∉ seen:=λx=>by simp
 generalize Array.filter (λe=>!seen.toArray.contains e.born) es.toArray=L at hmem hL ⊢;have e1:L.filter (λx=>decide (x.born<since))=L:=Array.filter_eq_self.2 (λx hx=>by simpa using hmem x (by simpa using hx))
 have e2:L.filter (λx=>decide (x.born≥since)) = #[]:=by
  rw[Array.filter_eq_empty_iff];intro x hx;have:=hmem x (by simpa using hx)
  simp;omega
 simp only[e1,e2,Array.append_empty]
 by_cases h0:L.size=0
 .left;have:L = #[]:=Array.eq_empty_of_size_eq_zero h0;subst this;refine⟨λe he=>Classical.byContradiction λhn=>?_,?_⟩
  .have:=(hL e).2 ⟨he,hn⟩;simp at this
  .simp[choose,Sem.run,Question.forced]
 .right;have hne:L.isEmpty=false:=by simp[Array.isEmpty,h0]
  simp only[hne,Bool.false_eq_true,if_false,Array.empty_append,Array.size_map]
  have hch:∃ (j:Nat) (w1:World),j<L.size/\(w1=w∨w1=w.drew)/\(choose (Question.mapNext L.size)).run P w = .ok j w1:=by
   by_cases hf:L.size<=1
   .exact⟨0,w,by omega,.inl rfl,by simp[choose,Sem.run,Question.forced,hf]⟩
   .exact⟨_,w.drew,Nat.mod_lt _ (by omega),.inr rfl,by
     simp only[choose,Sem.run,Question.forced,qdE,hf,if_false,Question.cut];rfl⟩
  obtain⟨j,w1,hj,hw1,hrun⟩:=hch;obtain⟨hm1,hm2⟩:=(hL L[j]).1 (by simp)
  obtain⟨k,hk,hke⟩:=List.mem_iff_getElem.1 hm1;have hgk:es.getD k noE=L[j]:=by rw[List.getD_eq_getElem?_getD,List.getElem?_eq_getElem hk,hke];rfl
  refine⟨k,hk,by rw[hgk];exact hm2,w1,hw1,?_⟩
  have hi1:bk w1 ib=some (.mapIter (some bm) since seen.toArray last):=by
   rcases hw1 with rfl|rfl
   .exact hi
   .exact hi
  simp only[hrun,Array.getElem?_map,Array.getElem?_eq_getElem hj,Option.map_some,Sem.run_bind,QXF hi1,Result.andThen_ok,Sem.run_pure,hgk];simp
theorem QjF{ib since:Nat}{seen:List Nat}{es:List MapEntry}(hi:bk w ib=some (.mapIter (some bm) since seen.toArray cl))(hb:bk w bm=some (.map es.toArray cl))(hh:YW es seen=true):
  (Instr.entry (.pointer (some ⟨ib,0,none⟩))).run P w = .ok (.tuple #[(QL es seen).key,(QL es seen).val]) w/\QL es seen∈es:=by
 have g1:(getObj ib).run P w = .ok (.mapIter (some bm) since seen.toArray cl) w:=by unfold bk at hi;simp[getObj,Sem.run,hi]
 have g2:(getObj bm).run P w = .ok (.map es.toArray cl) w:=Gn hb;unfold YW at hh;unfold QL;cases hl:seen.getLast? with
 | none=>rw[hl]at hh;cases hh
 | some b=>
  rw[hl]at hh;simp only at hh ⊢;cases hf:es.find? (·.born==b)with
  | none=>
   rw[List.find?_eq_none]at hf;rw[List.any_eq_true]at hh;obtain⟨e,he,hb⟩:=hh;exact absurd hb (by simpa using hf e he)
  | some e=>
   refine⟨?_,List.mem_of_find?_eq_some hf⟩;have hlast:seen.toArray.back? = some b:=by rw[List.back?_toArray];exact hl
   simp only[Instr.entry,Sem.run_bind,g1,Result.andThen_ok,hlast,g2,bne_self_eq_false,Bool.false_eq_true,if_false,List.find?_toArray,hf,Sem.run_pure,Option.getD_some]
