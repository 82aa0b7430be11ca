/- - -/
import Derived.Test.YtekbmehgcofnkaaGreatVs
namespace Go.SX
open Go Go.RowKit Go.Proofs.YtekbmehgcofnkaaGreat
variable {α:Type}{f:FuncId}{E:Env}{c:Code}
noncomputable def Vl(F:WF α)(x:α):WF α:=λy=>(QK [y=x]&&(F y).1,(F y).2)
theorem QCx{P:Program}[QZ α]{F:WF α}(hgo:J8 P f=true)(h:∀ x,(F x).1=true->QS P f (wFC (Vl F x))):QS P f (wFC F):=by
 refine⟨hgo,λargs nid all r w lk blks eff hH ha hv he hp=>?_⟩;simp only[wFC]at hv he;split at he<;>(try (cases he;done))
 rename_i p x hd;simp only[qsI]at he;subst he;simp only[qbA]at hp;refine(h x hp.2).2 args nid all r w lk blks ⟨false,p&&(Vl F x x).1,(F x).2.1.mapId (·+nid),(F x).2.2.map λq=>(q.1+nid,q.2.mapId (·+nid))⟩ hH ha hv ?_ ?_
 .simp only[wFC,hd];rfl
 .show(p&&(QK [x=x]&&(F x).1))=true;rw[hp.1,hp.2,KG.2 (show Ka [x=x]from⟨rfl,trivial⟩)];rfl
theorem QRT{F:WF α}{x y:α}(h:(Vl F x y).1=true):y=x/\(F y).1=true:=by
 simp only[Vl,qbA]at h;exact⟨(KG.1 h.1).1,h.2⟩
theorem ZX(hE:E.Sound){fn:Func}(hf:E.P.funcs[f]? = some fn)(hb:fn.body=some c)(hgo:J8 E.P f=true)[QZ α]{N:Nat}(hN:QZ.len α<=N){H:Hnd}{F:WF α}(x:α)(hl:∀ G:Ctx,G.rd=none->G.n=N->Q0 E G H c)(hw:WOk (F x).2.1 (F x).2.2)(hF:Zn (ZY N (F x).2.1 (F x).2.2) (Kg E H fn (QZ.vals 0 x) (QZ.blks 0 x) N)):QS E.P f (wFC (Vl F x)):=by
 refine JY hE hf hb hgo hN (H:=λ_=>H) ⟨λy _ G h1 h2=>hl G h1 h2⟩ ⟨λy hy=>?_⟩;obtain⟨rfl,_⟩:=QRT hy;exact⟨hw,hF⟩
theorem Jx{P:Program}(hgo:J8 P f=true)(U:UC):QS P f (KT (λ_=>false) U):=by
 refine⟨hgo,λargs nid all r w lk blks eff hH _ hv he hp=>?_⟩;simp only[KT,QAq,QCK,WO (qG 6)]at hv he;unfold jz at he;split at he<;>(try (cases he;done))
 simp only[qsI]at he;subst he;cases hp
theorem Qh{Q:AV->List (Nat×Blk)->Prop}{t t':QC}(e:t=t')(h:t'.den Q):Zn Q t:=⟨e ▸ h⟩
theorem QOu{N:Nat}{J:JSt}{v:AV}(h1:N<=J.nid)(h2:J.live.map (·.1)=List.range J.len)(h3:v.all (λ_=>false)=true)(h4:∀ q:Nat->Nat,v=v.mapId q):(⟨N,J,λ_=>v,λ_=>[]⟩:UC).Ok:=
 ⟨h1,h2,all_mono (λ_ h=>by cases h) _ h3,by simp[UC.po],rfl,λ_ _=>h4 _,λ_ _=>rfl⟩
def Ks(p:Prop)(L:St->(Ex->St->QC)->QC)(st:St)(K:Ex->St->QC):QC := .ask p (L st K)
theorem JJ{G:Ctx}{p:Prop}{L:St->(Ex->St->QC)->QC}(h:p->J5 E G c L):J5 E G c (Ks p L):=by
 intro st K T Q a w hn hd hr hQ;obtain⟨h1,h2⟩:=(show p/\(L st K).den T from hd);exact h h1 st K T Q a w hn h2 hr hQ
def Gf:Code->Option Nat
 | .region id _ _=>some id
 | .seq a b=>(match Gf a with
  | some x=>some x
  | none=>Gf b)
 | .block _ a=>Gf a
 | .scope a=>Gf a
 | .loop a=>Gf a
 | _=>none
def QUp(l:List (Nat×(St->(Ex->St->QC)->QC)))(c:Code):St->(Ex->St->QC)->QC:=match Gf c with
 | some r=>(match l.find? (λp=>Nat.beq p.1 r)with
  | some p=>p.2
  | none => λ_ _=>.fail "a loop that is not told")
 | none => λ_ _=>.fail "a loop without a region"
theorem QOa(hE:E.Sound){d:Nat}{G:Ctx}(hG:G.rd=none){c:Code}{L:Code->St->(Ex->St->QC)->QC}(h:∀ s∈JA c,J5 E G s (L s)):Q0 E G { hnd E d with loop:=L } c:=
 ⟨h,(Qz hE d G c hG).call,(Qz hE d G c hG).yield⟩
def QW(c:Code):Code:=match JA c with
 | .loop b::_=>b
 | _ => .skip
theorem Qg7{Q:AV->List (Nat×Blk)->Prop}{t t':QC}(e:t=t')(h:t'.den Q):Zn Q t:=⟨e ▸ h⟩
theorem QM:∀{a b:List Prop},Ka a->Ka b->Ka (a++b)
 | [],_,_,h=>h
 | _::_,_,h,g=>⟨h.1,QM h.2 g⟩
theorem Jb{l:List α}{i:Nat}{z:α}(h:i<l.length):l.getD i z=l[i]:=by
 rw[List.getD_eq_getElem?_getD,List.getElem?_eq_getElem h];rfl
