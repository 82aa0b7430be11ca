/- - -/
import Derived.Test.YtekbmehgcofnkaaGreatKs
import Derived.Test.YtekbmehgcofnkaaGreatKp
set_option linter.all false
namespace Go.SX
open Go Go.RowKit Go.Proofs.YtekbmehgcofnkaaGreat
variable {α:Type}{f:FuncId}{E:Env}{c:Code}{G:Ctx}
noncomputable def VF(F:WF α)(x:α):WF α:=λy=>(QP [y=x]&&(F y).1,(F y).2)
theorem GP{P:Program}[Qd α]{F:WF α}(hgo:Jl P f=true)(h:∀ x,(F x).1=true->QR P f (wFC (VF F x))):QR P f (wFC F):=by
 refine⟨hgo,λargs nid all r w lk blks eff hH ha hv he hp=>?_⟩;simp only[wFC]at hv he;split at he<;>(try (cases he;done))
 rename_i p x hd;simp only[qsI]at he;subst he;simp only[qbA]at hp;refine(h x hp.2).2 args nid all r w lk blks ⟨false,p&&(VF F x x).1,(F x).2.1.mapId (·+nid),(F x).2.2.map λq=>(q.1+nid,q.2.mapId (·+nid))⟩ hH ha hv ?_ ?_
 .simp only[wFC,hd];rfl
 .show(p&&(QP [x=x]&&(F x).1))=true;rw[hp.1,hp.2,Q7.2 (show KX [x=x]from⟨rfl,trivial⟩)];rfl
theorem QbR{F:WF α}{x y:α}(h:(VF F x y).1=true):y=x/\(F y).1=true:=by
 simp only[VF,qbA]at h;exact⟨(Q7.1 h.1).1,h.2⟩
theorem YY(hE:E.Sound){fn:Func}(hf:E.P.funcs[f]? = some fn)(hb:fn.body=some c)(hgo:Jl E.P f=true)[Qd α]{N:Nat}(hN:Qd.len α<=N){H:Hnd}{F:WF α}(x:α)(hl:∀ G:Ctx,G.rd=none->G.n=N->Qx E G H c)(hw:WOk (F x).2.1 (F x).2.2)(hF:qb (HB N (F x).2.1 (F x).2.2) (Kl E H fn (Qd.vals 0 x) (Qd.blks 0 x) N)):QR E.P f (wFC (VF F x)):=by
 refine Ji hE hf hb hgo hN (H:=λ_=>H) ⟨λy _ G h1 h2=>hl G h1 h2⟩ ⟨λy hy=>?_⟩;obtain⟨rfl,_⟩:=QbR hy;exact⟨hw,hF⟩
theorem Ja{P:Program}(hgo:Jl P f=true)(U:UC):QR P f (KE (λ_=>false) U):=by
 refine⟨hgo,λargs nid all r w lk blks eff hH _ hv he hp=>?_⟩;simp only[KE,QGr,QGu,jq (vo 6)]at hv he;unfold QHA at he;split at he<;>(try (cases he;done))
 simp only[qsI]at he;subst he;cases hp
theorem QAc{E0:Env}(hP:E.P=E0.P){L:St->(Ex->St->QC)->QC}(h:JA E G c L):JA E0 G c L:=by
 unfold JA at h ⊢;rw[<-hP];exact h
theorem Qe{Q:AV->List (Nat×Blk)->Prop}{t t':QC}(e:t=t')(h:t'.den Q):qb Q t:=⟨e ▸ h⟩
theorem QIx{N:Nat}{J:JSt}{v:AV}(h1:N<=J.nid)(h2:J.live.map (·.1)=List.range J.len)(h3:v.all (λ_=>false)=true)(h4:∀ q:Nat->Nat,v=v.mapId q):(⟨N,J,λ_=>v,λ_=>[]⟩:UC).Ok:=
 ⟨h1,h2,all_mono (λ_ h=>by cases h) _ h3,by simp[UC.po],rfl,λ_ _=>h4 _,λ_ _=>rfl⟩
def Kr(p:Prop)(L:St->(Ex->St->QC)->QC)(st:St)(K:Ex->St->QC):QC := .ask p (L st K)
theorem JK{p:Prop}{L:St->(Ex->St->QC)->QC}(h:p->JA E G c L):JA E G c (Kr p L):=by
 intro st K T Q a w hn hd hr hQ;obtain⟨h1,h2⟩:=(show p/\(L st K).den T from hd);exact h h1 st K T Q a w hn h2 hr hQ
def Gf:Code->Option Nat
 | .region id _ _=>some id
 | .seq a b=>(match Gf a with
  | some x=>some x
  | none=>Gf b)
 | .block _ a=>Gf a
 | .scope a=>Gf a
 | .loop a=>Gf a
 | _=>none
def QQY(l:List (Nat×(St->(Ex->St->QC)->QC)))(c:Code):St->(Ex->St->QC)->QC:=match Gf c with
 | some r=>(match l.find? (λp=>Nat.beq p.1 r)with
  | some p=>p.2
  | none => λ_ _=>.fail "a loop that is not told")
 | none => λ_ _=>.fail "a loop without a region"
theorem QNN(hE:E.Sound){d:Nat}(hG:G.rd=none){c:Code}{L:Code->St->(Ex->St->QC)->QC}(h:∀ s∈Ky c,JA E G s (L s)):Qx E G { hnd E d with loop:=L } c:=
 ⟨h,(Qu hE d G c hG).call,(Qu hE d G c hG).yield⟩
def QY(c:Code):Code:=match Ky c with
 | .loop b::_=>b
 | _ => .skip
theorem QbG{Q:AV->List (Nat×Blk)->Prop}{t t':QC}(e:t=t')(h:t'.den Q):qb Q t:=⟨e ▸ h⟩
theorem QO:∀{a b:List Prop},KX a->KX b->KX (a++b)
 | [],_,_,h=>h
 | _::_,_,h,g=>⟨h.1,QO h.2 g⟩
theorem Xs{l:List α}{i:Nat}{z:α}(h:i<l.length):l.getD i z=l[i]:=by
 rw[List.getD_eq_getElem?_getD,List.getElem?_eq_getElem h];rfl
