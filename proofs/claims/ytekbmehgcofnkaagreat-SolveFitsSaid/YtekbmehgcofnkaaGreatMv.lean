/- - -/
import Derived.Test.YtekbmehgcofnkaaGreatMt
import Derived.Test.YtekbmehgcofnkaaGreatMq
namespace Go.SX
open Go Go.RowKit Go.Proofs.YtekbmehgcofnkaaGreat
variable {α:Type}{f:FuncId}{E:Env}{c:Code}
noncomputable def VJ(F:WF α)(x:α):WF α:=λy=>(QO [y=x]&&(F y).1,(F y).2)
theorem vh{P:Program}[Qi α]{F:WF α}(hgo:Jk P f=true)(h:∀ x,(F x).1=true->QR P f (wFC (VJ F x))):QR P f (wFC F):=by
 refine⟨hgo,λargs nid all r w lk blks eff hH ha hv he hp=>?_⟩;simp only[wFC]at hv he;split at he<;>(try (cases he;done))
 rename_i p x hd;simp only[qsI]at he;subst he;simp only[qbA]at hp;refine(h x hp.2).2 args nid all r w lk blks ⟨false,p&&(VJ F x x).1,(F x).2.1.mapId (·+nid),(F x).2.2.map λq=>(q.1+nid,q.2.mapId (·+nid))⟩ hH ha hv ?_ ?_
 .simp only[wFC,hd];rfl
 .show(p&&(QO [x=x]&&(F x).1))=true;rw[hp.1,hp.2,Q6.2 (show KH [x=x]from⟨rfl,trivial⟩)];rfl
theorem Qaj{F:WF α}{x y:α}(h:(VJ F x y).1=true):y=x/\(F y).1=true:=by
 simp only[VJ,qbA]at h;exact⟨(Q6.1 h.1).1,h.2⟩
theorem Yk(hE:E.Sound){fn:Func}(hf:E.P.funcs[f]? = some fn)(hb:fn.body=some c)(hgo:Jk E.P f=true)[Qi α]{N:Nat}(hN:Qi.len α<=N){H:Hnd}{F:WF α}(x:α)(hl:∀ G:Ctx,G.rd=none->G.n=N->Qu E G H c)(hw:WOk (F x).2.1 (F x).2.2)(hF:Wq (GR N (F x).2.1 (F x).2.2) (Ku E H fn (Qi.vals 0 x) (Qi.blks 0 x) N)):QR E.P f (wFC (VJ F x)):=by
 refine VL hE hf hb hgo hN (H:=λ_=>H) ⟨λy _ G h1 h2=>hl G h1 h2⟩ ⟨λy hy=>?_⟩;obtain⟨rfl,_⟩:=Qaj hy;exact⟨hw,hF⟩
theorem JY{P:Program}(hgo:Jk P f=true)(U:UC):QR P f (KB (λ_=>false) U):=by
 refine⟨hgo,λargs nid all r w lk blks eff hH _ hv he hp=>?_⟩;simp only[KB,QGo,QGc,ju (je 6)]at hv he;unfold QFJ at he;split at he<;>(try (cases he;done))
 simp only[qsI]at he;subst he;cases hp
theorem Qf{Q:AV->List (Nat×Blk)->Prop}{t t':QC}(e:t=t')(h:t'.den Q):Wq Q t:=⟨e ▸ h⟩
theorem QRj{N:Nat}{J:JSt}{v:AV}(h1:N<=J.nid)(h2:J.live.map (·.1)=List.range J.len)(h3:v.all (λ_=>false)=true)(h4:∀ q:Nat->Nat,v=v.mapId q):(⟨N,J,λ_=>v,λ_=>[]⟩:UC).Ok:=
 ⟨h1,h2,all_mono (λ_ h=>by cases h) _ h3,by simp[UC.po],rfl,λ_ _=>h4 _,λ_ _=>rfl⟩
def JI(p:Prop)(L:St->(Ex->St->QC)->QC)(st:St)(K:Ex->St->QC):QC := .ask p (L st K)
theorem Jm{G:Ctx}{p:Prop}{L:St->(Ex->St->QC)->QC}(h:p->VM E G c L):VM E G c (JI p L):=by
 intro st K T Q a w hn hd hr hQ;obtain⟨h1,h2⟩:=(show p/\(L st K).den T from hd);exact h h1 st K T Q a w hn h2 hr hQ
def za:Code->Option Nat
 | .region id _ _=>some id
 | .seq a b=>(match za a with
  | some x=>some x
  | none=>za b)
 | .block _ a=>za a
 | .scope a=>za a
 | .loop a=>za a
 | _=>none
def QYS(l:List (Nat×(St->(Ex->St->QC)->QC)))(c:Code):St->(Ex->St->QC)->QC:=match za c with
 | some r=>(match l.find? (λp=>Nat.beq p.1 r)with
  | some p=>p.2
  | none => λ_ _=>.fail "a loop that is not told")
 | none => λ_ _=>.fail "a loop without a region"
theorem QWt(hE:E.Sound){d:Nat}{G:Ctx}(hG:G.rd=none){c:Code}{L:Code->St->(Ex->St->QC)->QC}(h:∀ s∈Ky c,VM E G s (L s)):Qu E G { hnd E d with loop:=L } c:=
 ⟨h,(Q1 hE d G c hG).call,(Q1 hE d G c hG).yield⟩
def QS(c:Code):Code:=match Ky c with
 | .loop b::_=>b
 | _ => .skip
theorem QTd{Q:AV->List (Nat×Blk)->Prop}{t t':QC}(e:t=t')(h:t'.den Q):Wq Q t:=⟨e ▸ h⟩
theorem QP:∀{a b:List Prop},KH a->KH b->KH (a++b)
 | [],_,_,h=>h
 | _::_,_,h,g=>⟨h.1,QP h.2 g⟩
theorem Xe{l:List α}{i:Nat}{z:α}(h:i<l.length):l.getD i z=l[i]:=by
 rw[List.getD_eq_getElem?_getD,List.getElem?_eq_getElem h];rfl
