/- - -/
import Derived.Test.YtekbmehgcofnkaaGreatJs
set_option linter.all false
namespace Go.SX
open Go Go.RowKit Go.Proofs.YtekbmehgcofnkaaGreat
variable {α:Type}{f:FuncId}{E:Env}{c:Code}
noncomputable def VK(F:WF α)(x:α):WF α:=λy=>(QO [y=x]&&(F y).1,(F y).2)
theorem zR{P:Program}[QX α]{F:WF α}(hgo:Jp P f=true)(h:∀ x,(F x).1=true->QQ P f (wFC (VK F x))):QQ P f (wFC F):=by
 refine⟨hgo,λargs nid all r w lk blks eff hH ha hv he hp=>?_⟩;simp only[wFC]at hv he;split at he<;>(try (cases he;done))
 rename_i p x hd;simp only[qsI]at he;subst he;simp only[qbA]at hp;refine(h x hp.2).2 args nid all r w lk blks ⟨false,p&&(VK F x x).1,(F x).2.1.mapId (·+nid),(F x).2.2.map λq=>(q.1+nid,q.2.mapId (·+nid))⟩ hH ha hv ?_ ?_
 .simp only[wFC,hd];rfl
 .show(p&&(QO [x=x]&&(F x).1))=true;rw[hp.1,hp.2,Q9.2 (show Kc [x=x]from⟨rfl,trivial⟩)];rfl
theorem QLj{F:WF α}{x y:α}(h:(VK F x y).1=true):y=x/\(F y).1=true:=by
 simp only[VK,qbA]at h;exact⟨(Q9.1 h.1).1,h.2⟩
theorem Yi(hE:E.Sound){fn:Func}(hf:E.P.funcs[f]? = some fn)(hb:fn.body=some c)(hgo:Jp E.P f=true)[QX α]{N:Nat}(hN:QX.len α<=N){H:Hnd}{F:WF α}(x:α)(hl:∀ G:Ctx,G.rd=none->G.n=N->Q1 E G H c)(hw:WOk (F x).2.1 (F x).2.2)(hF:ZC (ZP N (F x).2.1 (F x).2.2) (Kf E H fn (QX.vals 0 x) (QX.blks 0 x) N)):QQ E.P f (wFC (VK F x)):=by
 refine JW hE hf hb hgo hN (H:=λ_=>H) ⟨λy _ G h1 h2=>hl G h1 h2⟩ ⟨λy hy=>?_⟩;obtain⟨rfl,_⟩:=QLj hy;exact⟨hw,hF⟩
theorem Jl{P:Program}(hgo:Jp P f=true)(U:UC):QQ P f (KI (λ_=>false) U):=by
 refine⟨hgo,λargs nid all r w lk blks eff hH _ hv he hp=>?_⟩;simp only[KI,QGi,QH5,vY (GW 6)]at hv he;unfold QG8 at he;split at he<;>(try (cases he;done))
 simp only[qsI]at he;subst he;cases hp
theorem Qe{Q:AV->List (Nat×Blk)->Prop}{t t':QC}(e:t=t')(h:t'.den Q):ZC Q t:=⟨e ▸ h⟩
theorem QRq{N:Nat}{J:JSt}{v:AV}(h1:N<=J.nid)(h2:J.live.map (·.1)=List.range J.len)(h3:v.all (λ_=>false)=true)(h4:∀ q:Nat->Nat,v=v.mapId q):(⟨N,J,λ_=>v,λ_=>[]⟩:UC).Ok:=
 ⟨h1,h2,all_mono (λ_ h=>by cases h) _ h3,by simp[UC.po],rfl,λ_ _=>h4 _,λ_ _=>rfl⟩
def J9(p:Prop)(L:St->(Ex->St->QC)->QC)(st:St)(K:Ex->St->QC):QC := .ask p (L st K)
theorem Vy{G:Ctx}{p:Prop}{L:St->(Ex->St->QC)->QC}(h:p->Jq E G c L):Jq E G c (J9 p L):=by
 intro st K T Q a w hn hd hr hQ;obtain⟨h1,h2⟩:=(show p/\(L st K).den T from hd);exact h h1 st K T Q a w hn h2 hr hQ
def vn:Code->Option Nat
 | .region id _ _=>some id
 | .seq a b=>(match vn a with
  | some x=>some x
  | none=>vn b)
 | .block _ a=>vn a
 | .scope a=>vn a
 | .loop a=>vn a
 | _=>none
def QRQ(l:List (Nat×(St->(Ex->St->QC)->QC)))(c:Code):St->(Ex->St->QC)->QC:=match vn c with
 | some r=>(match l.find? (λp=>Nat.beq p.1 r)with
  | some p=>p.2
  | none => λ_ _=>.fail "a loop that is not told")
 | none => λ_ _=>.fail "a loop without a region"
theorem QRJ(hE:E.Sound){d:Nat}{G:Ctx}(hG:G.rd=none){c:Code}{L:Code->St->(Ex->St->QC)->QC}(h:∀ s∈K5 c,Jq E G s (L s)):Q1 E G { hnd E d with loop:=L } c:=
 ⟨h,(Qw hE d G c hG).call,(Qw hE d G c hG).yield⟩
def Qa(c:Code):Code:=match K5 c with
 | .loop b::_=>b
 | _ => .skip
theorem QaG{Q:AV->List (Nat×Blk)->Prop}{t t':QC}(e:t=t')(h:t'.den Q):ZC Q t:=⟨e ▸ h⟩
theorem QN:∀{a b:List Prop},Kc a->Kc b->Kc (a++b)
 | [],_,_,h=>h
 | _::_,_,h,g=>⟨h.1,QN h.2 g⟩
theorem K8{l:List α}{i:Nat}{z:α}(h:i<l.length):l.getD i z=l[i]:=by
 rw[List.getD_eq_getElem?_getD,List.getElem?_eq_getElem h];rfl
