/- - -/
import Derived.Test.YtekbmehgcofnkaaGreatMt
import Derived.Test.YtekbmehgcofnkaaGreatMq
namespace Go.SX
open Go Go.RowKit Go.Proofs.YtekbmehgcofnkaaGreat
variable {α:Type}{f:FuncId}{E:Env}{c:Code}
noncomputable def VW(F:WF α)(x:α):WF α:=λy=>(QQ [y=x]&&(F y).1,(F y).2)
theorem zH{P:Program}[Qe α]{F:WF α}(hgo:Jy P f=true)(h:∀ x,(F x).1=true->QS P f (wFC (VW F x))):QS P f (wFC F):=by
 refine⟨hgo,λargs nid all r w lk blks eff hH ha hv he hp=>?_⟩;simp only[wFC]at hv he;split at he<;>(try (cases he;done))
 rename_i p x hd;simp only[qsI]at he;subst he;simp only[qbA]at hp;refine(h x hp.2).2 args nid all r w lk blks ⟨false,p&&(VW F x x).1,(F x).2.1.mapId (·+nid),(F x).2.2.map λq=>(q.1+nid,q.2.mapId (·+nid))⟩ hH ha hv ?_ ?_
 .simp only[wFC,hd];rfl
 .show(p&&(QQ [x=x]&&(F x).1))=true;rw[hp.1,hp.2,KA.2 (show KL [x=x]from⟨rfl,trivial⟩)];rfl
theorem QfJ{F:WF α}{x y:α}(h:(VW F x y).1=true):y=x/\(F y).1=true:=by
 simp only[VW,qbA]at h;exact⟨(KA.1 h.1).1,h.2⟩
theorem Yh(hE:E.Sound){fn:Func}(hf:E.P.funcs[f]? = some fn)(hb:fn.body=some c)(hgo:Jy E.P f=true)[Qe α]{N:Nat}(hN:Qe.len α<=N){H:Hnd}{F:WF α}(x:α)(hl:∀ G:Ctx,G.rd=none->G.n=N->Qx E G H c)(hw:WOk (F x).2.1 (F x).2.2)(hF:Wd (HD N (F x).2.1 (F x).2.2) (Kn E H fn (Qe.vals 0 x) (Qe.blks 0 x) N)):QS E.P f (wFC (VW F x)):=by
 refine JX hE hf hb hgo hN (H:=λ_=>H) ⟨λy _ G h1 h2=>hl G h1 h2⟩ ⟨λy hy=>?_⟩;obtain⟨rfl,_⟩:=QfJ hy;exact⟨hw,hF⟩
theorem Jr{P:Program}(hgo:Jy P f=true)(U:UC):QS P f (KG (λ_=>false) U):=by
 refine⟨hgo,λargs nid all r w lk blks eff hH _ hv he hp=>?_⟩;simp only[KG,QIG,QJ2,qz (jd 6)]at hv he;unfold QFl at he;split at he<;>(try (cases he;done))
 simp only[qsI]at he;subst he;cases hp
theorem Qg{Q:AV->List (Nat×Blk)->Prop}{t t':QC}(e:t=t')(h:t'.den Q):Wd Q t:=⟨e ▸ h⟩
theorem QQr{N:Nat}{J:JSt}{v:AV}(h1:N<=J.nid)(h2:J.live.map (·.1)=List.range J.len)(h3:v.all (λ_=>false)=true)(h4:∀ q:Nat->Nat,v=v.mapId q):(⟨N,J,λ_=>v,λ_=>[]⟩:UC).Ok:=
 ⟨h1,h2,all_mono (λ_ h=>by cases h) _ h3,by simp[UC.po],rfl,λ_ _=>h4 _,λ_ _=>rfl⟩
def JP(p:Prop)(L:St->(Ex->St->QC)->QC)(st:St)(K:Ex->St->QC):QC := .ask p (L st K)
theorem Jj{G:Ctx}{p:Prop}{L:St->(Ex->St->QC)->QC}(h:p->J8 E G c L):J8 E G c (JP p L):=by
 intro st K T Q a w hn hd hr hQ;obtain⟨h1,h2⟩:=(show p/\(L st K).den T from hd);exact h h1 st K T Q a w hn h2 hr hQ
def zY:Code->Option Nat
 | .region id _ _=>some id
 | .seq a b=>(match zY a with
  | some x=>some x
  | none=>zY b)
 | .block _ a=>zY a
 | .scope a=>zY a
 | .loop a=>zY a
 | _=>none
def QKt(l:List (Nat×(St->(Ex->St->QC)->QC)))(c:Code):St->(Ex->St->QC)->QC:=match zY c with
 | some r=>(match l.find? (λp=>Nat.beq p.1 r)with
  | some p=>p.2
  | none => λ_ _=>.fail "a loop that is not told")
 | none => λ_ _=>.fail "a loop without a region"
theorem QOk(hE:E.Sound){d:Nat}{G:Ctx}(hG:G.rd=none){c:Code}{L:Code->St->(Ex->St->QC)->QC}(h:∀ s∈Kz c,J8 E G s (L s)):Qx E G { hnd E d with loop:=L } c:=
 ⟨h,(Qw hE d G c hG).call,(Qw hE d G c hG).yield⟩
def QZ(c:Code):Code:=match Kz c with
 | .loop b::_=>b
 | _ => .skip
theorem QcF{Q:AV->List (Nat×Blk)->Prop}{t t':QC}(e:t=t')(h:t'.den Q):Wd Q t:=⟨e ▸ h⟩
theorem QP:∀{a b:List Prop},KL a->KL b->KL (a++b)
 | [],_,_,h=>h
 | _::_,_,h,g=>⟨h.1,QP h.2 g⟩
theorem JL{l:List α}{i:Nat}{z:α}(h:i<l.length):l.getD i z=l[i]:=by
 rw[List.getD_eq_getElem?_getD,List.getElem?_eq_getElem h];rfl
