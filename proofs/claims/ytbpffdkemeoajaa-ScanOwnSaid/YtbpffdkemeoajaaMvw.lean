/- - -/
import Derived.Test.YtbpffdkemeoajaaMvu
namespace Go.SX
open Go Go.RowKit Go.Proofs.Ytbpffdkemeoajaa
variable {α:Type}{f:FuncId}
noncomputable def XO(F:WF α)(x:α):WF α:=fun y=>(Qn [y=x]&&(F y).1,(F y).2)
theorem QDC{P:Program}[QU α]{F:WF α}(hgo:JY P f=true)(h:∀ x,(F x).1=true→QQ P f (wFC (XO F x))):QQ P f (wFC F):=by
 refine⟨hgo,fun args nid all r w lk blks eff hH ha hv he hp => ?_⟩;simp only[wFC]at hv he;split at he<;>(try (cases he;done))
 rename_i p x hd;simp only[qsI]at he;subst he;simp only[qbA]at hp;refine(h x hp.2).2 args nid all r w lk blks ⟨false,p&&(XO F x x).1,(F x).2.1.mapId (·+nid),(F x).2.2.map fun q=>(q.1+nid,q.2.mapId (·+nid))⟩ hH ha hv ?_ ?_
 ·simp only[wFC,hd];rfl
 ·show(p&&(Qn [x=x]&&(F x).1))=true;rw[hp.1,hp.2,JB.2 (show KD [x=x]from⟨rfl,trivial⟩)];rfl
theorem QPp{F:WF α}{x y:α}(h:(XO F x y).1=true):y=x∧(F y).1=true:=by
 simp only[XO,qbA]at h;exact⟨(JB.1 h.1).1,h.2⟩
theorem Wb{E:Env}(hE:E.Sound){fn:Func}{c:Code}(hf:E.P.funcs[f]? = some fn)(hb:fn.body=some c)(hgo:JY E.P f=true)[QU α]{N:Nat}(hN:QU.len α≤N){H:Hnd}{F:WF α}(x:α)(hl:∀ G:Ctx,G.rd=none→G.n=N→KH E G H c)(hw:WOk (F x).2.1 (F x).2.2)(hF:YI (XX N (F x).2.1 (F x).2.2) (Kd E H fn (QU.vals 0 x) (QU.blks 0 x) N)):QQ E.P f (wFC (XO F x)):=by
 refine Jc hE hf hb hgo hN (H:=fun _=>H) ⟨fun y _ G h1 h2=>hl G h1 h2⟩ ⟨fun y hy => ?_⟩;obtain⟨rfl,_⟩:=QPp hy;exact⟨hw,hF⟩
theorem vm{P:Program}(hgo:JY P f=true)(U:UC):QQ P f (Vf (fun _=>false) U):=by
 refine⟨hgo,fun args nid all r w lk blks eff hH _ hv he hp => ?_⟩;simp only[Vf,QBK,QBJ,Wn (W3 6)]at hv he;unfold QD4 at he;split at he<;>(try (cases he;done))
 simp only[qsI]at he;subst he;cases hp
theorem W7{E E0:Env}(hP:E.P=E0.P){G:Ctx}{c:Code}{L:St→(Ex→St→QC)→QC}(h:Ji E G c L):Ji E0 G c L:=by
 unfold Ji at h ⊢;rw[←hP];exact h
theorem KB{Q:AV→List (Nat×Blk)→Prop}{t t':QC}(e:t=t')(h:t'.den Q):YI Q t:=⟨e ▸ h⟩
theorem jo{N:Nat}{J:JSt}{v:AV}(h1:N≤J.nid)(h2:J.live.map (·.1)=List.range J.len)(h3:v.all (fun _=>false)=true)(h4:∀ q:Nat→Nat,v=v.mapId q):(⟨N,J,fun _=>v,fun _=>[]⟩:UC).Ok:=
 ⟨h1,h2,all_mono (fun _ h=>by cases h) _ h3,by simp[UC.po],rfl,fun _ _=>h4 _,fun _ _=>rfl⟩
end Go.SX
