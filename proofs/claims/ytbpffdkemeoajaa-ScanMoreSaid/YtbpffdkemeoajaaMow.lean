/- - -/
import Derived.Test.YtbpffdkemeoajaaMou
namespace Go.SX
open Go Go.RowKit Go.Proofs.Ytbpffdkemeoajaa
variable {α:Type}{f:FuncId}
noncomputable def Vl(F:WF α)(x:α):WF α:=fun y=>(Qt [y=x]&&(F y).1,(F y).2)
theorem QC0{P:Program}[QY α]{F:WF α}(hgo:JH P f=true)(h:∀ x,(F x).1=true→QQ P f (wFC (Vl F x))):QQ P f (wFC F):=by
 refine⟨hgo,fun args nid all r w lk blks eff hH ha hv he hp => ?_⟩;simp only[wFC]at hv he;split at he<;>(try (cases he;done))
 rename_i p x hd;simp only[qsI]at he;subst he;simp only[qbA]at hp;refine(h x hp.2).2 args nid all r w lk blks ⟨false,p&&(Vl F x x).1,(F x).2.1.mapId (·+nid),(F x).2.2.map fun q=>(q.1+nid,q.2.mapId (·+nid))⟩ hH ha hv ?_ ?_
 ·simp only[wFC,hd];rfl
 ·show(p&&(Qt [x=x]&&(F x).1))=true;rw[hp.1,hp.2,JA.2 (show KC [x=x]from⟨rfl,trivial⟩)];rfl
theorem QUn{F:WF α}{x y:α}(h:(Vl F x y).1=true):y=x∧(F y).1=true:=by
 simp only[Vl,qbA]at h;exact⟨(JA.1 h.1).1,h.2⟩
theorem qm{E:Env}(hE:E.Sound){fn:Func}{c:Code}(hf:E.P.funcs[f]? = some fn)(hb:fn.body=some c)(hgo:JH E.P f=true)[QY α]{N:Nat}(hN:QY.len α≤N){H:Hnd}{F:WF α}(x:α)(hl:∀ G:Ctx,G.rd=none→G.n=N→Q9 E G H c)(hw:WOk (F x).2.1 (F x).2.2)(hF:Yl (XS N (F x).2.1 (F x).2.2) (Ka E H fn (QY.vals 0 x) (QY.blks 0 x) N)):QQ E.P f (wFC (Vl F x)):=by
 refine JK hE hf hb hgo hN (H:=fun _=>H) ⟨fun y _ G h1 h2=>hl G h1 h2⟩ ⟨fun y hy => ?_⟩;obtain⟨rfl,_⟩:=QUn hy;exact⟨hw,hF⟩
theorem jT{P:Program}(hgo:JH P f=true)(U:UC):QQ P f (J1 (fun _=>false) U):=by
 refine⟨hgo,fun args nid all r w lk blks eff hH _ hv he hp => ?_⟩;simp only[J1,QEP,QEK,WT (Wi 6)]at hv he;unfold QCR at he;split at he<;>(try (cases he;done))
 simp only[qsI]at he;subst he;cases hp
theorem ZM{E E0:Env}(hP:E.P=E0.P){G:Ctx}{c:Code}{L:St→(Ex→St→QD)→QD}(h:JC E G c L):JC E0 G c L:=by
 unfold JC at h ⊢;rw[←hP];exact h
theorem Q5{Q:AV→List (Nat×Blk)→Prop}{t t':QD}(e:t=t')(h:t'.den Q):Yl Q t:=⟨e ▸ h⟩
theorem vW{N:Nat}{J:JSt}{v:AV}(h1:N≤J.nid)(h2:J.live.map (·.1)=List.range J.len)(h3:v.all (fun _=>false)=true)(h4:∀ q:Nat→Nat,v=v.mapId q):(⟨N,J,fun _=>v,fun _=>[]⟩:UC).Ok:=
 ⟨h1,h2,all_mono (fun _ h=>by cases h) _ h3,by simp[UC.po],rfl,fun _ _=>h4 _,fun _ _=>rfl⟩
end Go.SX
