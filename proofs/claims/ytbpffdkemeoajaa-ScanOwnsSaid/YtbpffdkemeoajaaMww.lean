/- - -/
import Derived.Test.YtbpffdkemeoajaaMwu
namespace Go.SX
open Go Go.RowKit Go.Proofs.Ytbpffdkemeoajaa
variable {α:Type}{f:FuncId}
noncomputable def Je(F:WF α)(x:α):WF α:=fun y=>(QY [y=x]&&(F y).1,(F y).2)
theorem zr{P:Program}[QX α]{F:WF α}(hgo:Jh P f=true)(h:∀ x,(F x).1=true→QO P f (wFC (Je F x))):QO P f (wFC F):=by
 refine⟨hgo,fun args nid all r w lk blks eff hH ha hv he hp => ?_⟩;simp only[wFC]at hv he;split at he<;>(try (cases he;done))
 rename_i p x hd;simp only[qsI]at he;subst he;simp only[qbA]at hp;refine(h x hp.2).2 args nid all r w lk blks ⟨false,p&&(Je F x x).1,(F x).2.1.mapId (·+nid),(F x).2.2.map fun q=>(q.1+nid,q.2.mapId (·+nid))⟩ hH ha hv ?_ ?_
 ·simp only[wFC,hd];rfl
 ·show(p&&(QY [x=x]&&(F x).1))=true;rw[hp.1,hp.2,KL.2 (show KD [x=x]from⟨rfl,trivial⟩)];rfl
theorem QZG{F:WF α}{x y:α}(h:(Je F x y).1=true):y=x∧(F y).1=true:=by
 simp only[Je,qbA]at h;exact⟨(KL.1 h.1).1,h.2⟩
theorem Xt{E:Env}(hE:E.Sound){fn:Func}{c:Code}(hf:E.P.funcs[f]? = some fn)(hb:fn.body=some c)(hgo:Jh E.P f=true)[QX α]{N:Nat}(hN:QX.len α≤N){H:Hnd}{F:WF α}(x:α)(hl:∀ G:Ctx,G.rd=none→G.n=N→Q1 E G H c)(hw:WOk (F x).2.1 (F x).2.2)(hF:Xo (Xj N (F x).2.1 (F x).2.2) (KR E H fn (QX.vals 0 x) (QX.blks 0 x) N)):QO E.P f (wFC (Je F x)):=by
 refine JX hE hf hb hgo hN (H:=fun _=>H) ⟨fun y _ G h1 h2=>hl G h1 h2⟩ ⟨fun y hy => ?_⟩;obtain⟨rfl,_⟩:=QZG hy;exact⟨hw,hF⟩
theorem ZA{P:Program}(hgo:Jh P f=true)(U:UC):QO P f (Jd (fun _=>false) U):=by
 refine⟨hgo,fun args nid all r w lk blks eff hH _ hv he hp => ?_⟩;simp only[Jd,QDK,QE5,qm (qq 6)]at hv he;unfold QC6 at he;split at he<;>(try (cases he;done))
 simp only[qsI]at he;subst he;cases hp
theorem X0{E E0:Env}(hP:E.P=E0.P){G:Ctx}{c:Code}{L:St→(Ex→St→QD)→QD}(h:JS E G c L):JS E0 G c L:=by
 unfold JS at h ⊢;rw[←hP];exact h
theorem Qt{Q:AV→List (Nat×Blk)→Prop}{t t':QD}(e:t=t')(h:t'.den Q):Xo Q t:=⟨e ▸ h⟩
theorem z9{N:Nat}{J:JSt}{v:AV}(h1:N≤J.nid)(h2:J.live.map (·.1)=List.range J.len)(h3:v.all (fun _=>false)=true)(h4:∀ q:Nat→Nat,v=v.mapId q):(⟨N,J,fun _=>v,fun _=>[]⟩:UC).Ok:=
 ⟨h1,h2,all_mono (fun _ h=>by cases h) _ h3,by simp[UC.po],rfl,fun _ _=>h4 _,fun _ _=>rfl⟩
end Go.SX
