/- - -/
import Derived.Test.YtbpffdkemeoajaaMfu
namespace Go.SX
open Go Go.RowKit Go.Proofs.Ytbpffdkemeoajaa
variable {α:Type}{f:FuncId}
noncomputable def J1(F:WF α)(x:α):WF α:=fun y=>(Qf [y=x]&&(F y).1,(F y).2)
theorem Gl{P:Program}[QV α]{F:WF α}(hgo:Js P f=true)(h:∀ x,(F x).1=true→QP P f (wFC (J1 F x))):QP P f (wFC F):=by
 refine⟨hgo,fun args nid all r w lk blks eff hH ha hv he hp => ?_⟩;simp only[wFC]at hv he;split at he<;>(try (cases he;done))
 rename_i p x hd;simp only[qsI]at he;subst he;simp only[qbA]at hp;refine(h x hp.2).2 args nid all r w lk blks ⟨false,p&&(J1 F x x).1,(F x).2.1.mapId (·+nid),(F x).2.2.map fun q=>(q.1+nid,q.2.mapId (·+nid))⟩ hH ha hv ?_ ?_
 ·simp only[wFC,hd];rfl
 ·show(p&&(Qf [x=x]&&(F x).1))=true;rw[hp.1,hp.2,Ke.2 (show KL [x=x]from⟨rfl,trivial⟩)];rfl
theorem QZX{F:WF α}{x y:α}(h:(J1 F x y).1=true):y=x∧(F y).1=true:=by
 simp only[J1,qbA]at h;exact⟨(Ke.1 h.1).1,h.2⟩
theorem Ya{E:Env}(hE:E.Sound){fn:Func}{c:Code}(hf:E.P.funcs[f]? = some fn)(hb:fn.body=some c)(hgo:Js E.P f=true)[QV α]{N:Nat}(hN:QV.len α≤N){H:Hnd}{F:WF α}(x:α)(hl:∀ G:Ctx,G.rd=none→G.n=N→KC E G H c)(hw:WOk (F x).2.1 (F x).2.2)(hF:X6 (Vg N (F x).2.1 (F x).2.2) (KO E H fn (QV.vals 0 x) (QV.blks 0 x) N)):QP E.P f (wFC (J1 F x)):=by
 refine Jc hE hf hb hgo hN (H:=fun _=>H) ⟨fun y _ G h1 h2=>hl G h1 h2⟩ ⟨fun y hy => ?_⟩;obtain⟨rfl,_⟩:=QZX hy;exact⟨hw,hF⟩
theorem qe{P:Program}(hgo:Js P f=true)(U:UC):QP P f (VH (fun _=>false) U):=by
 refine⟨hgo,fun args nid all r w lk blks eff hH _ hv he hp => ?_⟩;simp only[VH,QFX,QCy,qL (qY 6)]at hv he;unfold QEz at he;split at he<;>(try (cases he;done))
 simp only[qsI]at he;subst he;cases hp
theorem ZG{E E0:Env}(hP:E.P=E0.P){G:Ctx}{c:Code}{L:St→(Ex→St→QD)→QD}(h:JV E G c L):JV E0 G c L:=by
 unfold JV at h ⊢;rw[←hP];exact h
theorem Q2{Q:AV→List (Nat×Blk)→Prop}{t t':QD}(e:t=t')(h:t'.den Q):X6 Q t:=⟨e ▸ h⟩
theorem zg{N:Nat}{J:JSt}{v:AV}(h1:N≤J.nid)(h2:J.live.map (·.1)=List.range J.len)(h3:v.all (fun _=>false)=true)(h4:∀ q:Nat→Nat,v=v.mapId q):(⟨N,J,fun _=>v,fun _=>[]⟩:UC).Ok:=
 ⟨h1,h2,all_mono (fun _ h=>by cases h) _ h3,by simp[UC.po],rfl,fun _ _=>h4 _,fun _ _=>rfl⟩
end Go.SX
