/- - -/
import Derived.Test.YtbpffdkemeoajaaMau
namespace Go.SX
open Go Go.RowKit Go.Proofs.Ytbpffdkemeoajaa
variable {α:Type}{f:FuncId}
noncomputable def Jq(F:WF α)(x:α):WF α:=fun y=>(QS [y=x]&&(F y).1,(F y).2)
theorem Gg{P:Program}[QX α]{F:WF α}(hgo:J3 P f=true)(h:∀ x,(F x).1=true→QQ P f (wFC (Jq F x))):QQ P f (wFC F):=by
 refine⟨hgo,fun args nid all r w lk blks eff hH ha hv he hp => ?_⟩;simp only[wFC]at hv he;split at he<;>(try (cases he;done))
 rename_i p x hd;simp only[qsI]at he;subst he;simp only[qbA]at hp;refine(h x hp.2).2 args nid all r w lk blks ⟨false,p&&(Jq F x x).1,(F x).2.1.mapId (·+nid),(F x).2.2.map fun q=>(q.1+nid,q.2.mapId (·+nid))⟩ hH ha hv ?_ ?_
 ·simp only[wFC,hd];rfl
 ·show(p&&(QS [x=x]&&(F x).1))=true;rw[hp.1,hp.2,Q4.2 (show KJ [x=x]from⟨rfl,trivial⟩)];rfl
theorem QRE{F:WF α}{x y:α}(h:(Jq F x y).1=true):y=x∧(F y).1=true:=by
 simp only[Jq,qbA]at h;exact⟨(Q4.1 h.1).1,h.2⟩
theorem X8{E:Env}(hE:E.Sound){fn:Func}{c:Code}(hf:E.P.funcs[f]? = some fn)(hb:fn.body=some c)(hgo:J3 E.P f=true)[QX α]{N:Nat}(hN:QX.len α≤N){H:Hnd}{F:WF α}(x:α)(hl:∀ G:Ctx,G.rd=none→G.n=N→KH E G H c)(hw:WOk (F x).2.1 (F x).2.2)(hF:XE (XG N (F x).2.1 (F x).2.2) (Kc E H fn (QX.vals 0 x) (QX.blks 0 x) N)):QQ E.P f (wFC (Jq F x)):=by
 refine Jx hE hf hb hgo hN (H:=fun _=>H) ⟨fun y _ G h1 h2=>hl G h1 h2⟩ ⟨fun y hy => ?_⟩;obtain⟨rfl,_⟩:=QRE hy;exact⟨hw,hF⟩
theorem Zt{P:Program}(hgo:J3 P f=true)(U:UC):QQ P f (Jj (fun _=>false) U):=by
 refine⟨hgo,fun args nid all r w lk blks eff hH _ hv he hp => ?_⟩;simp only[Jj,QCt,QCw,Z6 (WS 6)]at hv he;unfold js at he;split at he<;>(try (cases he;done))
 simp only[qsI]at he;subst he;cases hp
theorem Ze{E E0:Env}(hP:E.P=E0.P){G:Ctx}{c:Code}{L:St→(Ex→St→QD)→QD}(h:J5 E G c L):J5 E0 G c L:=by
 unfold J5 at h ⊢;rw[←hP];exact h
theorem Q0{Q:AV→List (Nat×Blk)→Prop}{t t':QD}(e:t=t')(h:t'.den Q):XE Q t:=⟨e ▸ h⟩
theorem GB{N:Nat}{J:JSt}{v:AV}(h1:N≤J.nid)(h2:J.live.map (·.1)=List.range J.len)(h3:v.all (fun _=>false)=true)(h4:∀ q:Nat→Nat,v=v.mapId q):(⟨N,J,fun _=>v,fun _=>[]⟩:UC).Ok:=
 ⟨h1,h2,all_mono (fun _ h=>by cases h) _ h3,by simp[UC.po],rfl,fun _ _=>h4 _,fun _ _=>rfl⟩
end Go.SX
