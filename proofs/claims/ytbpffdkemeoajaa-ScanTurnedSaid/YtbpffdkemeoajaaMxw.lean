/- - -/
import Derived.Test.YtbpffdkemeoajaaMxu
namespace Go.SX
open Go Go.RowKit Go.Proofs.Ytbpffdkemeoajaa
variable {α:Type}{f:FuncId}
noncomputable def XA(F:WF α)(x:α):WF α:=fun y=>(Qx [y=x]&&(F y).1,(F y).2)
theorem QBl{P:Program}[QS α]{F:WF α}(hgo:JM P f=true)(h:∀ x,(F x).1=true→QQ P f (wFC (XA F x))):QQ P f (wFC F):=by
 refine⟨hgo,fun args nid all r w lk blks eff hH ha hv he hp => ?_⟩;simp only[wFC]at hv he;split at he<;>(try (cases he;done))
 rename_i p x hd;simp only[qsI]at he;subst he;simp only[qbA]at hp;refine(h x hp.2).2 args nid all r w lk blks ⟨false,p&&(XA F x x).1,(F x).2.1.mapId (·+nid),(F x).2.2.map fun q=>(q.1+nid,q.2.mapId (·+nid))⟩ hH ha hv ?_ ?_
 ·simp only[wFC,hd];rfl
 ·show(p&&(Qx [x=x]&&(F x).1))=true;rw[hp.1,hp.2,JS.2 (show Q6 [x=x]from⟨rfl,trivial⟩)];rfl
theorem QM6{F:WF α}{x y:α}(h:(XA F x y).1=true):y=x∧(F y).1=true:=by
 simp only[XA,qbA]at h;exact⟨(JS.1 h.1).1,h.2⟩
theorem jw{E:Env}(hE:E.Sound){fn:Func}{c:Code}(hf:E.P.funcs[f]? = some fn)(hb:fn.body=some c)(hgo:JM E.P f=true)[QS α]{N:Nat}(hN:QS.len α≤N){H:Hnd}{F:WF α}(x:α)(hl:∀ G:Ctx,G.rd=none→G.n=N→Q5 E G H c)(hw:WOk (F x).2.1 (F x).2.2)(hF:YK (XI N (F x).2.1 (F x).2.2) (KY E H fn (QS.vals 0 x) (QS.blks 0 x) N)):QQ E.P f (wFC (XA F x)):=by
 refine K9 hE hf hb hgo hN (H:=fun _=>H) ⟨fun y _ G h1 h2=>hl G h1 h2⟩ ⟨fun y hy => ?_⟩;obtain⟨rfl,_⟩:=QM6 hy;exact⟨hw,hF⟩
theorem vm{P:Program}(hgo:JM P f=true)(U:UC):QQ P f (VD (fun _=>false) U):=by
 refine⟨hgo,fun args nid all r w lk blks eff hH _ hv he hp => ?_⟩;simp only[VD,QDG,QDU,Zs (Zx 6)]at hv he;unfold QC0 at he;split at he<;>(try (cases he;done))
 simp only[qsI]at he;subst he;cases hp
theorem WM{E E0:Env}(hP:E.P=E0.P){G:Ctx}{c:Code}{L:St→(Ex→St→QB)→QB}(h:JJ E G c L):JJ E0 G c L:=by
 unfold JJ at h ⊢;rw[←hP];exact h
theorem KF{Q:AV→List (Nat×Blk)→Prop}{t t':QB}(e:t=t')(h:t'.den Q):YK Q t:=⟨e ▸ h⟩
theorem jP{N:Nat}{J:JSt}{v:AV}(h1:N≤J.nid)(h2:J.live.map (·.1)=List.range J.len)(h3:v.all (fun _=>false)=true)(h4:∀ q:Nat→Nat,v=v.mapId q):(⟨N,J,fun _=>v,fun _=>[]⟩:UC).Ok:=
 ⟨h1,h2,all_mono (fun _ h=>by cases h) _ h3,by simp[UC.po],rfl,fun _ _=>h4 _,fun _ _=>rfl⟩
end Go.SX
