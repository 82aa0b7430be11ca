/- Contracts at one argument; a function gone into with loops told ahead. -/
import Derived.Test.YtbpffdkemeoajaaMmv
namespace Go.SX
open Go Go.RowKit Go.Proofs.Ytbpffdkemeoajaa
noncomputable def VZ {α:Type} (F:WF α) (x:α):WF α:=fun y=>(Qo [y=x]&&(F y).1,(F y).2)
theorem QB7 {P:Program} {f:FuncId} {α:Type} [QS α] {F:WF α} (hgo:K8 P f=true) (h:∀ x,(F x).1=true→QM P f (wFC (VZ F x))):QM P f (wFC F):=by
 refine ⟨hgo,fun args nid all r w lk blks eff hH ha hv he hp => ?_⟩
 simp only [wFC] at hv he
 split at he<;>(try (cases he;done))
 rename_i p x hd
 simp only [Option.some.injEq] at he;subst he
 simp only [Bool.and_eq_true] at hp
 refine (h x hp.2).2 args nid all r w lk blks ⟨false,p&&(VZ F x x).1,(F x).2.1.mapId (· + nid),(F x).2.2.map fun q=>(q.1 + nid,q.2.mapId (· + nid))⟩ hH ha hv ?_ ?_
 ·simp only [wFC,hd];rfl
 ·show (p&&(Qo [x=x]&&(F x).1))=true
  rw [hp.1,hp.2,Kr.2 (show KA [x=x] from ⟨rfl,trivial⟩)];rfl
theorem QQJ {α:Type} {F:WF α} {x y:α} (h:(VZ F x y).1=true):y=x∧(F y).1=true:=by
 simp only [VZ,Bool.and_eq_true] at h
 exact ⟨(Kr.1 h.1).1,h.2⟩
theorem Wx {E:Env} (hE:E.Sound) {f:FuncId} {fn:Func} {c:Code} (hf:E.P.funcs[f]? = some fn) (hb:fn.body=some c) (hgo:K8 E.P f=true) {α:Type} [QS α] {N:Nat} (hN:QS.len α≤N) {H:Hnd} {F:WF α} (x:α)
  (hl:∀ G:Ctx,G.rd=none→G.n=N→Q4 E G H c) (hw:WOk (F x).2.1 (F x).2.2) (hF:Xe (Vm N (F x).2.1 (F x).2.2) (KY E H fn (QS.vals 0 x) (QS.blks 0 x) N)):QM E.P f (wFC (VZ F x)):=by
 refine K6 hE hf hb hgo hN (H:=fun _=>H) ⟨fun y _ G h1 h2=>hl G h1 h2⟩ ⟨fun y hy => ?_⟩
 obtain ⟨rfl,_⟩:=QQJ hy
 exact ⟨hw,hF⟩
theorem qq {P:Program} {f:FuncId} (hgo:K8 P f=true) (U:UC):QM P f (Ji (fun _=>false) U):=by
 refine ⟨hgo,fun args nid all r w lk blks eff hH _ hv he hp => ?_⟩
 simp only [Ji,QCb,QBJ,ZJ (ZZ 6)] at hv he
 unfold QAn at he
 split at he<;>(try (cases he;done))
 simp only [Option.some.injEq] at he;subst he
 cases hp
theorem WC {E E0:Env} (hP:E.P=E0.P) {G:Ctx} {c:Code} {L:St→(Ex→St→QC)→QC} (h:JP E G c L):JP E0 G c L:=by
 unfold JP at h ⊢
 rw [←hP];exact h
theorem KF {Q:AV→List (Nat×Blk)→Prop} {t t':QC} (e:t=t') (h:t'.den Q):Xe Q t:=⟨e ▸ h⟩
theorem G7 {N:Nat} {J:JSt} {v:AV} (h1:N≤J.nid) (h2:J.live.map (·.1)=List.range J.len) (h3:v.all (fun _=>false)=true) (h4:∀ q:Nat→Nat,v=v.mapId q):(⟨N,J,fun _=>v,fun _=>[]⟩:UC).Ok:=
 ⟨h1,h2,all_mono (fun _ h=>by cases h) _ h3,by simp [UC.po],rfl,fun _ _=>h4 _,fun _ _=>rfl⟩
end Go.SX
