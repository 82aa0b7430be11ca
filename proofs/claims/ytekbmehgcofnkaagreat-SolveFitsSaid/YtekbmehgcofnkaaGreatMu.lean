/- - -/
import Derived.Test.YtekbmehgcofnkaaGreatMs
import Derived.Test.YtekbmehgcofnkaaGreatMp
namespace Go.SX
open Go Go.RowKit Go.Proofs.YtekbmehgcofnkaaGreat
variable {α:Type}{f:FuncId}{E:Env}{c:Code}
noncomputable def VY(F:WF α)(x:α):WF α:=λy=>(QQ [y=x]&&(F y).1,(F y).2)
theorem Gc{P:Program}[Qb α]{F:WF α}(hgo:Jx P f=true)(h:∀ x,(F x).1=true->QR P f (wFC (VY F x))):QR P f (wFC F):=by
 refine⟨hgo,λargs nid all r w lk blks eff hH ha hv he hp=>?_⟩;simp only[wFC]at hv he;split at he<;>(try (cases he;done))
 rename_i p x hd;simp only[qsI]at he;subst he;simp only[qbA]at hp;refine(h x hp.2).2 args nid all r w lk blks ⟨false,p&&(VY F x x).1,(F x).2.1.mapId (·+nid),(F x).2.2.map λq=>(q.1+nid,q.2.mapId (·+nid))⟩ hH ha hv ?_ ?_
 .simp only[wFC,hd];rfl
 .show(p&&(QQ [x=x]&&(F x).1))=true;rw[hp.1,hp.2,KI.2 (show Kk [x=x]from⟨rfl,trivial⟩)];rfl
theorem QVe{F:WF α}{x y:α}(h:(VY F x y).1=true):y=x/\(F y).1=true:=by
 simp only[VY,qbA]at h;exact⟨(KI.1 h.1).1,h.2⟩
theorem Yu(hE:E.Sound){fn:Func}(hf:E.P.funcs[f]? = some fn)(hb:fn.body=some c)(hgo:Jx E.P f=true)[Qb α]{N:Nat}(hN:Qb.len α<=N){H:Hnd}{F:WF α}(x:α)(hl:∀ G:Ctx,G.rd=none->G.n=N->Qw E G H c)(hw:WOk (F x).2.1 (F x).2.2)(hF:qg (q9 N (F x).2.1 (F x).2.2) (Kd E H fn (Qb.vals 0 x) (Qb.blks 0 x) N)):QR E.P f (wFC (VY F x)):=by
 refine JL hE hf hb hgo hN (H:=λ_=>H) ⟨λy _ G h1 h2=>hl G h1 h2⟩ ⟨λy hy=>?_⟩;obtain⟨rfl,_⟩:=QVe hy;exact⟨hw,hF⟩
theorem Jr{P:Program}(hgo:Jx P f=true)(U:UC):QR P f (KM (λ_=>false) U):=by
 refine⟨hgo,λargs nid all r w lk blks eff hH _ hv he hp=>?_⟩;simp only[KM,QGX,QJy,vy (zR 6)]at hv he;unfold QI9 at he;split at he<;>(try (cases he;done))
 simp only[qsI]at he;subst he;cases hp
theorem Qf{Q:AV->List (Nat×Blk)->Prop}{t t':QC}(e:t=t')(h:t'.den Q):qg Q t:=⟨e ▸ h⟩
theorem QPC{N:Nat}{J:JSt}{v:AV}(h1:N<=J.nid)(h2:J.live.map (·.1)=List.range J.len)(h3:v.all (λ_=>false)=true)(h4:∀ q:Nat->Nat,v=v.mapId q):(⟨N,J,λ_=>v,λ_=>[]⟩:UC).Ok:=
 ⟨h1,h2,all_mono (λ_ h=>by cases h) _ h3,by simp[UC.po],rfl,λ_ _=>h4 _,λ_ _=>rfl⟩
def JT(p:Prop)(L:St->(Ex->St->QC)->QC)(st:St)(K:Ex->St->QC):QC := .ask p (L st K)
theorem Jh{G:Ctx}{p:Prop}{L:St->(Ex->St->QC)->QC}(h:p->Jz E G c L):Jz E G c (JT p L):=by
 intro st K T Q a w hn hd hr hQ;obtain⟨h1,h2⟩:=(show p/\(L st K).den T from hd);exact h h1 st K T Q a w hn h2 hr hQ
def Gg:Code->Option Nat
 | .region id _ _=>some id
 | .seq a b=>(match Gg a with
  | some x=>some x
  | none=>Gg b)
 | .block _ a=>Gg a
 | .scope a=>Gg a
 | .loop a=>Gg a
 | _=>none
def QMH(l:List (Nat×(St->(Ex->St->QC)->QC)))(c:Code):St->(Ex->St->QC)->QC:=match Gg c with
 | some r=>(match l.find? (λp=>Nat.beq p.1 r)with
  | some p=>p.2
  | none => λ_ _=>.fail "a loop that is not told")
 | none => λ_ _=>.fail "a loop without a region"
theorem QTq(hE:E.Sound){d:Nat}{G:Ctx}(hG:G.rd=none){c:Code}{L:Code->St->(Ex->St->QC)->QC}(h:∀ s∈K5 c,Jz E G s (L s)):Qw E G { hnd E d with loop:=L } c:=
 ⟨h,(Qv hE d G c hG).call,(Qv hE d G c hG).yield⟩
def QU(c:Code):Code:=match K5 c with
 | .loop b::_=>b
 | _ => .skip
theorem QWS{Q:AV->List (Nat×Blk)->Prop}{t t':QC}(e:t=t')(h:t'.den Q):qg Q t:=⟨e ▸ h⟩
theorem QL:∀{a b:List Prop},Kk a->Kk b->Kk (a++b)
 | [],_,_,h=>h
 | _::_,_,h,g=>⟨h.1,QL h.2 g⟩
theorem Vu{l:List α}{i:Nat}{z:α}(h:i<l.length):l.getD i z=l[i]:=by
 rw[List.getD_eq_getElem?_getD,List.getElem?_eq_getElem h];rfl
