/- - -/
import Derived.Test.YtbpffdkemeoajaaGreatMpu
namespace Go.SX
open Go Go.RowKit Go.Proofs.YtbpffdkemeoajaaGreat
variable {α:Type}{P:Program}{f:FuncId}
noncomputable def JN(F:WF α)(x:α):WF α:=λy=>(QV [y=x]&&(F y).1,(F y).2)
theorem WL[QW α]{F:WF α}(hgo:VB P f=true)(h:∀ x,(F x).1=true->QO P f (wFC (JN F x))):QO P f (wFC F):=by
 refine⟨hgo,λargs nid all r w lk blks eff hH ha hv he hp=>?_⟩;simp only[wFC]at hv he;split at he<;>(try (cases he;done))
 rename_i p x hd;simp only[qsI]at he;subst he;simp only[qbA]at hp;refine(h x hp.2).2 args nid all r w lk blks ⟨false,p&&(JN F x x).1,(F x).2.1.mapId (·+nid),(F x).2.2.map λq=>(q.1+nid,q.2.mapId (·+nid))⟩ hH ha hv ?_ ?_
 .simp only[wFC,hd];rfl
 .show(p&&(QV [x=x]&&(F x).1))=true;rw[hp.1,hp.2,KP.2 (show KX [x=x]from⟨rfl,trivial⟩)];rfl
theorem QIg{F:WF α}{x y:α}(h:(JN F x y).1=true):y=x/\(F y).1=true:=by
 simp only[JN,qbA]at h;exact⟨(KP.1 h.1).1,h.2⟩
theorem Vt{E:Env}(hE:E.Sound){fn:Func}{c:Code}(hf:E.P.funcs[f]? = some fn)(hb:fn.body=some c)(hgo:VB E.P f=true)[QW α]{N:Nat}(hN:QW.len α<=N){H:Hnd}{F:WF α}(x:α)(hl:∀ G:Ctx,G.rd=none->G.n=N->Q8 E G H c)(hw:WOk (F x).2.1 (F x).2.2)(hF:XU (VQ N (F x).2.1 (F x).2.2) (KI E H fn (QW.vals 0 x) (QW.blks 0 x) N)):QO E.P f (wFC (JN F x)):=by
 refine JI hE hf hb hgo hN (H:=λ_=>H) ⟨λy _ G h1 h2=>hl G h1 h2⟩ ⟨λy hy=>?_⟩;obtain⟨rfl,_⟩:=QIg hy;exact⟨hw,hF⟩
def QDC(fc:FC):FC:=λargs nid all=>((fc args nid all).1,λblks=>match (fc args nid all).2 blks with
 | some e=>some ⟨e.known,e.pre,e.val,e.upd.map λq=>match inR nid q.1 with|true=>(q.1,q.2.ro)|false=>q⟩
 | none=>none)
theorem QLS{fc:FC}(h:QO P f fc):QO P f (QDC fc):=by
 refine⟨h.1,λargs nid all r w lk blks eff hH ha hv he hp=>?_⟩;simp only[QDC]at hv he;split at he<;>(try (cases he;done))
 rename_i e h0;simp only[qsI]at he;subst he;refine(h.2 args nid all r w lk blks e hH ha hv h0 hp).mono ?_;rintro e' w' ⟨r',rfl,hpost⟩;refine⟨r',rfl,?_⟩
 have mem:∀ p,p∈e.upd.map (λq=>match inR nid q.1 with|true=>(q.1,q.2.ro)|false=>q)->∃ q∈e.upd,p.1=q.1/\((inR nid q.1=true/\p.2=q.2.ro)∨(inR nid q.1=false/\p.2=q.2)):=by
  intro p hp;obtain⟨q,hq,rfl⟩:=List.mem_map.1 hp;refine⟨q,hq,?_⟩;cases hi:inR nid q.1 with
  | true=>exact⟨rfl,.inl ⟨rfl,rfl⟩⟩
  | false=>exact⟨rfl,.inr ⟨rfl,rfl⟩⟩
 have mem':∀ q∈e.upd,inR nid q.1=false->q∈e.upd.map (λq=>match inR nid q.1 with|true=>(q.1,q.2.ro)|false=>q):=by
  intro q hq hi;refine List.mem_map.2 ⟨q,hq,?_⟩;rw[hi]
 refine⟨hpost.same,λp hp=>?_,⟨hpost.fr.os,hpost.fr.tape,hpost.fr.output,hpost.fr.size,λk hk hc=>hpost.fr.block k hk ?_⟩,λp hp hin hl k hk=>?_,λp hp hin hl k hk=>?_,λp hp q hq hin hin' hne ho hl k hk hk'=>?_⟩
 .obtain⟨q,hq,h1,⟨_,h2⟩|⟨_,h2⟩⟩:=mem p hp
  .rw[h1,h2];exact(hpost.rep q hq).ro
  .rw[h1,h2];exact hpost.rep q hq
 .rintro⟨q,hq,hin,b,h1,h2⟩;exact hc ⟨q,mem' q hq hin,hin,b,h1,h2⟩
 .obtain⟨q,hq,h1,⟨hi,h2⟩|⟨hi,h2⟩⟩:=mem p hp
  .have hlq:q.2.live=true:=by rw[h2,Blk.live_ro]at hl;exact hl
   have hk':Qm r' q.1 q.2 k:=by rw[h1,h2]at hk;exact QEN.1 hk
   rcases hpost.new q hq hi hlq k hk' with h3|⟨z,hz,h4,h5,h6⟩|⟨hno,h7⟩
   .exact .inl h3
   .refine .inr (.inl ⟨z,mem' z hz h4,h4,λy hy he=>?_,h6⟩);obtain⟨y',hy',g1,⟨gi,g2⟩|⟨gi,g2⟩⟩:=mem y hy
    .rw[<-g1,he,h4]at gi;cases gi
    .rw[g2];exact h5 y' hy' (by rw[<-g1];exact he)
   .have _:=hno;refine .inr (.inr ⟨?_,h7⟩);rw[h2];cases ho:q.2.ro.own with
    | false=>rfl
    | true=>
     have e1:=Blk.own_ro _ ho;rw[e1,hno]at ho;cases ho
  .rw[h1,hi]at hin;cases hin
 .obtain⟨q,hq,h1,⟨hi,h2⟩|⟨hi,h2⟩⟩:=mem p hp
  .rw[h1,hi]at hin;cases hin
  .rw[h1]at hin hk ⊢;rw[h2]at hl hk;exact hpost.stay q hq hin hl k hk
 .obtain⟨p',hp',h1,hor⟩:=mem p hp;obtain⟨q',hq',g1,hor'⟩:=mem q hq;have hpi:inR nid p'.1=true:=by rw[<-h1];exact hin
  have hqi:inR nid q'.1=true:=by rw[<-g1];exact hin'
  have h2:p.2=p'.2.ro:=by
   rcases hor with ⟨_,h⟩|⟨h,_⟩
   .exact h
   .rw[hpi]at h;cases h
  have g2:q.2=q'.2.ro:=by
   rcases hor' with ⟨_,h⟩|⟨h,_⟩
   .exact h
   .rw[hqi]at h;cases h
  rw[h2]at ho hk;rw[g2]at hl hk';have e1:=Blk.own_ro _ ho;rw[e1]at ho;refine hpost.apart p' hp' q' hq' hpi hqi (by rw[<-h1,<-g1];exact hne) ho (by rw[<-Blk.live_ro];exact hl) k ?_ ?_
  .rw[h1]at hk;exact QEN.1 hk
  .rw[g1]at hk';exact QEN.1 hk'
theorem Zm(hgo:VB P f=true)(U:UC):QO P f (Jj (λ_=>false) U):=by
 refine⟨hgo,λargs nid all r w lk blks eff hH _ hv he hp=>?_⟩;simp only[Jj,QF3,QGZ,jc (jY 6)]at hv he;unfold QFu at he;split at he<;>(try (cases he;done))
 simp only[qsI]at he;subst he;cases hp
theorem YG{E E0:Env}(hP:E.P=E0.P){G:Ctx}{c:Code}{L:St->(Ex->St->QE)->QE}(h:Vf E G c L):Vf E0 G c L:=by
 unfold Vf at h ⊢;rw[<-hP];exact h
theorem Qp{Q:AV->List (Nat×Blk)->Prop}{t t':QE}(e:t=t')(h:t'.den Q):XU Q t:=⟨e ▸ h⟩
theorem Gl{N:Nat}{J:JSt}{v:AV}(h1:N<=J.nid)(h2:J.live.map (·.1)=List.range J.len)(h3:v.all (λ_=>false)=true)(h4:∀ q:Nat->Nat,v=v.mapId q):(⟨N,J,λ_=>v,λ_=>[]⟩:UC).Ok:=
 ⟨h1,h2,all_mono (λ_ h=>by cases h) _ h3,by simp[UC.po],rfl,λ_ _=>h4 _,λ_ _=>rfl⟩
