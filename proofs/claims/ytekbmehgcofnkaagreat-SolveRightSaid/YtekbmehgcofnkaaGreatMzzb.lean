/- The law SolveRight answers true at every input: both solutions are right,they differ,and no other list is a solution that comes before the first one,or between both,or at all if there is none. No condition. -/
import Derived.Test.YtekbmehgcofnkaaGreatMzy
import Derived.Test.YtekbmehgcofnkaaGreatMzr
import Derived.Test.YtekbmehgcofnkaaGreatMzz
open Go.Proofs.Tryz
set_option maxRecDepth 100000
namespace Go.Proofs.YtekbmehgcofnkaaGreat
open Go.SX Go.RowKit Go.ChangeShapes Go.WideShapes Go.ChangeAt
theorem laid:laidOutB prog=true:=by kernel_rfl
set_option maxHeartbeats 4000000 in
theorem QVs(os:Os)(started:os.Started)(H:Type)(enc:TypeId×Value->H):
  ReturnsInHanded {} checked os 4 .any (Rows.solveRightSpec.pre6 enc prog f4 Rows.solveRightRow.domain false) (Rows.solveRightSpec.post enc prog f4 false true false false):=by
 refine returnsInHanded_of_change (C:=checked) own started (by kernel_rfl) func4
  (ChangeSpec.witness6 (enc:=enc) (C:=checked) false ⟨#[],#[.agg #[.int .i64 0,.int .i64 0,.int .i64 0,.int .i64 0,.int .i64 0,.int .i64 0,.int .i64 0,.bool false,.slice none 0 0],.slice none 0 0],[]⟩ 8 (by kernel_rfl) (by kernel_rfl) (by kernel_rfl) (by kernel_rfl)) ?_
 intro W base args ds gs before hval0 hW _ _;have hval:∀(j:Nat) t v,f4.params[j]? = some t->args[j]? = some v->Value.okWide prog W .any base t v:=hval0;have hW':=hW;obtain⟨p,q,hA0,hV,rfl,_,_⟩:=hW;have hA:DataW.TrodAll enc prog W 0 (λ_=>true) true f4.params.toList args.toList ds p:=hA0;rw[params4]at hA hval;obtain⟨rfl,rfl⟩:=trodVars_none hV;obtain⟨args⟩:=args;obtain⟨v1,vs1,d1,ds1,_,e1,rfl,h1⟩:=QIh hA;simp only at e1;subst e1;obtain⟨v2,vs2,d2,ds2,_,e2,rfl,h2⟩:=QIh h1;subst e2;obtain⟨e0,rfl⟩:=QOi h2;subst e0;obtain⟨_,hT1⟩:=QIG hA
 obtain⟨x1,L1,hL1⟩:=QNL (hval 0 _ v1 rfl rfl) hT1;obtain⟨_,hT2⟩:=QIG h1;obtain⟨x2,L2,hr2,hL2⟩:=QbD (hval 1 _ v2 rfl rfl) hT2;simp only[List.append_nil]at hW';have hstay:=λ(W':World) (hg:Fr W W' (λ_=>False)) (sp:Nat->Bool) (hs:∀ q∈p,sp q.block=true)=>QGr (enc:=enc) (sp:=sp) laid hg _ _ _ _ (by kernel_rfl) hA hs
 clear hA0 hval0
 let rr:Nat->Go.SX.Loc:=λi=>match i with
  | 0=>L1
  | _=>L2
 have g1:=hL1 0 rr rfl;have g2:=hL2 1 rr rfl
 have hblk:∀ q∈Qb.blks 0 ((x1,x2,()):Puz×Rw KJ×Unit),QM rr q.1 W q.2:=by
  intro q hq
  have hq:q∈Qi.blk 0 x1∨q∈Qi.blk 1 x2:=by
   have e:Qb.blks 0 ((x1,x2,()):Puz×Rw KJ×Unit)=Qi.blk 0 x1++Qi.blk 1 x2:=by first|rfl|simp[Qb.blks,Qi.blk]
   rw[e]at hq;simpa only [List.mem_append,or_assoc]using hq
  rcases hq with hq|hq
  .exact g1.2 q hq
  .exact g2.2 q hq
 have hrun:=QLS (KF QQF) func4 (c:=Qk f4) (by kernel_rfl) QgC QY3 (x1,x2,()) (Qh8 hr2) (r:=rr) (w:=W) (u := .bool true) rfl hblk (λ_=>rfl)
 have hargs:(AV.denL rr (Qb.vals 0 ((x1,x2,()):Puz×Rw KJ×Unit)))=[v1,v2]:=by
  rw[<-g1.1,<-g2.1];rfl
 rw[hargs]at hrun;refine hrun.mono ?_;rintro e W' ⟨he,hg⟩;exact⟨_,he,QMS (pa:=p) (pv:=[]) hW' (λ_ _ _=>QRU) (λsp hsp=>hstay W' hg sp (λq hq=>hsp q hq)) (λ_ _=>rfl) hg⟩
theorem solveRight_holds:Rows.SolveRightSaid:=
 OpenClaim.holds_of_wide 4 f4 rfl rfl rfl rfl rfl rfl rfl ⟨rfl,rfl,rfl,rfl,rfl⟩ rfl rfl rfl rfl rfl (by kernel_rfl) func4 (by kernel_rfl)
  (qdt (by kernel_rfl)) (by unfold Func.isWrapper;first|(rw[if_pos (by decide +kernel)];kernel_rfl)|(rw[if_neg (by decide +kernel)];exact⟨rfl,rfl⟩))
  (λos started H enc _=>QVs os started H enc)
#print axioms solveRight_holds
