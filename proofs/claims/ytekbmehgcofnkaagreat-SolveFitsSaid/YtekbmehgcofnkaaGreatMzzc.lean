/- - -/
import Derived.Test.YtekbmehgcofnkaaGreatMzza
import Derived.Test.YtekbmehgcofnkaaGreatMzr
import Derived.Test.YtekbmehgcofnkaaGreatMzt
open Go.Proofs.Tryz
set_option maxRecDepth 100000
namespace Go.Proofs.YtekbmehgcofnkaaGreat
open Go.SX Go.RowKit Go.ChangeShapes Go.WideShapes Go.ChangeAt
theorem laid:laidOutB prog=true:=by kernel_rfl
set_option maxHeartbeats 4000000 in
theorem QdN(os:Os)(started:os.Started)(H:Type)(enc:TypeId×Value->H):
  ReturnsInHanded {} checked os 11 .any (Rows.solveFitsSpec.pre6 enc prog f11 Rows.solveFitsRow.domain false) (Rows.solveFitsSpec.post enc prog f11 false true false false):=by
 refine returnsInHanded_of_change (C:=checked) own started (by kernel_rfl) func11
  (ChangeSpec.witness6 (enc:=enc) (C:=checked) false ⟨#[],#[.agg #[.int .i64 0,.int .i64 0,.int .i64 0,.int .i64 0,.int .i64 0,.int .i64 0,.int .i64 0,.bool false,.slice none 0 0]],[]⟩ 8 (by kernel_rfl) (by kernel_rfl) (by kernel_rfl) (by kernel_rfl)) ?_
 intro W base args ds gs before hval0 hW _ _;have hval:∀(j:Nat) t v,f11.params[j]? = some t->args[j]? = some v->Value.okWide prog W .any base t v:=hval0;have hW':=hW;obtain⟨p,q,hA0,hV,rfl,_,_⟩:=hW;have hA:DataW.TrodAll enc prog W 0 (λ_=>true) true f11.params.toList args.toList ds p:=hA0;rw[params11]at hA hval;obtain⟨rfl,rfl⟩:=trodVars_none hV;obtain⟨args⟩:=args;obtain⟨v1,vs1,d1,ds1,_,e1,rfl,h1⟩:=QIh hA;simp only at e1;subst e1;obtain⟨e0,rfl⟩:=QOi h1;subst e0;obtain⟨_,hT1⟩:=QIG hA;obtain⟨x1,L1,hL1⟩:=QNL (hval 0 _ v1 rfl rfl) hT1
 simp only[List.append_nil]at hW';have hstay:=λ(W':World) (hg:Fr W W' (λ_=>False)) (sp:Nat->Bool) (hs:∀ q∈p,sp q.block=true)=>QGr (enc:=enc) (sp:=sp) laid hg _ _ _ _ (by kernel_rfl) hA hs
 clear hA0 hval0
 let rr:Nat->Go.SX.Loc:=λi=>match i with
  | _=>L1
 have g1:=hL1 0 rr rfl
 have hblk:∀ q∈Qb.blks 0 ((x1,()):Puz×Unit),QM rr q.1 W q.2:=by
  intro q hq
  have hq:q∈Qi.blk 0 x1:=by
   have e:Qb.blks 0 ((x1,()):Puz×Unit)=Qi.blk 0 x1:=by first|rfl|simp[Qb.blks,Qi.blk]
   rw[e]at hq;simpa only [List.mem_append,or_assoc]using hq
  exact g1.2 q hq
 have hrun:=QLS (KF Za) func11 (c:=Qk f11) (by kernel_rfl) QWm Qjc (x1,()) (rfl) (r:=rr) (w:=W) (u := .bool true) rfl hblk (λ_=>rfl)
 have hargs:(AV.denL rr (Qb.vals 0 ((x1,()):Puz×Unit)))=[v1]:=by
  rw[<-g1.1];rfl
 rw[hargs]at hrun;refine hrun.mono ?_;rintro e W' ⟨he,hg⟩;exact⟨_,he,QMS (pa:=p) (pv:=[]) hW' (λ_ _ _=>QRU) (λsp hsp=>hstay W' hg sp (λq hq=>hsp q hq)) (λ_ _=>rfl) hg⟩
theorem solveFits_holds:Rows.SolveFitsSaid:=
 OpenClaim.holds_of_wide 11 f11 rfl rfl rfl rfl rfl rfl rfl ⟨rfl,rfl,rfl,rfl,rfl⟩ rfl rfl rfl rfl rfl (by kernel_rfl) func11 (by kernel_rfl)
  (qdt (by kernel_rfl)) (by unfold Func.isWrapper;first|(rw[if_pos (by decide +kernel)];kernel_rfl)|(rw[if_neg (by decide +kernel)];exact⟨rfl,rfl⟩))
  (λos started H enc _=>QdN os started H enc)
#print axioms solveFits_holds
