/- - -/
import Derived.Test.YtekbmehgcofnkaaGreatVzy
import Derived.Test.YtekbmehgcofnkaaGreatVzt
import Derived.Test.YtekbmehgcofnkaaGreatVzz
open Go.Proofs.Tryz
set_option maxRecDepth 100000
namespace Go.Proofs.YtekbmehgcofnkaaGreat
open Go.SX Go.RowKit Go.ChangeShapes Go.WideShapes Go.ChangeAt
theorem laid:laidOutB prog=true:=by kernel_rfl
set_option maxHeartbeats 4000000 in
theorem QhS(os:Os)(started:os.Started)(H:Type)(enc:TypeId×Value->H):
  ReturnsInHanded {} checked os 8 .any (Rows.solveStuckSpec.pre6 enc prog f8 Rows.solveStuckRow.domain false) (Rows.solveStuckSpec.post enc prog f8 false true false false):=by
 refine returnsInHanded_of_change (C:=checked) own started (by kernel_rfl) func8
  (ChangeSpec.witness6 (enc:=enc) (C:=checked) false ⟨#[],#[.agg #[.int .i64 0,.int .i64 0,.int .i64 0,.int .i64 0,.int .i64 0,.int .i64 0,.int .i64 0,.bool false,.slice none 0 0],.slice none 0 0,.int .u8 0],[]⟩ 8 (by kernel_rfl) (by kernel_rfl) (by kernel_rfl) (by kernel_rfl)) ?_
 intro W base args ds gs before hval0 hW _ _;have hval:∀(j:Nat) t v,f8.params[j]? = some t->args[j]? = some v->Value.okWide prog W .any base t v:=hval0;have hW':=hW;obtain⟨p,q,hA0,hV,rfl,_,_⟩:=hW;have hA:DataW.TrodAll enc prog W 0 (λ_=>true) true f8.params.toList args.toList ds p:=hA0;rw[params8]at hA hval;obtain⟨rfl,rfl⟩:=trodVars_none hV;obtain⟨args⟩:=args;obtain⟨v1,vs1,d1,ds1,_,e1,rfl,h1⟩:=H5 hA;simp only at e1;subst e1;obtain⟨v2,vs2,d2,ds2,_,e2,rfl,h2⟩:=H5 h1;subst e2;obtain⟨v3,vs3,d3,ds3,_,e3,rfl,h3⟩:=H5 h2;subst e3;obtain⟨e0,rfl⟩:=QGz h3;subst e0
 obtain⟨_,hT1⟩:=QCs hA;obtain⟨x1,L1,hL1⟩:=QHr (hval 0 _ v1 rfl rfl) hT1;obtain⟨_,hT2⟩:=QCs h1;obtain⟨x2,L2,hr2,hL2⟩:=QaF (hval 1 _ v2 rfl rfl) hT2;obtain⟨x3,hx3,y3,z3⟩:=Qax (hval 2 _ v3 rfl rfl);simp only[List.append_nil]at hW';have hstay:=λ(W':World) (hg:Fr W W' (λ_=>False)) (sp:Nat->Bool) (hs:∀ q∈p,sp q.block=true)=>QD9 (enc:=enc) (sp:=sp) laid hg _ _ _ _ (by kernel_rfl) hA hs
 clear hA0 hval0
 let rr:Nat->Go.SX.Loc:=λi=>match i with
  | 0=>L1
  | _=>L2
 have g1:=hL1 0 rr rfl;have g2:=hL2 1 rr rfl
 have hblk:∀ q∈QZ.blks 0 ((x1,x2,x3,()):Puz×Rc Pt×U8n×Unit),QN rr q.1 W q.2:=by
  intro q hq
  have hq:q∈Qg.blk 0 x1∨q∈Qg.blk 1 x2:=by
   have e:QZ.blks 0 ((x1,x2,x3,()):Puz×Rc Pt×U8n×Unit)=Qg.blk 0 x1++Qg.blk 1 x2:=by first|rfl|simp[QZ.blks,Qg.blk]
   rw[e]at hq;simpa only [List.mem_append,or_assoc]using hq
  rcases hq with hq|hq
  .exact g1.2 q hq
  .exact g2.2 q hq
 have hrun:=QHy (Zf Yt) func8 (c:=Qn f8) (by kernel_rfl) QZ7 Qcc (x1,x2,x3,()) (qde ⟨hr2,y3,z3⟩) (r:=rr) (w:=W) (u := .bool true) rfl hblk (λ_=>rfl)
 have hargs:(AV.denL rr (QZ.vals 0 ((x1,x2,x3,()):Puz×Rc Pt×U8n×Unit)))=[v1,v2,v3]:=by
  rw[<-g1.1,<-g2.1,hx3 rr];rfl
 rw[hargs]at hrun;refine hrun.mono ?_;rintro e W' ⟨he,hg⟩;exact⟨_,he,QK4 (pa:=p) (pv:=[]) hW' (λ_ _ _=>QIS) (λsp hsp=>hstay W' hg sp (λq hq=>hsp q hq)) (λ_ _=>rfl) hg⟩
theorem solveStuck_holds:Rows.SolveStuckSaid:=
 OpenClaim.holds_of_wide 8 f8 rfl rfl rfl rfl rfl rfl rfl ⟨rfl,rfl,rfl,rfl,rfl⟩ rfl rfl rfl rfl rfl (by kernel_rfl) func8 (by kernel_rfl)
  (qdt (by kernel_rfl)) (by unfold Func.isWrapper;first|(rw[if_pos (by decide +kernel)];kernel_rfl)|(rw[if_neg (by decide +kernel)];exact⟨rfl,rfl⟩))
  (λos started H enc _=>QhS os started H enc)
#print axioms solveStuck_holds
