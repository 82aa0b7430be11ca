/- The law SolveWhere answers true at every input: a piece can be put into a cell just if Where says so; each piece has some cell,and each cell some piece; with one solution each piece has one cell,and no two can change places. No condition. -/
import Derived.Test.YtekbmehgcofnkaaGreatVzzf
import Derived.Test.YtekbmehgcofnkaaGreatVzt
import Derived.Test.YtekbmehgcofnkaaGreatVzv
open Go.Proofs.Tryz
set_option maxRecDepth 100000
namespace Go.Proofs.YtekbmehgcofnkaaGreat
open Go.SX Go.RowKit Go.ChangeShapes Go.WideShapes Go.ChangeAt
theorem laid:laidOutB prog=true:=by kernel_rfl
set_option maxHeartbeats 4000000 in
theorem Qj4(os:Os)(started:os.Started)(H:Type)(enc:TypeId×Value->H):
  ReturnsInHanded {} checked os 6 .any (Rows.solveWhereSpec.pre6 enc prog f6 Rows.solveWhereRow.domain false) (Rows.solveWhereSpec.post enc prog f6 false true false false):=by
 refine returnsInHanded_of_change (C:=checked) own started (by kernel_rfl) func6
  (ChangeSpec.witness6 (enc:=enc) (C:=checked) false ⟨#[],#[.agg #[.int .i64 0,.int .i64 0,.int .i64 0,.int .i64 0,.int .i64 0,.int .i64 0,.int .i64 0,.bool false,.slice none 0 0]],[]⟩ 8 (by kernel_rfl) (by kernel_rfl) (by kernel_rfl) (by kernel_rfl)) ?_
 intro W base args ds gs before hval0 hW _ _;have hval:∀(j:Nat) t v,f6.params[j]? = some t->args[j]? = some v->Value.okWide prog W .any base t v:=hval0;have hW':=hW;obtain⟨p,q,hA0,hV,rfl,_,_⟩:=hW;have hA:DataW.TrodAll enc prog W 0 (λ_=>true) true f6.params.toList args.toList ds p:=hA0;rw[params6]at hA hval;obtain⟨rfl,rfl⟩:=trodVars_none hV;obtain⟨args⟩:=args;obtain⟨v1,vs1,d1,ds1,_,e1,rfl,h1⟩:=H5 hA;simp only at e1;subst e1;obtain⟨e0,rfl⟩:=QGz h1;subst e0;obtain⟨_,hT1⟩:=QCs hA;obtain⟨x1,L1,hL1⟩:=QHr (hval 0 _ v1 rfl rfl) hT1;simp only[List.append_nil]at hW'
 have hstay:=λ(W':World) (hg:Fr W W' (λ_=>False)) (sp:Nat->Bool) (hs:∀ q∈p,sp q.block=true)=>QD9 (enc:=enc) (sp:=sp) laid hg _ _ _ _ (by kernel_rfl) hA hs
 clear hA0 hval0
 let rr:Nat->Go.SX.Loc:=λi=>match i with
  | _=>L1
 have g1:=hL1 0 rr rfl
 have hblk:∀ q∈QZ.blks 0 ((x1,()):Puz×Unit),QN rr q.1 W q.2:=by
  intro q hq
  have hq:q∈Qg.blk 0 x1:=by
   have e:QZ.blks 0 ((x1,()):Puz×Unit)=Qg.blk 0 x1:=by first|rfl|simp[QZ.blks,Qg.blk]
   rw[e]at hq;simpa only [List.mem_append,or_assoc]using hq
  exact g1.2 q hq
 have hrun:=QHy (Zf qF) func6 (c:=Qn f6) (by kernel_rfl) QWt QdP (x1,()) (rfl) (r:=rr) (w:=W) (u := .bool true) rfl hblk (λ_=>rfl)
 have hargs:(AV.denL rr (QZ.vals 0 ((x1,()):Puz×Unit)))=[v1]:=by
  rw[<-g1.1];rfl
 rw[hargs]at hrun;refine hrun.mono ?_;rintro e W' ⟨he,hg⟩;exact⟨_,he,QK4 (pa:=p) (pv:=[]) hW' (λ_ _ _=>QIS) (λsp hsp=>hstay W' hg sp (λq hq=>hsp q hq)) (λ_ _=>rfl) hg⟩
theorem solveWhere_holds:Rows.SolveWhereSaid:=
 OpenClaim.holds_of_wide 6 f6 rfl rfl rfl rfl rfl rfl rfl ⟨rfl,rfl,rfl,rfl,rfl⟩ rfl rfl rfl rfl rfl (by kernel_rfl) func6 (by kernel_rfl)
  (qdt (by kernel_rfl)) (by unfold Func.isWrapper;first|(rw[if_pos (by decide +kernel)];kernel_rfl)|(rw[if_neg (by decide +kernel)];exact⟨rfl,rfl⟩))
  (λos started H enc _=>Qj4 os started H enc)
#print axioms solveWhere_holds
