/- The law ScanPiles answers true at every input: Places,Told,Missing and Truths return the document's sets,seats and numbers. No condition. -/
import Derived.Test.YtbpffdkemeoajaaGreatMpzx
import Derived.Test.YtbpffdkemeoajaaGreatMpzv
import Derived.Test.YtbpffdkemeoajaaGreatMpzw
open Go.Proofs.Tryz
set_option maxRecDepth 100000
namespace Go.Proofs.YtbpffdkemeoajaaGreat
open Go.SX Go.RowKit Go.ChangeShapes Go.WideShapes Go.ChangeAt
theorem QXw:laidOutB prog=true:=by kernel_rfl
set_option maxHeartbeats 4000000 in
theorem QWC(os:Os)(started:os.Started)(H:Type)(enc:TypeId×Value->H):
  ReturnsInHanded {} checked os 3 .any (Rows.scanPilesSpec.pre6 enc prog f3 Rows.scanPilesRow.domain false) (Rows.scanPilesSpec.post enc prog f3 false true false false):=by
 refine returnsInHanded_of_change (C:=checked) own started (by kernel_rfl) func3
  (ChangeSpec.witness6 (enc:=enc) (C:=checked) false ⟨#[],#[.agg #[.int .i64 0,.int .i64 0,.int .i64 0,.int .i64 0,.int .i64 0,.int .i64 0,.int .i64 0,.bool false,.slice none 0 0,.slice none 0 0,.slice none 0 0,.int .i64 0,.int .i64 0]],[]⟩ 8 (by kernel_rfl) (by kernel_rfl) (by kernel_rfl) (by kernel_rfl)) ?_
 intro W base args ds gs before hval0 hW _ _;have hval:∀(j:Nat) t v,f3.params[j]? = some t->args[j]? = some v->Value.okWide prog W .any base t v:=hval0;have hW':=hW;obtain⟨p,q,hA0,hV,rfl,_,_⟩:=hW;have hA:DataW.TrodAll enc prog W 0 (λ_=>true) true f3.params.toList args.toList ds p:=hA0;rw[params3]at hA hval;obtain⟨rfl,rfl⟩:=trodVars_none hV;obtain⟨args⟩:=args;obtain⟨v1,vs1,d1,ds1,_,e1,rfl,h1⟩:=QfH hA;simp only at e1;subst e1;obtain⟨e0,rfl⟩:=QaB h1;subst e0;obtain⟨_,hT1⟩:=QYs hA;obtain⟨x1,L1a,L1b,L1c,hL1⟩:=QX6 (hval 0 _ v1 rfl rfl) hT1
 simp only[List.append_nil]at hW';have hstay:=λ(W':World) (hg:Fr W W' (λ_=>False)) (sp:Nat->Bool) (hs:∀ q∈p,sp q.block=true)=>QJ9 (enc:=enc) (sp:=sp) QXw hg _ _ _ _ (by kernel_rfl) hA hs
 clear hA0 hval0
 let rr:Nat->Go.SX.Loc:=λi=>match i with
  | 0=>L1a
  | 1=>L1b
  | _=>L1c
 have g1:=hL1 0 rr rfl rfl rfl
 have hblk:∀ q∈QW.blks 0 ((x1,()):QD×Unit),QR rr q.1 W q.2:=by
  intro q hq
  have hq:q∈JC 0 x1:=by
   have e:QW.blks 0 ((x1,()):QD×Unit)=JC 0 x1:=by first|rfl|simp[QW.blks,KD.blk]
   rw[e]at hq;simpa only [List.mem_append,or_assoc]using hq
  exact g1.2 q hq
 have hrun:=QVP x1 (r:=rr) (w:=W) hblk
 have hargs:(AV.denL rr (QW.vals 0 ((x1,()):QD×Unit)))=[v1]:=by
  rw[<-g1.1];rfl
 rw[hargs]at hrun;refine hrun.mono ?_;rintro e W' ⟨he,hg⟩;exact⟨_,he,QTV (pa:=p) (pv:=[]) hW' (λ_ _ _=>QVj) (λsp hsp=>hstay W' hg sp (λq hq=>hsp q hq)) (λ_ _=>rfl) hg⟩
theorem scanPiles_holds:Rows.ScanPilesSaid:=
 OpenClaim.holds_of_wide 3 f3 rfl rfl rfl rfl rfl rfl rfl ⟨rfl,rfl,rfl,rfl,rfl⟩ rfl rfl rfl rfl rfl (by kernel_rfl) func3 (by kernel_rfl)
  (qdt (by kernel_rfl)) (by unfold Func.isWrapper;first|(rw[if_pos (by decide +kernel)];kernel_rfl)|(rw[if_neg (by decide +kernel)];exact⟨rfl,rfl⟩))
  (λos started H enc _=>QWC os started H enc)
#print axioms scanPiles_holds
