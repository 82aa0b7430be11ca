/- The law SolveOwns answers true at every input: no argument is changed,and what is returned is new. No condition. -/
import Derived.Test.YtekbmehgcofnkaaGreatKzt
import Derived.Test.YtekbmehgcofnkaaGreatKzv
import Derived.Test.YtekbmehgcofnkaaGreatKzy
set_option linter.all false
open Go.Proofs.Tryz
set_option maxRecDepth 100000
namespace Go.Proofs.YtekbmehgcofnkaaGreat
open Go.SX Go.RowKit Go.ChangeShapes Go.WideShapes Go.ChangeAt
theorem QZZ:laidOutB prog=true:=by kernel_rfl
set_option maxHeartbeats 4000000 in
theorem Qec(os:Os)(started:os.Started)(H:Type)(enc:TypeId×Value->H):
  ReturnsInHanded {} checked os 14 .any (Rows.solveOwnsSpec.pre6 enc prog f14 Rows.solveOwnsRow.domain false) (Rows.solveOwnsSpec.post enc prog f14 false true false false):=by
 refine returnsInHanded_of_change (C:=checked) own started (by kernel_rfl) func14
  (ChangeSpec.witness6 (enc:=enc) (C:=checked) false ⟨#[],#[.agg #[.int .i64 0,.int .i64 0,.int .i64 0,.int .i64 0,.int .i64 0,.int .i64 0,.int .i64 0,.bool false,.slice none 0 0],.slice none 0 0],[]⟩ 8 (by kernel_rfl) (by kernel_rfl) (by kernel_rfl) (by kernel_rfl)) ?_
 intro W base args ds gs before hval0 hW _ _;have hval:∀(j:Nat) t v,f14.params[j]? = some t->args[j]? = some v->Value.okWide prog W .any base t v:=hval0;have hW':=hW;obtain⟨p,q,hA0,hV,rfl,_,_⟩:=hW;have hA:DataW.TrodAll enc prog W 0 (λ_=>true) true f14.params.toList args.toList ds p:=hA0;rw[params14]at hA hval;obtain⟨rfl,rfl⟩:=trodVars_none hV;obtain⟨args⟩:=args;obtain⟨v1,vs1,d1,ds1,_,e1,rfl,h1⟩:=QQX hA;simp only at e1;subst e1;obtain⟨v2,vs2,d2,ds2,_,e2,rfl,h2⟩:=QQX h1;subst e2;obtain⟨e0,rfl⟩:=QYW h2;subst e0;obtain⟨_,hT1⟩:=QSH hA
 obtain⟨x1,L1,hL1⟩:=QSX (hval 0 _ v1 rfl rfl) hT1;obtain⟨_,hT2⟩:=QSH h1;obtain⟨x2,L2,hr2,hL2⟩:=QfS (hval 1 _ v2 rfl rfl) hT2;simp only[List.append_nil]at hW';have hstay:=λ(W':World) (hg:Fr W W' (λ_=>False)) (sp:Nat->Bool) (hs:∀ q∈p,sp q.block=true)=>QLS (enc:=enc) (sp:=sp) QZZ hg _ _ _ _ (by kernel_rfl) hA hs
 clear hA0 hval0
 let rr:Nat->Go.SX.Loc:=λi=>match i with
  | 0=>L1
  | _=>L2
 have g1:=hL1 0 rr rfl;have g2:=hL2 1 rr rfl
 have hblk:∀ q∈Qd.blks 0 ((x1,x2,()):Puz×Rc Pt×Unit),QM rr q.1 W q.2:=by
  intro q hq
  have hq:q∈Qi.blk 0 x1∨q∈Qi.blk 1 x2:=by
   have e:Qd.blks 0 ((x1,x2,()):Puz×Rc Pt×Unit)=Qi.blk 0 x1++Qi.blk 1 x2:=by first|rfl|simp[Qd.blks,Qi.blk]
   rw[e]at hq;simpa only [List.mem_append,or_assoc]using hq
  rcases hq with hq|hq
  .exact g1.2 q hq
  .exact g2.2 q hq
 have hrun:=QaA (zd X4) func14 (c:=Qk f14) (by kernel_rfl) QUI QTU (x1,x2,()) (qde hr2) (r:=rr) (w:=W) (u := .bool true) rfl hblk (λ_=>rfl)
 have hargs:(AV.denL rr (Qd.vals 0 ((x1,x2,()):Puz×Rc Pt×Unit)))=[v1,v2]:=by
  rw[<-g1.1,<-g2.1];rfl
 rw[hargs]at hrun;refine hrun.mono ?_;rintro e W' ⟨he,hg⟩;exact⟨_,he,QZa (pa:=p) (pv:=[]) hW' (λ_ _ _=>Qab) (λsp hsp=>hstay W' hg sp (λq hq=>hsp q hq)) (λ_ _=>rfl) hg⟩
theorem solveOwns_holds:Rows.SolveOwnsSaid:=
 OpenClaim.holds_of_wide 14 f14 rfl rfl rfl rfl rfl rfl rfl ⟨rfl,rfl,rfl,rfl,rfl⟩ rfl rfl rfl rfl rfl (by kernel_rfl) func14 (by kernel_rfl)
  (qdt (by kernel_rfl)) (by unfold Func.isWrapper;first|(rw[if_pos (by decide +kernel)];kernel_rfl)|(rw[if_neg (by decide +kernel)];exact⟨rfl,rfl⟩))
  (λos started H enc _=>Qec os started H enc)
#print axioms solveOwns_holds
