/- The law ScanForced answers true at every input. No condition. -/
import Derived.Test.YtbpffdkemeoajaaMfzo
import Derived.Test.YtbpffdkemeoajaaMfzq
import Derived.Test.YtbpffdkemeoajaaMfzs
set_option maxRecDepth 100000
namespace Go.Proofs.Ytbpffdkemeoajaa
open Go.SX Go.RowKit Go.ChangeShapes Go.WideShapes Go.ChangeAt
theorem QUh:laidOutB Try.prog=true:=by kernel_rfl
set_option maxHeartbeats 4000000 in
theorem QZQ(os:Os)(started:os.Started)(H:Type)(enc:TypeId×Value→H):
  ReturnsInHanded {} Try.checked os 6 .any (Rows.scanForcedSpec.pre6 enc Try.prog Try.f6 Rows.scanForcedRow.domain false) (Rows.scanForcedSpec.post enc Try.prog Try.f6 false true false false):=by
 refine returnsInHanded_of_change (C:=Try.checked) own started (by kernel_rfl) Try.func6
  (ChangeSpec.witness6 (enc:=enc) (C:=Try.checked) false ⟨#[],#[.agg #[.int .i64 0,.int .i64 0,.int .i64 0,.int .i64 0,.int .i64 0,.int .i64 0,.int .i64 0,.bool false,.slice none 0 0,.slice none 0 0,.slice none 0 0,.int .i64 0,.int .i64 0]],[]⟩ 8 (by kernel_rfl) (by kernel_rfl) (by kernel_rfl) (by kernel_rfl)) ?_
 intro W base args ds gs before hval0 hW _ _;have hval:∀(j:Nat) t v,Try.f6.params[j]? = some t→args[j]? = some v→Value.okWide Try.prog W .any base t v:=hval0;have hW':=hW;obtain⟨p,q,hA0,hV,rfl,_,_⟩:=hW;have hA:DataW.TrodAll enc Try.prog W 0 (fun _=>true) true Try.f6.params.toList args.toList ds p:=hA0;rw[Try.params6]at hA hval;obtain⟨rfl,rfl⟩:=trodVars_none hV;obtain⟨args⟩:=args;obtain⟨v1,vs1,d1,ds1,_,e1,rfl,h1⟩:=QWP hA;simp only at e1;subst e1;obtain⟨e0,rfl⟩:=QQT h1;subst e0;obtain⟨_,hT1⟩:=QSu hA;obtain⟨x1,L1a,L1b,L1c,hL1⟩:=QT1 (hval 0 _ v1 rfl rfl) hT1
 simp only[List.append_nil]at hW';have hstay:=fun(W':World) (hg:Fr W W' (fun _=>False)) (sp:Nat→Bool) (hs:∀ q∈p,sp q.block=true)=>QMS (enc:=enc) (sp:=sp) QUh hg _ _ _ _ (by kernel_rfl) hA hs
 clear hA0 hval0
 let rr:Nat→Go.SX.Loc:=fun i=>match i with
  | 0=>L1a
  | 1=>L1b
  | _=>L1c
 have g1:=hL1 0 rr rfl rfl rfl
 have hblk:∀ q∈QV.blks 0 ((x1,()):QE×Unit),QN rr q.1 W q.2:=by
  intro q hq
  have hq:q∈Jd 0 x1:=by
   have e:QV.blks 0 ((x1,()):QE×Unit)=Jd 0 x1:=by first|rfl|simp[QV.blks,Q7.blk]
   rw[e]at hq;simpa only [List.mem_append,or_assoc]using hq
  exact g1.2 q hq
 have hrun:=QVg (Jt YB) Try.func6 (c:=Qs Try.f6) (by kernel_rfl) QZr QYG (x1,()) (rfl) (r:=rr) (w:=W) (u := .bool true) rfl hblk (fun _=>rfl)
 have hargs:(AV.denL rr (QV.vals 0 ((x1,()):QE×Unit)))=[v1]:=by
  rw[←g1.1];rfl
 rw[hargs]at hrun;refine hrun.mono ?_;rintro e W' ⟨he,hg⟩;exact⟨_,he,QZI (pa:=p) (pv:=[]) hW' (fun _ _ _=>QUw) (fun sp hsp=>hstay W' hg sp (fun q hq=>hsp q hq)) (fun _ _=>rfl) hg⟩
theorem scanForced_holds:Rows.ScanForcedSaid:=
 OpenClaim.holds_of_wide 6 Try.f6 rfl rfl rfl rfl rfl rfl rfl ⟨rfl,rfl,rfl,rfl,rfl⟩ rfl rfl rfl rfl rfl (by kernel_rfl) Try.func6 (by kernel_rfl)
  (qdt (by kernel_rfl)) (by unfold Func.isWrapper;first|(rw[if_pos (by decide +kernel)];kernel_rfl)|(rw[if_neg (by decide +kernel)];exact⟨rfl,rfl⟩))
  (fun os started H enc _=>QZQ os started H enc)
#print axioms scanForced_holds
end Go.Proofs.Ytbpffdkemeoajaa
