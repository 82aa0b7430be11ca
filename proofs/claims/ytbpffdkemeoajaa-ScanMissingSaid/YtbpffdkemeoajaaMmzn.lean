/- The law ScanMissing answers true at every input. No condition. -/
import Derived.Test.YtbpffdkemeoajaaMmzi
import Derived.Test.YtbpffdkemeoajaaMmzk
import Derived.Test.YtbpffdkemeoajaaMmzm
set_option maxRecDepth 100000
namespace Go.Proofs.Ytbpffdkemeoajaa
open Go.SX Go.RowKit Go.ChangeShapes Go.WideShapes Go.ChangeAt
theorem QTI:laidOutB Try.prog=true:=by kernel_rfl
set_option maxHeartbeats 4000000 in
theorem QOg (os:Os) (started:os.Started) (H:Type) (enc:TypeId×Value→H) :
  ReturnsInHanded {} Try.checked os 7 .any (Rows.scanMissingSpec.pre6 enc Try.prog Try.f7 Rows.scanMissingRow.domain false) (Rows.scanMissingSpec.post enc Try.prog Try.f7 false true false false):=by
 refine returnsInHanded_of_change (C:=Try.checked) own started (by kernel_rfl) Try.func7
  (ChangeSpec.witness6 (enc:=enc) (C:=Try.checked) false ⟨#[],#[.agg #[.int .i64 0,.int .i64 0,.int .i64 0,.int .i64 0,.int .i64 0,.int .i64 0,.int .i64 0,.bool false,.slice none 0 0,.slice none 0 0,.slice none 0 0,.int .i64 0,.int .i64 0]],[]⟩ 8 (by kernel_rfl) (by kernel_rfl) (by kernel_rfl) (by kernel_rfl)) ?_
 intro W base args ds gs before hval0 hW _ _
 have hval:∀ (j:Nat) t v,Try.f7.params[j]? = some t→args[j]? = some v→Value.okWide Try.prog W .any base t v:=hval0
 have hW':=hW
 obtain ⟨p,q,hA0,hV,rfl,_,_⟩:=hW
 have hA:DataW.TrodAll enc Try.prog W 0 (fun _=>true) true Try.f7.params.toList args.toList ds p:=hA0
 rw [Try.params7] at hA hval
 obtain ⟨rfl,rfl⟩:=trodVars_none hV
 obtain ⟨args⟩:=args
 obtain ⟨v1,vs1,d1,ds1,_,e1,rfl,h1⟩:=QMl hA
 simp only at e1;subst e1
 obtain ⟨e0,rfl⟩:=QMV h1
 subst e0
 obtain ⟨_,hT1⟩:=QPs hA
 obtain ⟨x1,L1a,L1b,L1c,hL1⟩:=QQK (hval 0 _ v1 rfl rfl) hT1
 simp only [List.append_nil] at hW'
 have hstay:=fun (W':World) (hg:Fr W W' (fun _=>False)) (sp:Nat→Bool) (hs:∀ q∈p,sp q.block=true)=>QI5 (enc:=enc) (sp:=sp) QTI hg _ _ _ _ (by kernel_rfl) hA hs
 clear hA0 hval0
 let rr:Nat→Go.SX.Loc:=fun i=>match i with
  | 0=>L1a
  | 1=>L1b
  | _=>L1c
 have g1:=hL1 0 rr rfl rfl rfl
 have hblk:∀ q∈QS.blks 0 ((x1,()):QE×Unit),QH rr q.1 W q.2:=by
  intro q hq
  have hq:q∈K9 0 x1:=by
   have e:QS.blks 0 ((x1,()):QE×Unit)=K9 0 x1:=by first|rfl|simp [QS.blks,Qy.blk]
   rw [e] at hq
   simpa only [List.mem_append,or_assoc] using hq
  exact g1.2 q hq
 have hrun:=QRP (YY Ww) Try.func7 (c:=Qm Try.f7) (by kernel_rfl) QQ9 QK3 (x1,()) (rfl) (r:=rr) (w:=W) (u := .bool true) rfl hblk (fun _=>rfl)
 have hargs:(AV.denL rr (QS.vals 0 ((x1,()):QE×Unit)))=[v1]:=by
  rw [←g1.1]
  rfl
 rw [hargs] at hrun
 refine hrun.mono ?_
 rintro e W' ⟨he,hg⟩
 exact ⟨_,he,QTp (pa:=p) (pv:=[]) hW' (fun _ _ _=>QOQ) (fun sp hsp=>hstay W' hg sp (fun q hq=>hsp q hq)) (fun _ _=>rfl) hg⟩
theorem scanMissing_holds:Rows.ScanMissingSaid:=
 OpenClaim.holds_of_wide 7 Try.f7 rfl rfl rfl rfl rfl rfl rfl ⟨rfl,rfl,rfl,rfl,rfl⟩ rfl rfl rfl rfl rfl (by kernel_rfl) Try.func7 (by kernel_rfl)
  (of_decide_eq_true (by kernel_rfl)) (by unfold Func.isWrapper;first|(rw [if_pos (by decide +kernel)];kernel_rfl)|(rw [if_neg (by decide +kernel)];exact ⟨rfl,rfl⟩))
  (fun os started H enc _=>QOg os started H enc)
#print axioms scanMissing_holds
end Go.Proofs.Ytbpffdkemeoajaa
