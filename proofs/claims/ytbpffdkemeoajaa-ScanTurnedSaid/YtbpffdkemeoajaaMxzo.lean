/- The law ScanTurned answers true at every input. No condition. -/
import Derived.Test.YtbpffdkemeoajaaMxzj
import Derived.Test.YtbpffdkemeoajaaMxzl
import Derived.Test.YtbpffdkemeoajaaMxzn
set_option maxRecDepth 100000
namespace Go.Proofs.Ytbpffdkemeoajaa
open Go.SX Go.RowKit Go.ChangeShapes Go.WideShapes Go.ChangeAt
theorem QQO{w:World}{r:Reach}{base:Nat}{v:Value}(h:Value.okWide Try.prog w r base 5 v):∃ x:U8n,(∀ r,v=(Enc.enc x).den r)∧0≤x.n∧x.n≤255:=by
 obtain⟨n,rfl,h1,h2⟩:=QSg Try.underlying5 h;exact⟨⟨n⟩,fun _=>rfl,h1,h2⟩
theorem QVO:laidOutB Try.prog=true:=by kernel_rfl
set_option maxHeartbeats 4000000 in
theorem QVe(os:Os)(started:os.Started)(H:Type)(enc:TypeId×Value→H):
  ReturnsInHanded {} Try.checked os 10 .any (Rows.scanTurnedSpec.pre6 enc Try.prog Try.f10 Rows.scanTurnedRow.domain false) (Rows.scanTurnedSpec.post enc Try.prog Try.f10 false true false false):=by
 refine returnsInHanded_of_change (C:=Try.checked) own started (by kernel_rfl) Try.func10
  (ChangeSpec.witness6 (enc:=enc) (C:=Try.checked) false ⟨#[],#[.agg #[.int .i64 0,.int .i64 0,.int .i64 0,.int .i64 0,.int .i64 0,.int .i64 0,.int .i64 0,.bool false,.slice none 0 0,.slice none 0 0,.slice none 0 0,.int .i64 0,.int .i64 0],.int .u8 0],[]⟩ 8 (by kernel_rfl) (by kernel_rfl) (by kernel_rfl) (by kernel_rfl)) ?_
 intro W base args ds gs before hval0 hW _ _;have hval:∀(j:Nat) t v,Try.f10.params[j]? = some t→args[j]? = some v→Value.okWide Try.prog W .any base t v:=hval0;have hW':=hW;obtain⟨p,q,hA0,hV,rfl,_,_⟩:=hW;have hA:DataW.TrodAll enc Try.prog W 0 (fun _=>true) true Try.f10.params.toList args.toList ds p:=hA0;rw[Try.params10]at hA hval;obtain⟨rfl,rfl⟩:=trodVars_none hV;obtain⟨args⟩:=args;obtain⟨v1,vs1,d1,ds1,_,e1,rfl,h1⟩:=QGB hA;simp only at e1;subst e1;obtain⟨v2,vs2,d2,ds2,_,e2,rfl,h2⟩:=QGB h1;subst e2;obtain⟨e0,rfl⟩:=QVG h2;subst e0;obtain⟨x2,hx2,y2,z2⟩:=QQO (hval 1 _ v2 rfl rfl)
 obtain⟨_,hT1⟩:=QWH hA;obtain⟨x1,L1a,L1b,L1c,hL1⟩:=QSF (hval 0 _ v1 rfl rfl) hT1;simp only[List.append_nil]at hW';have hstay:=fun(W':World) (hg:Fr W W' (fun _=>False)) (sp:Nat→Bool) (hs:∀ q∈p,sp q.block=true)=>QEa (enc:=enc) (sp:=sp) QVO hg _ _ _ _ (by kernel_rfl) hA hs
 clear hA0 hval0
 let rr:Nat→Go.SX.Loc:=fun i=>match i with
  | 0=>L1a
  | 1=>L1b
  | _=>L1c
 have g1:=hL1 0 rr rfl rfl rfl
 have hblk:∀ q∈QS.blks 0 ((x1,x2,()):QD×U8n×Unit),QH rr q.1 W q.2:=by
  intro q hq
  have hq:q∈JP 0 x1:=by
   have e:QS.blks 0 ((x1,x2,()):QD×U8n×Unit)=JP 0 x1:=by first|rfl|simp[QS.blks,Qz.blk]
   rw[e]at hq;simpa only [List.mem_append,or_assoc]using hq
  exact g1.2 q hq
 have hrun:=QQf (X3 Xz) Try.func10 (c:=Qq Try.f10) (by kernel_rfl) QUi QN0 (x1,x2,()) (decide_eq_true ⟨y2,z2⟩) (r:=rr) (w:=W) (u := .bool true) rfl hblk (fun _=>rfl)
 have hargs:(AV.denL rr (QS.vals 0 ((x1,x2,()):QD×U8n×Unit)))=[v1,v2]:=by
  rw[hx2 rr,←g1.1];rfl
 rw[hargs]at hrun;refine hrun.mono ?_;rintro e W' ⟨he,hg⟩;exact⟨_,he,QM3 (pa:=p) (pv:=[]) hW' (fun _ _ _=>QUj) (fun sp hsp=>hstay W' hg sp (fun q hq=>hsp q hq)) (fun _ _=>rfl) hg⟩
theorem scanTurned_holds:Rows.ScanTurnedSaid:=
 OpenClaim.holds_of_wide 10 Try.f10 rfl rfl rfl rfl rfl rfl rfl ⟨rfl,rfl,rfl,rfl,rfl⟩ rfl rfl rfl rfl rfl (by kernel_rfl) Try.func10 (by kernel_rfl)
  (qdt (by kernel_rfl)) (by unfold Func.isWrapper;first|(rw[if_pos (by decide +kernel)];kernel_rfl)|(rw[if_neg (by decide +kernel)];exact⟨rfl,rfl⟩))
  (fun os started H enc _=>QVe os started H enc)
#print axioms scanTurned_holds
end Go.Proofs.Ytbpffdkemeoajaa
