/- The law ScanOwns answers true at every input. No condition. -/
import Derived.Test.YtbpffdkemeoajaaMwzo
import Derived.Test.YtbpffdkemeoajaaMwzq
import Derived.Test.YtbpffdkemeoajaaMwzs
set_option maxRecDepth 100000
namespace Go.Proofs.Ytbpffdkemeoajaa
open Go.SX Go.RowKit Go.ChangeShapes Go.WideShapes Go.ChangeAt
theorem QVL:laidOutB Try.prog=true:=by kernel_rfl
set_option maxHeartbeats 4000000 in
theorem QZi(os:Os)(started:os.Started)(H:Type)(enc:TypeId×Value→H):
  ReturnsInHanded {} Try.checked os 11 .any (Rows.scanOwnsSpec.pre6 enc Try.prog Try.f11 Rows.scanOwnsRow.domain false) (Rows.scanOwnsSpec.post enc Try.prog Try.f11 false true false false):=by
 refine returnsInHanded_of_change (C:=Try.checked) own started (by kernel_rfl) Try.func11
  (ChangeSpec.witness6 (enc:=enc) (C:=Try.checked) false ⟨#[],#[.agg #[.int .i64 0,.int .i64 0,.int .i64 0,.int .i64 0,.int .i64 0,.int .i64 0,.int .i64 0,.bool false,.slice none 0 0,.slice none 0 0,.slice none 0 0,.int .i64 0,.int .i64 0]],[]⟩ 8 (by kernel_rfl) (by kernel_rfl) (by kernel_rfl) (by kernel_rfl)) ?_
 intro W base args ds gs before hval0 hW _ _;have hval:∀(j:Nat) t v,Try.f11.params[j]? = some t→args[j]? = some v→Value.okWide Try.prog W .any base t v:=hval0;have hW':=hW;obtain⟨p,q,hA0,hV,rfl,_,_⟩:=hW;have hA:DataW.TrodAll enc Try.prog W 0 (fun _=>true) true Try.f11.params.toList args.toList ds p:=hA0;rw[Try.params11]at hA hval;obtain⟨rfl,rfl⟩:=trodVars_none hV;obtain⟨args⟩:=args;obtain⟨v1,vs1,d1,ds1,_,e1,rfl,h1⟩:=QU8 hA;simp only at e1;subst e1;obtain⟨e0,rfl⟩:=QPE h1;subst e0;obtain⟨_,hT1⟩:=QVc hA;obtain⟨x1,L1a,L1b,L1c,hL1⟩:=QPu (hval 0 _ v1 rfl rfl) hT1
 simp only[List.append_nil]at hW';have hstay:=fun(W':World) (hg:Fr W W' (fun _=>False)) (sp:Nat→Bool) (hs:∀ q∈p,sp q.block=true)=>QMj (enc:=enc) (sp:=sp) QVL hg _ _ _ _ (by kernel_rfl) hA hs
 clear hA0 hval0
 let rr:Nat→Go.SX.Loc:=fun i=>match i with
  | 0=>L1a
  | 1=>L1b
  | _=>L1c
 have g1:=hL1 0 rr rfl rfl rfl
 have hblk:∀ q∈QX.blks 0 ((x1,()):QE×Unit),QM rr q.1 W q.2:=by
  intro q hq
  have hq:q∈JY 0 x1:=by
   have e:QX.blks 0 ((x1,()):QE×Unit)=JY 0 x1:=by first|rfl|simp[QX.blks,Qw.blk]
   rw[e]at hq;simpa only [List.mem_append,or_assoc]using hq
  exact g1.2 q hq
 have hrun:=QVB (Yp VU) Try.func11 (c:=Qo Try.f11) (by kernel_rfl) QV6 QUg (x1,()) (rfl) (r:=rr) (w:=W) (u := .bool true) rfl hblk (fun _=>rfl)
 have hargs:(AV.denL rr (QX.vals 0 ((x1,()):QE×Unit)))=[v1]:=by
  rw[←g1.1];rfl
 rw[hargs]at hrun;refine hrun.mono ?_;rintro e W' ⟨he,hg⟩;exact⟨_,he,QPZ (pa:=p) (pv:=[]) hW' (fun _ _ _=>QVe) (fun sp hsp=>hstay W' hg sp (fun q hq=>hsp q hq)) (fun _ _=>rfl) hg⟩
theorem scanOwns_holds:Rows.ScanOwnsSaid:=
 OpenClaim.holds_of_wide 11 Try.f11 rfl rfl rfl rfl rfl rfl rfl ⟨rfl,rfl,rfl,rfl,rfl⟩ rfl rfl rfl rfl rfl (by kernel_rfl) Try.func11 (by kernel_rfl)
  (qdt (by kernel_rfl)) (by unfold Func.isWrapper;first|(rw[if_pos (by decide +kernel)];kernel_rfl)|(rw[if_neg (by decide +kernel)];exact⟨rfl,rfl⟩))
  (fun os started H enc _=>QZi os started H enc)
#print axioms scanOwns_holds
end Go.Proofs.Ytbpffdkemeoajaa
