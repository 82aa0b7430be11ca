/- The law ScanOwn answers true at every input. No condition. -/
import Derived.Test.YtbpffdkemeoajaaMvzk
import Derived.Test.YtbpffdkemeoajaaMvzm
import Derived.Test.YtbpffdkemeoajaaMvzo
set_option maxRecDepth 100000
namespace Go.Proofs.Ytbpffdkemeoajaa
open Go.SX Go.RowKit Go.ChangeShapes Go.WideShapes Go.ChangeAt
theorem QVb{w:World}{r:Reach}{base:Nat}{v:Value}(h:Value.okWide Try.prog w r base 77 v):∃ x:Qj,(∀ r,v=(Enc.enc x).den r)∧0≤x.n∧x.n≤4294967295:=by
 obtain⟨n,rfl,h1,h2⟩:=QOW Try.underlying77 h;exact⟨⟨n⟩,fun _=>rfl,h1,h2⟩
theorem QPI:laidOutB Try.prog=true:=by kernel_rfl
set_option maxHeartbeats 4000000 in
theorem QUU(os:Os)(started:os.Started)(H:Type)(enc:TypeId×Value→H):
  ReturnsInHanded {} Try.checked os 8 .any (Rows.scanOwnSpec.pre6 enc Try.prog Try.f8 Rows.scanOwnRow.domain false) (Rows.scanOwnSpec.post enc Try.prog Try.f8 false true false false):=by
 refine returnsInHanded_of_change (C:=Try.checked) own started (by kernel_rfl) Try.func8
  (ChangeSpec.witness6 (enc:=enc) (C:=Try.checked) false ⟨#[],#[.agg #[.int .i64 0,.int .i64 0,.int .i64 0,.int .i64 0,.int .i64 0,.int .i64 0,.int .i64 0,.bool false,.slice none 0 0],.int .u32 0],[]⟩ 8 (by kernel_rfl) (by kernel_rfl) (by kernel_rfl) (by kernel_rfl)) ?_
 intro W base args ds gs before hval0 hW _ _;have hval:∀(j:Nat) t v,Try.f8.params[j]? = some t→args[j]? = some v→Value.okWide Try.prog W .any base t v:=hval0;have hW':=hW;obtain⟨p,q,hA0,hV,rfl,_,_⟩:=hW;have hA:DataW.TrodAll enc Try.prog W 0 (fun _=>true) true Try.f8.params.toList args.toList ds p:=hA0;rw[Try.params8]at hA hval;obtain⟨rfl,rfl⟩:=trodVars_none hV;obtain⟨args⟩:=args;obtain⟨v1,vs1,d1,ds1,_,e1,rfl,h1⟩:=QHv hA;simp only at e1;subst e1;obtain⟨v2,vs2,d2,ds2,_,e2,rfl,h2⟩:=QHv h1;subst e2;obtain⟨e0,rfl⟩:=QRI h2;subst e0;obtain⟨x2,hx2,y2,z2⟩:=QVb (hval 1 _ v2 rfl rfl)
 obtain⟨_,hT1⟩:=QM9 hA;obtain⟨x1,L1,hL1⟩:=QQM (hval 0 _ v1 rfl rfl) hT1;simp only[List.append_nil]at hW';have hstay:=fun(W':World) (hg:Fr W W' (fun _=>False)) (sp:Nat→Bool) (hs:∀ q∈p,sp q.block=true)=>QLv (enc:=enc) (sp:=sp) QPI hg _ _ _ _ (by kernel_rfl) hA hs
 clear hA0 hval0
 let rr:Nat→Go.SX.Loc:=fun i=>match i with
  | _=>L1
 have g1:=hL1 0 rr rfl
 have hblk:∀ q∈QU.blks 0 ((x1,x2,()):Puz×Qj×Unit),QJ rr q.1 W q.2:=by
  intro q hq
  have hq:q∈Qz.blk 0 x1:=by
   have e:QU.blks 0 ((x1,x2,()):Puz×Qj×Unit)=Qz.blk 0 x1:=by first|rfl|simp[QU.blks,Qz.blk]
   rw[e]at hq;simpa only [List.mem_append,or_assoc]using hq
  exact g1.2 q hq
 have hrun:=QNl (Xl YU) Try.func8 (c:=Qr Try.f8) (by kernel_rfl) QV9 QVh (x1,x2,()) (rfl) (r:=rr) (w:=W) (u := .bool true) rfl hblk (fun _=>rfl)
 have hargs:(AV.denL rr (QU.vals 0 ((x1,x2,()):Puz×Qj×Unit)))=[v1,v2]:=by
  rw[hx2 rr,←g1.1];rfl
 rw[hargs]at hrun;refine hrun.mono ?_;rintro e W' ⟨he,hg⟩;exact⟨_,he,QRn (pa:=p) (pv:=[]) hW' (fun _ _ _=>QQq) (fun sp hsp=>hstay W' hg sp (fun q hq=>hsp q hq)) (fun _ _=>rfl) hg⟩
theorem scanOwn_holds:Rows.ScanOwnSaid:=
 OpenClaim.holds_of_wide 8 Try.f8 rfl rfl rfl rfl rfl rfl rfl ⟨rfl,rfl,rfl,rfl,rfl⟩ rfl rfl rfl rfl rfl (by kernel_rfl) Try.func8 (by kernel_rfl)
  (qdt (by kernel_rfl)) (by unfold Func.isWrapper;first|(rw[if_pos (by decide +kernel)];kernel_rfl)|(rw[if_neg (by decide +kernel)];exact⟨rfl,rfl⟩))
  (fun os started H enc _=>QUU os started H enc)
#print axioms scanOwn_holds
end Go.Proofs.Ytbpffdkemeoajaa
