/- The law ScanMore answers true at every input. No condition. -/
import Derived.Test.YtbpffdkemeoajaaMozk
import Derived.Test.YtbpffdkemeoajaaMozm
import Derived.Test.YtbpffdkemeoajaaMozo
set_option maxRecDepth 100000
namespace Go.Proofs.Ytbpffdkemeoajaa
open Go.SX Go.RowKit Go.ChangeShapes Go.WideShapes Go.ChangeAt
theorem QGS{w:World}{r:Reach}{base:Nat}{v:Value}(h:Value.okWide Try.prog w r base 5 v):∃ x:U8n,(∀ r,v=(Enc.enc x).den r)∧0≤x.n∧x.n≤255:=by
 obtain⟨n,rfl,h1,h2⟩:=QSL Try.underlying5 h;exact⟨⟨n⟩,fun _=>rfl,h1,h2⟩
theorem QQG:laidOutB Try.prog=true:=by kernel_rfl
set_option maxHeartbeats 4000000 in
theorem QOt(os:Os)(started:os.Started)(H:Type)(enc:TypeId×Value→H):
  ReturnsInHanded {} Try.checked os 9 .any (Rows.scanMoreSpec.pre6 enc Try.prog Try.f9 Rows.scanMoreRow.domain false) (Rows.scanMoreSpec.post enc Try.prog Try.f9 false true false false):=by
 refine returnsInHanded_of_change (C:=Try.checked) own started (by kernel_rfl) Try.func9
  (ChangeSpec.witness6 (enc:=enc) (C:=Try.checked) false ⟨#[],#[.agg #[.int .i64 0,.int .i64 0,.int .i64 0,.int .i64 0,.int .i64 0,.int .i64 0,.int .i64 0,.bool false,.slice none 0 0,.slice none 0 0,.slice none 0 0,.int .i64 0,.int .i64 0],.int .u8 0,.int .u8 0],[]⟩ 8 (by kernel_rfl) (by kernel_rfl) (by kernel_rfl) (by kernel_rfl)) ?_
 intro W base args ds gs before hval0 hW _ _;have hval:∀(j:Nat) t v,Try.f9.params[j]? = some t→args[j]? = some v→Value.okWide Try.prog W .any base t v:=hval0;have hW':=hW;obtain⟨p,q,hA0,hV,rfl,_,_⟩:=hW;have hA:DataW.TrodAll enc Try.prog W 0 (fun _=>true) true Try.f9.params.toList args.toList ds p:=hA0;rw[Try.params9]at hA hval;obtain⟨rfl,rfl⟩:=trodVars_none hV;obtain⟨args⟩:=args;obtain⟨v1,vs1,d1,ds1,_,e1,rfl,h1⟩:=QBK hA;simp only at e1;subst e1;obtain⟨v2,vs2,d2,ds2,_,e2,rfl,h2⟩:=QBK h1;subst e2;obtain⟨v3,vs3,d3,ds3,_,e3,rfl,h3⟩:=QBK h2;subst e3;obtain⟨e0,rfl⟩:=QQb h3;subst e0
 obtain⟨x2,hx2,y2,z2⟩:=QGS (hval 1 _ v2 rfl rfl);obtain⟨x3,hx3,y3,z3⟩:=QGS (hval 2 _ v3 rfl rfl);obtain⟨_,hT1⟩:=QNT hA;obtain⟨x1,L1a,L1b,L1c,hL1⟩:=QQd (hval 0 _ v1 rfl rfl) hT1;simp only[List.append_nil]at hW';have hstay:=fun(W':World) (hg:Fr W W' (fun _=>False)) (sp:Nat→Bool) (hs:∀ q∈p,sp q.block=true)=>QKr (enc:=enc) (sp:=sp) QQG hg _ _ _ _ (by kernel_rfl) hA hs
 clear hA0 hval0
 let rr:Nat→Go.SX.Loc:=fun i=>match i with
  | 0=>L1a
  | 1=>L1b
  | _=>L1c
 have g1:=hL1 0 rr rfl rfl rfl
 have hblk:∀ q∈QY.blks 0 ((x1,x2,x3,()):QB×U8n×U8n×Unit),QJ rr q.1 W q.2:=by
  intro q hq
  have hq:q∈JN 0 x1:=by
   have e:QY.blks 0 ((x1,x2,x3,()):QB×U8n×U8n×Unit)=JN 0 x1:=by first|rfl|simp[QY.blks,Q4.blk]
   rw[e]at hq;simpa only [List.mem_append,or_assoc]using hq
  exact g1.2 q hq
 have hrun:=QPn (V5 Xi) Try.func9 (c:=Qr Try.f9) (by kernel_rfl) QT2 QTA (x1,x2,x3,()) (decide_eq_true ⟨⟨y2,z2⟩,y3,z3⟩) (r:=rr) (w:=W) (u := .bool true) rfl hblk (fun _=>rfl)
 have hargs:(AV.denL rr (QY.vals 0 ((x1,x2,x3,()):QB×U8n×U8n×Unit)))=[v1,v2,v3]:=by
  rw[hx2 rr,hx3 rr,←g1.1];rfl
 rw[hargs]at hrun;refine hrun.mono ?_;rintro e W' ⟨he,hg⟩;exact⟨_,he,QPw (pa:=p) (pv:=[]) hW' (fun _ _ _=>QQx) (fun sp hsp=>hstay W' hg sp (fun q hq=>hsp q hq)) (fun _ _=>rfl) hg⟩
theorem scanMore_holds:Rows.ScanMoreSaid:=
 OpenClaim.holds_of_wide 9 Try.f9 rfl rfl rfl rfl rfl rfl rfl ⟨rfl,rfl,rfl,rfl,rfl⟩ rfl rfl rfl rfl rfl (by kernel_rfl) Try.func9 (by kernel_rfl)
  (qdt (by kernel_rfl)) (by unfold Func.isWrapper;first|(rw[if_pos (by decide +kernel)];kernel_rfl)|(rw[if_neg (by decide +kernel)];exact⟨rfl,rfl⟩))
  (fun os started H enc _=>QOt os started H enc)
#print axioms scanMore_holds
end Go.Proofs.Ytbpffdkemeoajaa
