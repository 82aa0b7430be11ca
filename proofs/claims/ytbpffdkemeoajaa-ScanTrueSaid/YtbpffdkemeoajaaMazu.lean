/- The law ScanTrue answers true at every input. No condition. -/
import Derived.Test.YtbpffdkemeoajaaMazp
import Derived.Test.YtbpffdkemeoajaaMazr
import Derived.Test.YtbpffdkemeoajaaMazt
set_option maxRecDepth 100000
namespace Go.SX
open Go Go.RowKit Go.Proofs.Ytbpffdkemeoajaa
theorem QV4{E:Env}(hE:E.Sound){f:FuncId}{fn:Func}{c:Code}(hf:E.P.funcs[f]? = some fn)(hb:fn.body=some c){α:Type}[QX α]{N:Nat}{H:Hnd}{F:WF α}(x:α)(hl:∀ G:Ctx,G.rd=none→G.n=N→KH E G H c)(hw:WOk (F x).2.1 (F x).2.2)(hF:XE (XG N (F x).2.1 (F x).2.2) (Kc E H fn (QX.vals 0 x) (QX.blks 0 x) N))(hx:(F x).1=true){r:Nat→Go.SX.Loc}{w:World}{u:Value}(hv:QAp N (QX.vals 0 x) (QX.blks 0 x)=true)(hr:∀ q∈QX.blks 0 x,QP r q.1 w q.2)(hu:∀ r',((F x).2.1.mapId (·+N)).den r'=u):
  Calls E.P f (AV.denL r (QX.vals 0 x)).toArray w fun e w'=>e = .returned u∧Fr w w' (fun _=>False):=by
 refine QdX (H:=fun _=>H) hE hf hb (F:=Jq F x) ⟨fun y _ G h1 h2=>hl G h1 h2⟩ ⟨fun y hy => ?_⟩ x ?_ hv hr hu
 ·obtain⟨rfl,_⟩:=QRE hy;exact⟨hw,hF⟩
 ·show(QS [x=x]&&(F x).1)=true;rw[hx,Q4.2 (show KJ [x=x]from⟨rfl,trivial⟩)];rfl
end Go.SX
namespace Go.Proofs.Ytbpffdkemeoajaa
open Go.SX Go.RowKit Go.ChangeShapes Go.WideShapes Go.ChangeAt
def QJH:WF (Puz×QG×Rw QO×Unit):=fun _=>(true,.bool false true,[])
theorem Qbf:laidOutB Try.prog=true:=by kernel_rfl
set_option maxHeartbeats 4000000 in
theorem QYh(os:Os)(started:os.Started)(H:Type)(enc:TypeId×Value→H):
  ReturnsInHanded {} Try.checked os 5 .any (Rows.scanTrueSpec.pre6 enc Try.prog Try.f5 Rows.scanTrueRow.domain false) (Rows.scanTrueSpec.post enc Try.prog Try.f5 false true false false):=by
 refine returnsInHanded_of_change (C:=Try.checked) own started (by kernel_rfl) Try.func5
  (ChangeSpec.witness6 (enc:=enc) (C:=Try.checked) false ⟨#[],#[.agg #[.int .i64 0,.int .i64 0,.int .i64 0,.int .i64 0,.int .i64 0,.int .i64 0,.int .i64 0,.bool false,.slice none 0 0],.agg #[.int .i64 0,.int .i64 0,.int .i64 0,.int .i64 0,.int .i64 0,.int .i64 0,.int .i64 0,.int .i64 0,.int .i64 0,.int .i64 0,.int .i64 0,.int .i64 0,.int .i64 0,.int .i64 0,.int .i64 0,.int .i64 0,.int .i64 0,.int .i64 0,.int .i64 0,.int .i64 0,.int .i64 0,.int .i64 0,.int .i64 0,.int .i64 0,.int .i64 0,.int .i64 0,.int .i64 0,.int .i64 0],.slice none 0 0],[]⟩ 8 (by kernel_rfl) (by kernel_rfl) (by kernel_rfl) (by kernel_rfl)) ?_
 intro W base args ds gs before hval0 hW _ _;have hval:∀(j:Nat) t v,Try.f5.params[j]? = some t→args[j]? = some v→Value.okWide Try.prog W .any base t v:=hval0;have hW':=hW;obtain⟨p,q,hA0,hV,rfl,_,_⟩:=hW;have hA:DataW.TrodAll enc Try.prog W 0 (fun _=>true) true Try.f5.params.toList args.toList ds p:=hA0;rw[Try.params5]at hA hval;obtain⟨rfl,rfl⟩:=trodVars_none hV;obtain⟨args⟩:=args;obtain⟨v1,vs1,d1,ds1,_,e1,rfl,h1⟩:=QHJ hA;simp only at e1;subst e1;obtain⟨v2,vs2,d2,ds2,_,e2,rfl,h2⟩:=QHJ h1;subst e2;obtain⟨v3,vs3,d3,ds3,_,e3,rfl,h3⟩:=QHJ h2;subst e3;obtain⟨e0,rfl⟩:=QaM h3;subst e0
 obtain⟨x2,rfl⟩:=QRu (hval 1 _ v2 rfl rfl);obtain⟨_,hT1⟩:=QNB hA;obtain⟨x1,L1,hL1⟩:=QRl (hval 0 _ v1 rfl rfl) hT1;obtain⟨_,hT3⟩:=QNB h2;obtain⟨x3,L3,hL3⟩:=QMj (α:=QO) (m:=5) Try.underlying58 (by kernel_rfl) (by kernel_rfl) (hval 2 _ v3 rfl rfl) hT3
 simp only[List.append_nil]at hW';have hstay:=fun(W':World) (hg:Fr W W' (fun _=>False)) (sp:Nat→Bool) (hs:∀ q∈p,sp q.block=true)=>QIM (enc:=enc) (sp:=sp) Qbf hg _ _ _ _ (by kernel_rfl) hA hs
 clear hA0 hval0
 let rr:Nat→Go.SX.Loc:=fun i=>match i with
  | 0=>L1
  | _=>L3
 have g1:=hL1 0 rr rfl;have g3:=hL3 2 rr rfl
 have hblk:∀ q∈QX.blks 0 ((x1,x2,x3,()):Puz×QG×Rw QO×Unit),QP rr q.1 W q.2:=by
  intro q hq
  have hq:q∈Q3.blk 0 x1∨q∈Q3.blk 2 x3:=by
   have e:QX.blks 0 ((x1,x2,x3,()):Puz×QG×Rw QO×Unit)=Q3.blk 0 x1++Q3.blk 2 x3:=by first|rfl|simp[QX.blks,Q3.blk]
   rw[e]at hq;simpa only [List.mem_append,or_assoc]using hq
  rcases hq with hq|hq
  ·exact g1.2 q hq
  ·exact g3.2 q hq
 have hrun:=QV4 (XK (QNu x1 x3 (xF x1 x2 x3))) Try.func5 (c:=Qr Try.f5) (by kernel_rfl) (F:=QJH) (x1,x2,x3,()) (fun G h1 h2=>QTt x1 x2 x3 G h1 h2) ⟨rfl,by simp[QJH],rfl⟩ (QZf x1 x2 x3 _ _ _ _ _ _ _ QXB) rfl (r:=rr) (w:=W) (u := .bool true) rfl hblk (fun _=>rfl)
 have hargs:(AV.denL rr (QX.vals 0 ((x1,x2,x3,()):Puz×QG×Rw QO×Unit)))=[v1,(Enc.enc x2).den r0,v3]:=by
  rw[←g1.1,←g3.1];rfl
 rw[hargs]at hrun;refine hrun.mono ?_;rintro e W' ⟨he,hg⟩;exact⟨_,he,Qc4 (pa:=p) (pv:=[]) hW' (fun _ _ _=>QYx) (fun sp hsp=>hstay W' hg sp (fun q hq=>hsp q hq)) (fun _ _=>rfl) hg⟩
theorem scanTrue_holds:Rows.ScanTrueSaid:=
 OpenClaim.holds_of_wide 5 Try.f5 rfl rfl rfl rfl rfl rfl rfl ⟨rfl,rfl,rfl,rfl,rfl⟩ rfl rfl rfl rfl rfl (by kernel_rfl) Try.func5 (by kernel_rfl)
  (qdt (by kernel_rfl)) (by unfold Func.isWrapper;first|(rw[if_pos (by decide +kernel)];kernel_rfl)|(rw[if_neg (by decide +kernel)];exact⟨rfl,rfl⟩))
  (fun os started H enc _=>QYh os started H enc)
#print axioms scanTrue_holds
end Go.Proofs.Ytbpffdkemeoajaa
