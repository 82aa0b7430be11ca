/- - -/
import Derived.Test.YtekbmehgcofnkaaGreatVzzd
import Derived.Test.YtekbmehgcofnkaaGreatVzze
set_option linter.all false
open Go.Proofs.Tryz
set_option maxRecDepth 100000
namespace Go.SX
open Go Go.RowKit Go.Proofs.YtekbmehgcofnkaaGreat
theorem QXd{E:Env}(hE:E.Sound){f:FuncId}{fn:Func}{c:Code}(hf:E.P.funcs[f]? = some fn)(hb:fn.body=some c){α:Type}[QZ α]{N:Nat}{H:Hnd}{F:WF α}(x:α)(hl:∀ G:Ctx,G.rd=none->G.n=N->Q0 E G H c)(hw:WOk (F x).2.1 (F x).2.2)(hF:Zn (ZY N (F x).2.1 (F x).2.2) (Kg E H fn (QZ.vals 0 x) (QZ.blks 0 x) N))(hx:(F x).1=true){r:Nat->Go.SX.Loc}{w:World}{u:Value}(hv:QGv N (QZ.vals 0 x) (QZ.blks 0 x)=true)(hr:∀ q∈QZ.blks 0 x,QN r q.1 w q.2)(hu:∀ r',((F x).2.1.mapId (·+N)).den r'=u):
  Calls E.P f (AV.denL r (QZ.vals 0 x)).toArray w λe w'=>e = .returned u/\Fr w w' (λ_=>False):=by
 refine QHy (H:=λ_=>H) hE hf hb (F:=Vl F x) ⟨λy _ G h1 h2=>hl G h1 h2⟩ ⟨λy hy=>?_⟩ x ?_ hv hr hu
 .obtain⟨rfl,_⟩:=QRT hy;exact⟨hw,hF⟩
 .show(QK [x=x]&&(F x).1)=true;rw[hx,KG.2 (show Ka [x=x]from⟨rfl,trivial⟩)];rfl
end Go.SX
namespace Go.Proofs.YtekbmehgcofnkaaGreat
open Go.SX Go.RowKit Go.ChangeShapes Go.WideShapes Go.ChangeAt
theorem laid:laidOutB prog=true:=by kernel_rfl
set_option maxHeartbeats 4000000 in
theorem Qai(os:Os)(started:os.Started)(H:Type)(enc:TypeId×Value->H):
  ReturnsInHanded {} checked os 5 .any (Rows.solveTrueSpec.pre6 enc prog f5 Rows.solveTrueRow.domain false) (Rows.solveTrueSpec.post enc prog f5 false true false false):=by
 refine returnsInHanded_of_change (C:=checked) own started (by kernel_rfl) func5
  (ChangeSpec.witness6 (enc:=enc) (C:=checked) false ⟨#[],#[.agg #[.int .i64 0,.int .i64 0,.int .i64 0,.int .i64 0,.int .i64 0,.int .i64 0,.int .i64 0,.bool false,.slice none 0 0],.slice none 0 0],[]⟩ 8 (by kernel_rfl) (by kernel_rfl) (by kernel_rfl) (by kernel_rfl)) ?_
 intro W base args ds gs before hval0 hW _ _;have hval:∀(j:Nat) t v,f5.params[j]? = some t->args[j]? = some v->Value.okWide prog W .any base t v:=hval0;have hW':=hW;obtain⟨p,q,hA0,hV,rfl,_,_⟩:=hW;have hA:DataW.TrodAll enc prog W 0 (λ_=>true) true f5.params.toList args.toList ds p:=hA0;rw[params5]at hA hval;obtain⟨rfl,rfl⟩:=trodVars_none hV;obtain⟨args⟩:=args;obtain⟨v1,vs1,d1,ds1,_,e1,rfl,h1⟩:=H5 hA;simp only at e1;subst e1;obtain⟨v2,vs2,d2,ds2,_,e2,rfl,h2⟩:=H5 h1;subst e2;obtain⟨e0,rfl⟩:=QGz h2;subst e0;obtain⟨_,hT1⟩:=QCs hA
 obtain⟨x1,L1,hL1⟩:=QHr (hval 0 _ v1 rfl rfl) hT1;obtain⟨_,hT2⟩:=QCs h1;obtain⟨x2,L2,hr2,hL2⟩:=QdL (hval 1 _ v2 rfl rfl) hT2;simp only[List.append_nil]at hW';have hstay:=λ(W':World) (hg:Fr W W' (λ_=>False)) (sp:Nat->Bool) (hs:∀ q∈p,sp q.block=true)=>QD9 (enc:=enc) (sp:=sp) laid hg _ _ _ _ (by kernel_rfl) hA hs
 clear hA0 hval0
 let rr:Nat->Go.SX.Loc:=λi=>match i with
  | 0=>L1
  | _=>L2
 have g1:=hL1 0 rr rfl;have g2:=hL2 1 rr rfl
 have hblk:∀ q∈QZ.blks 0 ((x1,x2,()):Puz×Rw QU×Unit),QN rr q.1 W q.2:=by
  intro q hq
  have hq:q∈Qg.blk 0 x1∨q∈Qg.blk 1 x2:=by
   have e:QZ.blks 0 ((x1,x2,()):Puz×Rw QU×Unit)=Qg.blk 0 x1++Qg.blk 1 x2:=by first|rfl|simp[QZ.blks,Qg.blk]
   rw[e]at hq;simpa only [List.mem_append,or_assoc]using hq
  rcases hq with hq|hq
  .exact g1.2 q hq
  .exact g2.2 q hq
 have hrun:=QXd (F:=tmF) (Zf (QUS x2)) func5 (c:=Qn f5) (by kernel_rfl) (x1,x2,()) (λG h1 h2=>QfD x2 x1 G h1 h2) ⟨rfl,by simp[tmF],rfl⟩ (QcF x2 x1 (QSx hr2)) (QSx hr2) (r:=rr) (w:=W) (u := .bool true) rfl hblk (λ_=>rfl)
 have hargs:(AV.denL rr (QZ.vals 0 ((x1,x2,()):Puz×Rw QU×Unit)))=[v1,v2]:=by
  rw[<-g1.1,<-g2.1];rfl
 rw[hargs]at hrun;refine hrun.mono ?_;rintro e W' ⟨he,hg⟩;exact⟨_,he,QK4 (pa:=p) (pv:=[]) hW' (λ_ _ _=>QIS) (λsp hsp=>hstay W' hg sp (λq hq=>hsp q hq)) (λ_ _=>rfl) hg⟩
theorem solveTrue_holds:Rows.SolveTrueSaid:=
 OpenClaim.holds_of_wide 5 f5 rfl rfl rfl rfl rfl rfl rfl ⟨rfl,rfl,rfl,rfl,rfl⟩ rfl rfl rfl rfl rfl (by kernel_rfl) func5 (by kernel_rfl)
  (qdt (by kernel_rfl)) (by unfold Func.isWrapper;first|(rw[if_pos (by decide +kernel)];kernel_rfl)|(rw[if_neg (by decide +kernel)];exact⟨rfl,rfl⟩))
  (λos started H enc _=>Qai os started H enc)
#print axioms solveTrue_holds
