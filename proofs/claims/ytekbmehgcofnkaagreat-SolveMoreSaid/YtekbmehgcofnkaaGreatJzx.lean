/- The law SolveMore answers true at every input: with a greater Slack or Loose each solution stays one,and each join a join; if two pieces change their numbers,there are as many solutions,joins and false joins,and the cells of each are those of the other one. No condition. -/
import Derived.Test.YtekbmehgcofnkaaGreatJzv
import Derived.Test.YtekbmehgcofnkaaGreatJzw
set_option linter.all false
open Go.Proofs.Tryz
set_option maxRecDepth 100000
namespace Go.Proofs.YtekbmehgcofnkaaGreat
open Go.SX Go.RowKit Go.ChangeShapes Go.WideShapes Go.ChangeAt
theorem QJV{w:World}{r:Reach}{base:Nat}{v:Value}(h:Value.okWide prog w r base 5 v):∃ x:U8m,(∀ r,v=(Enc.enc x).den r)/\0<=x.n/\x.n<=255:=by
 obtain⟨n,rfl,h1,h2⟩:=Qer underlying5 h;exact⟨⟨n⟩,λ_=>rfl,h1,h2⟩
theorem Qe8:laidOutB prog=true:=by kernel_rfl
set_option maxHeartbeats 4000000 in
theorem Qe0(os:Os)(started:os.Started)(H:Type)(enc:TypeId×Value->H):
  ReturnsInHanded {} checked os 13 .any (Rows.solveMoreSpec.pre6 enc prog f13 Rows.solveMoreRow.domain false) (Rows.solveMoreSpec.post enc prog f13 false true false false):=by
 refine returnsInHanded_of_change (C:=checked) own started (by kernel_rfl) func13
  (ChangeSpec.witness6 (enc:=enc) (C:=checked) false ⟨#[],#[.agg #[.int .i64 0,.int .i64 0,.int .i64 0,.int .i64 0,.int .i64 0,.int .i64 0,.int .i64 0,.bool false,.slice none 0 0],.int .u8 0,.int .u8 0,.int .u8 0],[]⟩ 8 (by kernel_rfl) (by kernel_rfl) (by kernel_rfl) (by kernel_rfl)) ?_
 intro W base args ds gs before hval0 hW _ _;have hval:∀(j:Nat) t v,f13.params[j]? = some t->args[j]? = some v->Value.okWide prog W .any base t v:=hval0;have hW':=hW;obtain⟨p,q,hA0,hV,rfl,_,_⟩:=hW;have hA:DataW.TrodAll enc prog W 0 (λ_=>true) true f13.params.toList args.toList ds p:=hA0;rw[params13]at hA hval;obtain⟨rfl,rfl⟩:=trodVars_none hV;obtain⟨args⟩:=args;obtain⟨v1,vs1,d1,ds1,_,e1,rfl,h1⟩:=QE7 hA;simp only at e1;subst e1;obtain⟨v2,vs2,d2,ds2,_,e2,rfl,h2⟩:=QE7 h1;subst e2;obtain⟨v3,vs3,d3,ds3,_,e3,rfl,h3⟩:=QE7 h2;subst e3
 obtain⟨v4,vs4,d4,ds4,_,e4,rfl,h4⟩:=QE7 h3;subst e4;obtain⟨e0,rfl⟩:=QbA h4;subst e0;obtain⟨_,hT1⟩:=QZ5 hA;obtain⟨x1,L1,hL1⟩:=QbI (hval 0 _ v1 rfl rfl) hT1;obtain⟨x2,hx2,y2,z2⟩:=QJV (hval 1 _ v2 rfl rfl);obtain⟨x3,hx3,y3,z3⟩:=QJV (hval 2 _ v3 rfl rfl);obtain⟨x4,hx4,y4,z4⟩:=QJV (hval 3 _ v4 rfl rfl);simp only[List.append_nil]at hW';have hstay:=λ(W':World) (hg:Fr W W' (λ_=>False)) (sp:Nat->Bool) (hs:∀ q∈p,sp q.block=true)=>QMr (enc:=enc) (sp:=sp) Qe8 hg _ _ _ _ (by kernel_rfl) hA hs
 clear hA0 hval0
 let rr:Nat->Go.SX.Loc:=λi=>match i with
  | _=>L1
 have g1:=hL1 0 rr rfl
 have hblk:∀ q∈QX.blks 0 ((x1,x2,x3,x4,()):Puz×U8m×U8m×U8m×Unit),QL rr q.1 W q.2:=by
  intro q hq
  have hq:q∈Qo.blk 0 x1:=by
   have e:QX.blks 0 ((x1,x2,x3,x4,()):Puz×U8m×U8m×U8m×Unit)=Qo.blk 0 x1:=by first|rfl|simp[QX.blks,Qo.blk]
   rw[e]at hq;simpa only [List.mem_append,or_assoc]using hq
  exact g1.2 q hq
 have hp:QJv x2 x3 x4=true:=qde ⟨⟨y2,z2⟩,⟨y3,z3⟩,⟨y4,z4⟩⟩;have hrun:=QVB (F:=moF) (vp (QRU _)) func13 (c:=Qk f13) (by kernel_rfl) (x1,x2,x3,x4,()) (λG h1 _=>Qw (vp (QRU _)) 1 G _ h1) ⟨rfl,by simp[moF],rfl⟩ (Qgm x1 x2 x3 x4 hp) hp (r:=rr) (w:=W) (u := .bool true) rfl hblk (λ_=>rfl)
 have hargs:(AV.denL rr (QX.vals 0 ((x1,x2,x3,x4,()):Puz×U8m×U8m×U8m×Unit)))=[v1,v2,v3,v4]:=by
  rw[hx2 rr,hx3 rr,hx4 rr,<-g1.1];rfl
 rw[hargs]at hrun;refine hrun.mono ?_;rintro e W' ⟨he,hg⟩;exact⟨_,he,QVc (pa:=p) (pv:=[]) hW' (λ_ _ _=>QXB) (λsp hsp=>hstay W' hg sp (λq hq=>hsp q hq)) (λ_ _=>rfl) hg⟩
theorem solveMore_holds:Rows.SolveMoreSaid:=
 OpenClaim.holds_of_wide 13 f13 rfl rfl rfl rfl rfl rfl rfl ⟨rfl,rfl,rfl,rfl,rfl⟩ rfl rfl rfl rfl rfl (by kernel_rfl) func13 (by kernel_rfl)
  (qdt (by kernel_rfl)) (by unfold Func.isWrapper;first|(rw[if_pos (by decide +kernel)];kernel_rfl)|(rw[if_neg (by decide +kernel)];exact⟨rfl,rfl⟩))
  (λos started H enc _=>Qe0 os started H enc)
#print axioms solveMore_holds
