/- - -/
import Derived.Test.YtbpffdkemeoajaaGreatMpzc
open Go.Proofs.Tryz
open Go.IntKind (i64)
set_option maxRecDepth 100000
namespace Go.Proofs.YtbpffdkemeoajaaGreat
open Go.SX
def GI(pb:List Prop->Bool)(U:UC):Tab:=Qh Qu 37 (Jj pb U)
abbrev plX(P:Program)(J:JSt)(X:List (Prop×Ex×JSt)):Hnd:={ hnd (mkE P Qu) 2 with loop:=λ_=>Q4 312 Hu J X }
noncomputable abbrev QIN:Nat×Blk:=
  (217,.lp LoopState.ready none plT (Array.mk [12]) (QP f36 0).1 (QP f36 0).2)
variable {d:Nat}(C:List (List QB))(ac:Code)(cs:List QB)(body:Code)(x:QD)(has:Int->Bool)(l2:List QB)(k:Nat)(f g:List QB)(many:Int)(has':Int->Bool)(f' g':List QB)(many':Int)
noncomputable abbrev QSu:Nat×Blk:=
  (48,.cellsR 0 149 [vi x.d.pK.length,vi x.d.pK.aK,vi x.d.pK.oK,vi x.d.pK.dK.lo,.int false .i64
  x.d.pK.dK.hi,vi x.d.wide,vi x.d.high,.bool false x.d.turn,.slz 0 0 x.d.ps.n cO,.slz 1 0 x.sK.n cO,.slz 2 0 x.hang.n (Cap.of
  0),vi x.lost,vi x.fK,.slz 49 0 C.length cO])
abbrev QB8:List CK:=
  [.int .i64,.int .i64,.int .i64,.int .i64,.int .i64,.int .i64,.int .i64,.int .i64,.int .i64,.int .i64,.int .i64,.int .i64,.int .i64,.int .i64,.int .i64,.int .i64,.int
  .i64,.int .i64,.int .i64,.int .i64,.int .i64,.int .i64,.int .i64,.int .i64,.int .i64,.int .i64,.int .i64,.int .i64]
noncomputable abbrev QRe:Nat×Blk:=
  (49,.frz2 false 38 kB C.length (λi=>(QG C i).length) λi j=>QA.enc ((QG C i).getD j ⟨0,0⟩))
noncomputable abbrev QIC(f:Nat->Int)(has:Int->Bool)(l:List QB)(many:Int)(x:QD):List (Nat×Blk):=
  [(256,.cells 0 38 [.slz 304 0 l.length cO]),(232,.mpf i64 (vj 0) has λi=>vi (QJ l i)),QIN,(160,.cells 0 3 [.int false .i64
  many]),(128,.cells 1 94 [vi (f 0),vi (f 1),vi (f 2),vi (f 3),vi (f 4),vi (f 5),.int false .i64
  (f 6),vi (f 7),vi (f 8),vi (f 9),vi (f 10),vi (f 11),vi (f 12)]),(304,.rowz true 80 kB l.length λi=>QA.enc (l.getD i ⟨0,0⟩)),(QSu C x),(136,.cellsR 0 98 [.fn (Fn.func 37) []]),(184,.cellsR 0 88 [.ptr 48 0 0]),(0,.frz QB8 x.d.ps.n λi=>
  QA.enc (x.d.ps.get i)),(1,.frz QB8 x.sK.n λi=>QA.enc (x.sK.get i)),(2,.frz [.int .i64,.int .i64,.int .i64,.int .i64] x.hang.n λi=>QA.enc (x.hang.get
  i)),(QRe C)]
noncomputable abbrev QKL(f2:Nat->Int)(has:Int->Bool)(l:List QB)(many:Int)(x:QD):List (Nat×Blk):=
  [(256,.cells 0 38 [.slz 304 0 l.length cO]),(232,.mpf i64 (vj 0) has λi=>vi (QJ l i)),QIN,(160,.cells 0 3 [.int false .i64
  (i64.wrap (many+1))]),(128,.cells 1 94 [vi (f2 0),vi (f2 1),vi (f2 2),vi (f2 3),vi (f2 4),.int
  false .i64 (f2 5),vi (f2 6),vi (f2 7),vi (f2 8),vi (f2 9),vi (f2 10),vi (f2 11),.int false .i64
  (f2 12)]),(304,.rowz true 80 kB l.length λi=>QA.enc (l.getD i ⟨0,0⟩)),(QSu C x),(136,.cellsR 0 98 [.fn (Fn.func 37) []]),(184,.cellsR 0 88 [.ptr
  48 0 0]),(0,.frz QB8 x.d.ps.n λi=>QA.enc (x.d.ps.get i)),(1,.frz QB8 x.sK.n λi=>QA.enc (x.sK.get i)),(2,.frz [.int .i64,.int .i64,.int .i64,.int .i64]
  x.hang.n λi=>QA.enc (x.hang.get i)),(QRe C)]
theorem QJJ(pb:List Prop->Bool)(x:QD)(C:List (List QB))(l:List QB)(has:Int->Bool)(many:Int)(f:Nat->Int)(f2:Nat->Int):(Vm (mkE prog (GI pb (pmU l f f2))) (msN prog (GI pb (pmU l f f2))) f80 QFh (QCp x C (QP f36 0).1 (QP f36 0).2 l has many f).hp 312
  λv h _=>Yz Hu v h) = .br ((l.length:Int)==(x.sK.n:Int)) (.need (isI i64 (.int false .i64 (QJ l (-2:Int)))) (.br (decide (i64.wrap ((x.d.ps.n :
  Int)-i64.wrap ((l.length:Int)-toI (.int false .i64 (QJ l (-2:Int)))))>x.lost)) (.leaf (.bool true true) ((QIC C f has l many x))) (.need (pb ([f 0=f 0,f 1 =
  f 1,f 2=f 2,f 3=f 3,f 4=f 4,f 5=f 5,f 6=f 6,f 7=f 7,f 8=f 8,f 9=f 9,f 10=f 10,f 11=f 11,f 12=f 12,0=0,l.length=l.length,Cap.of 0=Cap.of 0,
  l.length<=l.length,QC 2 l.length (λi=>QA.enc (l.getD i ⟨0,0⟩)) λi=>QA.enc (l.getD i ⟨0,0⟩)])) (.leaf (.bool true true) ((QKL C f2 has l many x)))))) (.need
  (decide ((0 : Int) <= (l.length : Int) /\ (l.length : Int) < (C.length : Int)) && decide (C.length <= C.length)) (.need (decide (l.length < C.length)) (.fail ("a loop")))) := by kernel_rfl
abbrev QSE(l:List QB):List Prop:=
  [0=0,l.length=l.length,cO=cO,l.length<=l.length,QC 2 l.length (λi=>QA.enc (l.getD i ⟨0,0⟩)) λi=>QA.enc (l.getD i ⟨0,0⟩),Ka (.int true
  .i64 0) (.int true .i64 0) has has (λi=>.int false .i64 (QJ l i)) λi=>.int false .i64 (QJ l i),LoopState.ready=LoopState.ready,(none:Option Code)=none,
  Array.mk [12]=Array.mk [(12:Tmp)],(QP f36 0).1=(QP f36 0).1,(QP f36 0).2=(QP f36 0).2,0=0,0=0]
abbrev QHa:List Prop:=
  [(0:Int)=0,(0:Int)=0,(0:Int)=0,(0:Int)=0,(0:Int)=0,(0:Int)=0,(0:Int)=0,(0:Int)=0]
abbrev QIJ:List Prop:=
  [(0:Int)=0,(0:Int)=0,(0:Int)=0,(0:Int)=0,(0:Int)=0,Fn.func (37:FuncId)=Fn.func (37:FuncId),0=0,0=0,0=0,0=0,0=0,0=0,false=false,0
  = 0,0=0,0=0,0=0,Fn.func (79:FuncId)=Fn.func (79:FuncId),0=0,0=0]
theorem Qcy(C:List (List QB))(l:List QB)(has:Int->Bool)(many:Int)(f:Nat->Int):QI 312 [(.bool true true)] ((QIC C f has l many x)) (Kb (plU x C (QP f36 0).1 (QP f36 0).2 l has many f has many f))=(some ([true=true]++(QSE has l) ++ QHa++QIJ++[many=many,f 0=f 0,f 1=f 1,f 2=f 2,f 3=f 3,f 4=f 4,f 5=f 5,f 6=f 6,f 7=f 7,f 8=f 8,f 9=f 9,f 10=f 10,f 11=f 11,f 12=f 12])):=by kernel_rfl
theorem QZO(C:List (List QB))(l:List QB)(has:Int->Bool)(many:Int)(f:Nat->Int)(f2:Nat->Int)(many':Int)(f':Nat->Int):QI 312 [(.bool true true)] ((QKL C f2 has l many x)) (Kb (plU x C (QP f36 0).1 (QP f36 0).2 l has many f has many' f'))=(some ([true=true]++(QSE has l)++QHa++QIJ++[i64.wrap (many+1)=many',f2 0=f' 0,f2 1=f' 1,f2 2=f' 2,f2 3=f' 3,f2 4=f' 4,f2 5=f' 5,f2 6=f' 6,f2 7=f' 7,f2 8=f' 8,f2 9=f' 9,f2 10=f' 10,f2 11=f' 11,f2 12=f' 12])):=by kernel_rfl
noncomputable abbrev QOu(f':Nat->Int)(has':Int->Bool)(l:List QB)(many':Int):List (Nat×Blk):=
  [(256,.cells 0 38 [.slz 320 0 l.length cO]),(232,.mpf i64 (vj 0) has' λi=>vi (QJ l i)),QIN,(160,.cells 0 3 [.int false .i64
  many']),(128,.cells 1 94 [vi (f' 0),vi (f' 1),vi (f' 2),vi (f' 3),vi (f' 4),vi (f' 5),.int
  false .i64 (f' 6),vi (f' 7),vi (f' 8),vi (f' 9),vi (f' 10),vi (f' 11),vi (f' 12)]),(320,.rowz
  true 80 [.int .i64,.int .i64] l.length λi=>QA.enc (l.getD i ⟨0,0⟩))]
theorem QZ4(C:List (List QB))(cs l:List QB)(has:Int->Bool)(many:Int)(f:Nat->Int)(has':Int->Bool)(many':Int)(f':Nat->Int):(Vm (mkE prog Qu) (plX prog (plJ x C (QP f36 0).1 (QP f36 0).2 cs l has many f 0) [(True,.exit 0,plE (QP f36 0).1 (QP f36 0).2
  l has' many' f')]) f80 QFh (QCp x C (QP f36 0).1 (QP f36 0).2 l has many f).hp 312 λv h _=>Yz Hu v h) = .br ((l.length:Int)==(x.sK.n :
  Int)) (.need (isI i64 (.int false .i64 (QJ l (-2:Int)))) (.br (decide (i64.wrap ((x.d.ps.n:Int)-i64.wrap ((l.length:Int)-toI (.int false .i64
  (QJ l (-2 : Int))))) > x.lost)) (.leaf (.bool true true) ((QIC C f has l many x))) (.fail ("a loop")))) (.need (decide ((0 : Int) <= (l.length : Int) /\ (l.length : Int) <
  (C.length:Int))&&decide (C.length<=C.length)) (.need (decide (l.length<C.length)) (.ask (0=0) (.ask (0=0) (.ask (0=0) (.ask (0=0) (.ask (0=0) (.ask (0=0) (.ask (0
  = 0) (.ask (0=0) (.ask (0=0) (.ask (0=0) (.ask (0=0) (.ask ((QG C l.length).length=cs.length) (.ask (Cap.of 0=Cap.of 0) (.ask ((↑(QG C l.length).length:Int) =
  (cs.length:Int)) (.ask ((0:Int)=0) (.ask (cs.length<=(QG C l.length).length) (.ask (QC 2 cs.length (λj=>QA.enc ((QG C l.length).getD j ⟨0,0⟩)) λi=>
  QA.enc (cs.getD i ⟨0,0⟩)) (.ask (0=0) (.ask (l.length=l.length) (.ask (Cap.of 0=Cap.of 0) (.ask (l.length<=l.length) (.ask (QC 2 l.length (λi=>QA.enc (l.getD i
  ⟨0,0⟩)) λi=>QA.enc (l.getD i ⟨0,0⟩)) (.ask (Ka (.int true .i64 0) (.int true .i64 0) has has (λi=>.int false .i64 (QJ l i)) λi=>.int false .i64 (QJ l i))
  (.ak [LoopState.ready=LoopState.ready,(none:Option Code)=none,Array.mk [(12:Tmp)]=Array.mk [(12:Tmp)],(QP f36 0).1=(QP f36
  0).1,(QP f36 0).2=(QP f36 0).2,0=0,0=0,(0:Int)=0,(0:Int)=0,(0:Int)=0,(0:Int)=0] (.ask
  ((0:Int)=0) (.ask ((0:Int)=0) (.ask ((0:Int)=0) (.ask ((0:Int)=0) (.ask ((0:Int)=0) (.ask ((0:Int)=0) (.ask ((0:Int)=0) (.ask ((0:Int)=0) (.ask ((0 :
  Int)=0) (.ask (Fn.func (37:FuncId)=Fn.func (37:FuncId)) (.ask (0=0) (.ask (0=0) (.ask (0=0) (.ask (0=0) (.ask (0=0) (.ask (0=0) (.ask (false=false) (.ask (0 =
  0) (.ask (0=0) (.ask (0=0) (.ask (0=0) (.ask (Fn.func (79:FuncId)=Fn.func (79:FuncId)) (.ask (0=0) (.ask (0=0) (.ask (many=many) (.ask (f 0=f 0) (.ask (f 1=f
  1) (.ask (f 2=f 2) (.ask (f 3=f 3) (.ask (f 4=f 4) (.ask (f 5=f 5) (.ask (f 6=f 6) (.ask (f 7=f 7) (.ask (f 8=f 8) (.ask (f 9=f 9) (.ask (f 10=f 10) (.ask (f 11 =
  f 11) (.ask (f 12=f 12) (.ask (Fn.func (80:FuncId)=Fn.func (80:FuncId)) (.ask (0=0) (.ask (0=0) (.ask (0=0) (.ask (0=0) (.ask (0=0) (.ask (0=0) (.ask (0=0)
  (.ak [0=0,0=0,0=0,0=0,0=0,Fn.func (37:FuncId)=Fn.func (37:FuncId),x.d.pK.length=x.d.pK.length] (.ask
  (x.d.pK.aK=x.d.pK.aK) (.ask (x.d.pK.oK=x.d.pK.oK) (.ask (x.d.pK.dK.lo=x.d.pK.dK.lo) (.ask (x.d.pK.dK.hi=x.d.pK.dK.hi) (.ask (x.d.wide =
  x.d.wide) (.ask (x.d.high=x.d.high) (.ask (x.d.turn=x.d.turn) (.ask (0=0) (.ask (x.d.ps.n=x.d.ps.n) (.ask (Cap.of 0=Cap.of 0) (.ask (0=0) (.ask (x.sK.n=x.sK.n)
  (.ak [Cap.of 0=Cap.of 0,0=0,x.hang.n=x.hang.n,Cap.of 0=Cap.of 0,x.lost=x.lost,x.fK=x.fK,0=0,C.length
  = C.length,Cap.of 0=Cap.of 0,C.length=C.length,Q1 2 C.length (λi=>(QG C i).length) (λi=>(QG C i).length) (λi j=>QA.enc ((QG C
  i).getD j ⟨0,0⟩)) λi j=>QA.enc ((QG C i).getD j ⟨0,0⟩),x.d.ps.n<=x.d.ps.n,QC 28 x.d.ps.n (λi=>QA.enc (x.d.ps.get i)) λi=>QA.enc
  (x.d.ps.get i),x.sK.n<=x.sK.n,QC 28 x.sK.n (λi=>QA.enc (x.sK.get i)) λi=>QA.enc (x.sK.get i),x.hang.n<=x.hang.n] (.ask
  (QC 4 x.hang.n (λi=>QA.enc (x.hang.get i)) λi=>QA.enc (x.hang.get i)) (.asm (True) (.all (λ(g0:Nat->Value)=>.leaf (.bool true true) ((QOu f' has' l
  many')))))))))))))))))))))))))))))))))))))))))))))))))))))))))))))))))))))))))))))))))))))))))))):=by kernel_rfl
theorem QVd(C:List (List QB))(l:List QB)(has:Int->Bool)(many:Int)(f:Nat->Int)(has':Int->Bool)(many':Int)(f':Nat->Int):QI 312 [(.bool true true)] ((QOu f' has' l many')) (Kb (plU x C (QP f36 0).1 (QP f36 0).2 l has many f has' many' f'))=(some ([true=true,0=0,l.length=l.length,cO=cO,l.length<=l.length,QC 2 l.length (λi=>QA.enc (l.getD i ⟨0,0⟩)) λi=>QA.enc (l.getD i ⟨0,0⟩),Ka (vj 0) (vj 0) has' has' (λi=>vi (QJ l i)) λi=>vi (QJ l i),LoopState.ready=LoopState.ready,(none:Option Code)=none,Array.mk [12]=Array.mk [(12:Tmp)],(QP f36 0).1=(QP f36 0).1,(QP f36 0).2=(QP f36 0).2,0=0,0=0]++QHa++QIJ++[many'=many',f' 0=f' 0,f' 1=f' 1,f' 2=f' 2,f' 3=f' 3,f' 4=f' 4,f' 5=f' 5,f' 6=f' 6,f' 7=f' 7,f' 8=f' 8,f' 9=f' 9,f' 10=f' 10,f' 11=f' 11,f' 12=f' 12])):=by kernel_rfl
noncomputable abbrev ZU:Code:=(QP f36 0).1
noncomputable abbrev Y2:Code:=(QP f36 0).2
theorem QK9(C:List (List QB))(ac body:Code)(l:List QB)(has:Int->Bool)(many:Int)(f:Nat->Int)(has':Int->Bool)(many':Int)(f':Nat->Int):(plU x C ac body l has many f has' many' f').Ok:=by
 refine⟨(by decide:296<=312),rfl,rfl,?_,rfl,λ_ _=>rfl,λnid h=>?_⟩
 .intro q hq;simp only[UC.po,plU,plW,rwL,List.mem_cons,List.not_mem_nil,or_false]at hq;rcases hq with rfl|rfl|rfl|rfl|rfl|rfl<;>refine⟨rfl,rfl,rfl,?_⟩<;>first|exact λ_=>rfl|exact λh=>absurd (show 312<296 from h) (by decide)
 .have e0:=YU 296 312 0 nid (by decide)
  simp only[UC.po,plU,plW,rwL,QCp,plT,QCN,List.map_cons,List.map_nil,Blk.mapId,AV.mapId,AV.mapIdL,Nat.add_zero]at e0 ⊢;rw[e0];rfl
theorem QYU{x:QD}(hx:Kx x)(C:List (List QB)){l:List QB}(hn:l.length=x.sK.n)(hl:∀ c∈l,K8 c)(s:PlS)(h:Int->Bool)(hgd:XW x s):QO prog 80 (uFC (WK x C ZU Y2 l h s (J4 x plY l s h))):=by
 obtain⟨many,f⟩:=s;have hs:=hx.s;have hd:=hx.d.n9;have hgd:XW x (many,f):=hgd;have hT:QZ (GI QV (pmU l f (plL l f l.length))):=KC.add (QZe l f (by omega) (QOI (by omega) hl))
 have fin:∀(s':PlS),XU (jv (plU x C ZU Y2 l h many f h s'.1 s'.2)) (Js (mkE prog (GI QV (pmU l f (plL l f l.length)))) (msN prog (GI QV (pmU l f (plL l f l.length)))) f80 (plU x C ZU Y2 l h many f h s'.1 s'.2))->QO prog 80 (uFC (plU x C ZU Y2 l h many f h s'.1 s'.2)):=λs' hd=>
  JT (E:=mkE prog (GI QV (pmU l f (plL l f l.length)))) (QL hT) func80 (by kernel_rfl) (by kernel_rfl) (QK9 ..) (λG h1 _=>HK _ hT G h1) ⟨hd⟩
 have he:=QBo (x:=x) (l:=l) (by omega) (by omega)
 cases hb:YF x l with
 | true=>
  rw[hb]at he;simp only[J4,hb,WK];refine fin (many,f) (Qp (QJJ QV x C l h many f (plL l f l.length)) ?_);refine QH (λ_=>QF rfl (QH (λ_=>?_) (λq=>Bool.noConfusion (show true=false from he.symm.trans q)))) (λq=>by rw[hn]at q;simp at q)
  refine⟨rfl,rfl,_,Qcy x C l h many f,?_⟩
  repeat' first|with_reducible refine QK ?_ ?_|exact tv|exact K7 _ _ _|refine aI ?_ ?_
 | false=>
  rw[hb]at he;simp only[J4,hb,plY,WK];refine fin (plY (many,f) l).1 (Qp (QJJ QV x C l h many f (plL l f l.length)) ?_);refine QH (λ_=>QF rfl (QH (λq=>Bool.noConfusion (show true=false from q.symm.trans he)) (λ_=>QF (KP.2 ?_) ?_))) (λq=>by rw[hn]at q;simp at q)
  .repeat' first|with_reducible refine QK ?_ ?_|exact tv|refine aI ?_ ?_
  refine⟨rfl,rfl,_,QZO x C l h many f (plL l f l.length) _ _,?_⟩
  repeat' first|with_reducible refine QK ?_ ?_|exact tv|exact K7 _ _ _|exact rfl|refine aI ?_ ?_
theorem QXt{x:QD}(hx:Kx x){C:List (List QB)}{ac body:Code}{cs l:List QB}(hl:l.length<1000)(hls:∀ c∈l,K8 c)(hcs:∀ c∈cs,K8 c)(IH:∀ c∈cs,∀ s h,XW x s->QO prog 80 (uFC (WK x C ac body (l++[c]) h s (Yv x C d l s h c))))(t:PlK):(jL prog x C ac body d cs l t).Sound:=by
 unfold jL qz;split
 .rename_i hk;have hm:=zx (z:=(⟨0,0⟩:QB)) hk.1;refine Ws ((KC.add (QCz x C _ hx (QED (by simp) (by simp;omega) ?_))).add (IH _ hm _ _ hk.2))
  intro c hc;rcases List.mem_append.1 hc with h|h
  .exact hls c h
  .rw[List.mem_singleton.1 h];exact hcs _ hm
 .exact Ws ((KC.add (Zm (by kernel_rfl) _)).add (Zm (by kernel_rfl) _))
theorem QVD{x:QD}(hx:Kx x){C:List (List QB)}(hC:YH x C){ac body:Code}{l:List QB}(hl:l.length+(d+1)=x.sK.n)(hls:∀ c∈l,K8 c)(IH:∀ c∈QG C l.length,∀ s h,XW x s->QO prog 80 (uFC (WK x C ac body (l++[c]) h s (Yv x C d l s h c))))(s:PlS)(h:Int->Bool)(hgd:XW x s){X:List (Prop×Ex×JSt)}(hX:∀ e J,qf x C ac body d (QG C l.length) l (0,s,h) e J->∃ y∈X,y.1/\y.2.1=e/\y.2.2=J)(G:Ctx)(hrd:G.rd=none)(hG:G.n=312):
  Q8 (mkE prog Qu) G (plX prog (plJ x C ac body (QG C l.length) l h s.1 s.2 0) X) (Qi f80):=by
 have hs:=hx.s;refine Kg (body:=QT f80 0) (QL KC) hrd (by kernel_rfl) ?_
 have hE:=λt=>QXt hx (C:=C) (ac:=ac) (body:=body) (d:=d) (cs:=QG C l.length) (l:=l) (by omega) hls (hC.s _) IH t
 refine vo (E0:=mkE prog Qu) (E:=jL prog x C ac body d (QG C l.length) l) (H:=λt=>hnd (jL prog x C ac body d (QG C l.length) l t) 0) (n0:=312) (s0:=(0,s,h)) (λ_=>rfl) hE (by omega) (λt _=>Qw (hE t) 0 G _ hrd) (λt _=>(by decide:312<=344)) ?_ (QfW x C ac body d (QG C l.length) l (hC.le _) (by omega) (by omega)) ⟨Nat.zero_le _,hgd⟩ hX
 intro t e J hr;unfold qf at hr;split at hr
 .rw[hr.2];exact(by decide:312<=344)
 .exact hr.elim
theorem QS8{x:QD}(hx:Kx x){C:List (List QB)}(hC:YH x C){l:List QB}(hl:l.length+(d+1)=x.sK.n)(hls:∀ c∈l,K8 c)(IH:∀ c∈QG C l.length,∀ s h,XW x s->QO prog 80 (uFC (WK x C ZU Y2 (l++[c]) h s (Yv x C d l s h c))))(s:PlS)(h:Int->Bool)(hgd:XW x s):QO prog 80 (uFC (WK x C ZU Y2 l h s (onT x C plY (d+1) l s h))):=by
 obtain⟨s',h',he⟩:=Z8 (C:=C) (x:=x) (Y:=plY) (λ_ _=>rfl) (d+1) l s h;rw[he];have hc:J2 (Ki x l (Yv x C d l)) (QG C l.length) s h = .go s' h':=he;have hCn:=hC.n;refine JT (E:=mkE prog Qu) (QL KC) func80 (by kernel_rfl) (by kernel_rfl) (QK9 ..) (QVD hx hC hl hls IH s h hgd (X:=[(True,.exit 0,plE ZU Y2 l h' s'.1 s'.2)]) ?_) ⟨?_⟩
 .intro e J hr;unfold qf at hr;simp only[List.drop_zero,hc]at hr;exact⟨_,qmc,trivial,hr.1.symm,hr.2.symm⟩
 .refine Qp (QZ4 x C (QG C l.length) l h s.1 s.2 h' s'.1 s'.2) ?_;refine QH (λq=>by simp at q;omega) (λ_=>QF (by simp;omega) (QF (by simp;omega) ?_))
  repeat' first|refine QX (p:=_=_) rfl ?_|refine QX (p:=_<=_) (qlr _) ?_|refine QX (p:=QC _ _ _ _) (qRr) ?_|refine QX (p:=Q1 _ _ _ _ _ _) (QS _ _ _ _) ?_|refine QX (p:=Ka _ _ _ _ _ _) (K7 _ _ _) ?_
  refine KB λ_=>Q7 λg=>⟨rfl,rfl,_,QVd x C l h s.1 s.2 h' s'.1 s'.2,?_⟩
  repeat' first|with_reducible refine QK ?_ ?_|exact tv|exact K7 _ _ _|refine aI ?_ ?_
theorem QPb{x:QD}(hx:Kx x){C:List (List QB)}(hC:YH x C):∀(d:Nat) (l:List QB) (s:PlS) (h:Int->Bool),l.length+d=x.sK.n->(∀ c∈l,K8 c)->XW x s->QO prog 80 (uFC (WK x C ZU Y2 l h s (onT x C plY d l s h)))
 | 0,l,s,h,hn,hl,hgd=>QYU hx C (by omega) hl s h hgd
 | d+1,l,s,h,hn,hl,hgd=>QS8 hx hC (by omega) hl (λc hc s h hgd=>QPb hx hC d (l++[c]) s h (by simp;omega) (λy hy=>by
   rcases List.mem_append.1 hy with q|q
   .exact hl y q
   .rw[List.mem_singleton.1 q];exact hC.s _ c hc) hgd) s h hgd
def trT:List AV:=[.agg (K2 0 x),.ptr 8 0 0,.ptr 16 0 0,.ptr 24 0 0,.ptr 32 0 0,.int true .i64 0,.ptr 56 0 0,.tup [],.tup [.ptr 56 0 0,.int true .i64 0],.agg (K2 0 x),.tup [.ptr 56 0 0,.int true .i64 0],.ptr 56 0 0,.int true .i64 0,.int true .i64 0,.bool true false,.tup [],.ptr 56 0 0,.fn (.func 79) [.ptr 128 0 0],.tup [],.tup [],.tup [],.tup [],.tup [],.tup [],.tup [],.tup [],.tup [],.tup [],.tup [],.tup [],.tup [],.tup [],.tup [],.tup [],.tup [],.tup [],.tup []]
def QC5:List AV:=[.ptr 200 0 0,.ptr 128 0 0,.ptr 184 0 0,.ptr 168 0 0,.ptr 208 0 0]
def trR(C:List (List QB)):List (Nat×Blk):=
 [(208,.cellsR 0 33 [.fn (.func 80) QC5]),(184,.cellsR 0 147 [.map 176]),(168,.cellsR 0 146 [.yld 161]),(128,.cellsR 0 88 [.ptr 56 0 0]),(8,.cellsR 0 31 (K2 0 x)),(56,.cellsR 0 149 (srK 57 x C)),Jm false 57 C]++JC 0 x
def trW(ls:LoopState)(pe:Option Code)(x:QD)(ac body:Code)(l:List QB)(a:Nat)(b:Nat)(c:Nat)(has:Int->Bool)(many:Int)(f g:List QB):List (Nat×Blk):=
 [(200,.cells 0 38 [.slz a 0 l.length (.of 0)]),rwL a l,(176,.mpf .i64 (vj 0) has λi=>vi (QJ l i)),(161,.lp ls pe (trT x) #[18] ac body),(32,.cells 0 3 [vi many]),(16,.cells 0 38 [.slz b 0 f.length (.of 0)]),rwL b f,(24,.cells 0 38 [.slz c 0 g.length (.of 0)]),rwL c g]
def jU(C:List (List QB))(ac body:Code)(l:List QB)(has:Int->Bool)(many:Int)(f g:List QB):JSt:=
 ⟨5,[(0,.ptr 200 0 0),(1,.ptr 128 0 0),(2,.ptr 184 0 0),(3,.ptr 168 0 0),(4,.ptr 208 0 0)],trW .ready none x ac body l 248 256 264 has many f g++trR x C,272⟩
def trU(C:List (List QB))(ac body:Code)(l:List QB)(has:Int->Bool)(many:Int)(f g:List QB)(has':Int->Bool)(many':Int)(f' g':List QB):UC:=
 ⟨240,jU x C ac body l has many f g,λ_=>.bool false true,λm=>trW .ready none x ac body l m (m+1) (m+2) has' many' f' g'⟩
def trJ(C:List (List QB))(ac body:Code)(cs l:List QB)(has:Int->Bool)(many:Int)(f g:List QB)(k:Nat):JSt:=
 ⟨98,[(0,.ptr 200 0 0),(1,.ptr 128 0 0),(2,.ptr 184 0 0),(3,.ptr 168 0 0),(4,.ptr 208 0 0),(48,.slz 304 0 cs.length (.of 0)),(49,.int false .i64 cs.length),(50,.int false .i64 k)],
  (304,.frz kB cs.length λi=>QA.enc (cs.getD i ⟨0,0⟩))::trW .ready none x ac body l 280 288 296 has many f g++trR x C,320⟩
def trE(ac body:Code)(l:List QB)(has:Int->Bool)(many:Int)(f g:List QB):JSt:=⟨98,[],trW .ready none x ac body l 280 288 296 has many f g,320⟩
def trV(C:List (List QB))(ac body:Code)(l:List QB)(has:Int->Bool)(many:Int)(f g:List QB)(has':Int->Bool)(many':Int)(f' g':List QB):UC:=
 ⟨240,jU x C ac body l has many f g,λ_=>.bool false false,λm=>trW .done (some (.exit 0)) x ac body l m (m+1) (m+2) has' many' f' g'⟩
def trF(ac body:Code)(l:List QB)(has:Int->Bool)(many:Int)(f g:List QB):JSt:=⟨98,[(5,.bool false false)],trW .done (some (.exit 0)) x ac body l 280 288 296 has many f g,320⟩
def jz:List Nat:=[200,176,161,32,16,24]
noncomputable abbrev GA:List AV:=
  [.nilp,.ptr 98 0 0,.ptr 200 0 0,.ptr 128 0 0,.ptr 184 0 0,.ptr 168 0 0,.ptr 208 0 0,.slz 304 0 cs.length cO,vi (cs.length:Int),.int false .i64
  (i64.wrap ((k:Int)+1))]
noncomputable abbrev Gc:Nat×Blk:=
  (161,.lp LoopState.ready none (trT x) (Array.mk [18]) ac body)
noncomputable abbrev QEl:Nat×Blk:=
  (16,.cells 0 38 [.slz 288 0 f.length cO])
noncomputable abbrev QGK:Nat×Blk:=
  (24,.cells 0 38 [.slz 296 0 g.length cO])
noncomputable abbrev jx:Nat×Blk:=
  (128,.cellsR 0 88 [.ptr 56 0 0])
noncomputable abbrev QB3:Nat×Blk:=
  (208,.cellsR 0 33 [.fn (Fn.func 80) [.ptr 200 0 0,.ptr 128 0 0,.ptr 184 0 0,.ptr 168 0 0,.ptr 208 0 0]])
noncomputable abbrev QBD:Nat×Blk:=
  (304,.frz kB cs.length λi=>QA.enc (cs.getD i ⟨0,0⟩))
abbrev Xp:List CK:=
  [.int .i64,.int .i64,.int .i64,.int .i64,.int .i64,.int .i64,.int .i64,.int .i64,.int .i64,.int .i64,.int .i64,.int .i64,.int .i64,.int .i64,.int .i64,.int .i64,.int
  .i64,.int .i64,.int .i64,.int .i64,.int .i64,.int .i64,.int .i64,.int .i64,.int .i64,.int .i64,.int .i64,.int .i64]
noncomputable abbrev jS:Nat×Blk:=
  (2,.frz [.int .i64,.int .i64,.int .i64,.int .i64] x.hang.n λi=>QA.enc (x.hang.get i))
noncomputable abbrev vE:Nat×Blk:=
  (8,.cellsR 0 31 [vi x.d.pK.length,vi x.d.pK.aK,vi x.d.pK.oK,vi x.d.pK.dK.lo,.int false .i64
  x.d.pK.dK.hi,vi x.d.wide,vi x.d.high,.bool false x.d.turn,.slz 0 0 x.d.ps.n cO,.slz 1 0 x.sK.n cO,.slz 2 0 x.hang.n (Cap.of
  0),vi x.lost,vi x.fK])
noncomputable abbrev vL:Nat×Blk:=
  (56,.cellsR 0 149 [vi x.d.pK.length,vi x.d.pK.aK,vi x.d.pK.oK,vi x.d.pK.dK.lo,.int false .i64
  x.d.pK.dK.hi,vi x.d.wide,vi x.d.high,.bool false x.d.turn,.slz 0 0 x.d.ps.n cO,.slz 1 0 x.sK.n cO,.slz 2 0 x.hang.n (Cap.of
  0),vi x.lost,vi x.fK,.slz 57 0 C.length cO])
noncomputable abbrev QI8:Nat×Blk:=
  (288,.rowz true 80 kB f.length λi=>QA.enc (f.getD i ⟨0,0⟩))
noncomputable abbrev QH5:Nat×Blk:=
  (296,.rowz true 80 kB g.length λi=>QA.enc (g.getD i ⟨0,0⟩))
noncomputable abbrev ji:Nat×Blk:=
  (57,.frz2 false 38 kB C.length (λi=>(QG C i).length) λi j=>QA.enc ((QG C i).getD j ⟨0,0⟩))
noncomputable abbrev QEw(cs:List QB)(f:List QB)(g:List QB)(has:Int->Bool)(l:List QB)(many:Int)(x:QD):List (Nat×Blk):=
  [(200,.cells 0 38 [.slz 280 0 l.length cO]),(176,.mpf i64 (vj 0) has λi=>vi (QJ l i)),(Gc ac body x),(32,.cells 0 3 [.int
  false .i64 many]),(QEl f),(QGK g),jx,(184,.cellsR 0 147 [.map 176]),(168,.cellsR 0 146 [.yld 161]),QB3,(QBD cs),(280,.rowz true 80 kB
  l.length λi=>QA.enc (l.getD i ⟨0,0⟩)),(0,.frz Xp x.d.ps.n λi=>QA.enc (x.d.ps.get i)),(1,.frz Xp x.sK.n λi=>QA.enc (x.sK.get i)),(jS x),(vE
  x),(vL C x),(QI8 f),(QH5 g),(ji C)]
noncomputable abbrev QCY:List AV:=
  [vi (cs.getD k ⟨0,0⟩).cell,vi (cs.getD k ⟨0,0⟩).turn]
abbrev QM8(l:List QB)(l2:List QB)(x:QD):List Prop:=
  [0=0,0=0,0=0,l.length+1=l2.length,cO=cO,l2.length<=l.length+1,QC 2 l2.length (Qa l.length (λi=>QA.enc (l.getD i ⟨0,0⟩)) (QU [(QCY
  cs k)] 0)) λi=>QA.enc (l2.getD i ⟨0,0⟩),x.d.pK.length=x.d.pK.length,x.d.pK.aK=x.d.pK.aK,x.d.pK.oK=x.d.pK.oK,x.d.pK.dK.lo =
  x.d.pK.dK.lo,x.d.pK.dK.hi=x.d.pK.dK.hi,x.d.wide=x.d.wide,x.d.high=x.d.high,x.d.turn=x.d.turn,0=0,x.d.ps.n=x.d.ps.n,cO=cO,0=0,
  x.sK.n=x.sK.n,cO=cO,0=0,x.hang.n=x.hang.n,cO=cO,x.lost=x.lost,x.fK=x.fK,0=0,C.length=C.length,cO=cO,
  C.length=C.length,Q1 2 C.length (λi=>(QG C i).length) (λi=>(QG C i).length) (λi j=>QA.enc ((QG C i).getD j ⟨0,0⟩)) λi j=>QA.enc ((QG C
  i).getD j ⟨0,0⟩),x.d.ps.n<=x.d.ps.n,QC 28 x.d.ps.n (λi=>QA.enc (x.d.ps.get i)) λi=>QA.enc (x.d.ps.get i),x.sK.n<=x.sK.n,QC 28 x.sK.n (λi=>
  QA.enc (x.sK.get i)) λi=>QA.enc (x.sK.get i),x.hang.n<=x.hang.n,QC 4 x.hang.n (λi=>QA.enc (x.hang.get i)) λi=>QA.enc (x.hang.get i)]
noncomputable abbrev QHR(cs:List QB)(f:List QB)(g:List QB)(has:Int->Bool)(k:Nat)(l:List QB)(many:Int)(x:QD):List (Nat×Blk):=
  [(200,.cells 0 38 [.slz 904 0 (i64.wrap ((↑(l.length+1):Int)-1)).toNat cO]),(176,.mpf i64 (vj 0) (Qc (cs.getD k ⟨0,0⟩).cell true
  (Qc (cs.getD k ⟨0,0⟩).cell true has)) (KO (cs.getD k ⟨0,0⟩).cell (vi (i64.wrap (toI (Bool.rec ((λ_=>(λi=>vi (QJ l i)) ((λi=>
  QA.enc (cs.getD i ⟨0,0⟩)) ((k:Int).toNat+0) 0)) ()) ((λ_=>vi (i64.wrap (toI ((λi=>vi (QJ l i)) ((λi=>QA.enc (cs.getD i
  ⟨0,0⟩)) ((k:Int).toNat+0) 0))+1))) ()) (decide ((λi=>QA.enc (cs.getD i ⟨0,0⟩)) ((k:Int).toNat+0) 0=(λi=>QA.enc (cs.getD i ⟨0,0⟩)) ((k:Int).toNat+0)
  0)))-1))) (KO (cs.getD k ⟨0,0⟩).cell (vi (i64.wrap (toI (vi (QJ l (cs.getD k ⟨0,0⟩).cell))+1))) λi=>vi (QJ l i)))),
  (Gc ac body x),(32,.cells 0 3 [vi many]),(QEl f),(QGK g),jx,(184,.cellsR 0 147 [.map 176]),(168,.cellsR 0 146 [.yld 161]),QB3,(QBD cs),(904,
  .rowz true 80 kB (l.length+1) (Qa l.length (λi=>QA.enc (l.getD i ⟨0,0⟩)) (QU [(QCY cs k)] 0))),(0,.frz Xp x.d.ps.n λi=>QA.enc
  (x.d.ps.get i)),(1,.frz Xp x.sK.n λi=>QA.enc (x.sK.get i)),(jS x),(vE x),(vL C x),(QI8 f),(QH5 g),(ji C)]
abbrev QSc(cs:List QB)(f:List QB)(g:List QB)(has:Int->Bool)(has2:Int->Bool)(k:Nat)(l:List QB)(l2:List QB)(many:Int)(x:QD):List Prop:=
  [0=0,0=0,0=0,0=0,0=0,0=0,0=0,0=0,0=0,0=0,0=0,l.length+1=l2.length,cO=cO,l2.length<=l.length+1,QC 2 l2.length (Qa
  l.length (λi=>QA.enc (l.getD i ⟨0,0⟩)) (QU [(QCY cs k)] 0)) λi=>QA.enc (l2.getD i ⟨0,0⟩),Ka (vj 0) (vj 0) (Qc (cs.getD k ⟨0,
  0⟩).cell true has) has2 (KO (cs.getD k ⟨0,0⟩).cell (vi (i64.wrap (toI (vi (QJ l (cs.getD k ⟨0,0⟩).cell))+1))) λi=>.int false .i64
  (QJ l i)) λi=>vi (QJ l2 i),LoopState.ready=LoopState.ready,(none:Option Code)=none,Array.mk [18]=Array.mk [18],ac=ac,body=body,
  x.d.pK.length=x.d.pK.length,x.d.pK.aK=x.d.pK.aK,x.d.pK.oK=x.d.pK.oK,x.d.pK.dK.lo=x.d.pK.dK.lo,x.d.pK.dK.hi=x.d.pK.dK.hi,
  x.d.wide=x.d.wide,x.d.high=x.d.high,x.d.turn=x.d.turn,0=0,x.d.ps.n=x.d.ps.n,cO=cO,0=0,x.sK.n=x.sK.n,cO=cO,0=0,x.hang.n =
  x.hang.n,cO=cO,x.lost=x.lost,x.fK=x.fK,0=0,0=0,0=0,0=0,0=0,0=0,0=0,0=0,(0:Int)=0,0=0,0=0,0=0,0=0,(0:Int) =
  0,x.d.pK.length=x.d.pK.length,x.d.pK.aK=x.d.pK.aK,x.d.pK.oK=x.d.pK.oK,x.d.pK.dK.lo=x.d.pK.dK.lo,x.d.pK.dK.hi=x.d.pK.dK.hi,
  x.d.wide=x.d.wide,x.d.high=x.d.high,x.d.turn=x.d.turn,0=0,x.d.ps.n=x.d.ps.n,cO=cO,0=0,x.sK.n=x.sK.n,cO=cO,0=0,x.hang.n =
  x.hang.n,cO=cO,x.lost=x.lost,x.fK=x.fK,0=0,0=0,(0:Int)=0,0=0,0=0,(0:Int)=0,(0:Int)=0,false=false,0=0,0=0,Fn.func
  79=Fn.func 79,0=0,0=0,many=many,0=0,f.length=f.length,cO=cO,f.length<=f.length,QC 2 f.length (λi=>QA.enc (f.getD i ⟨0,0⟩)) λi=>
  QA.enc (f.getD i ⟨0,0⟩),0=0,g.length=g.length,cO=cO,g.length<=g.length,QC 2 g.length (λi=>QA.enc (g.getD i ⟨0,0⟩)) λi=>QA.enc (g.getD i
  ⟨0,0⟩),Fn.func 80=Fn.func 80,0=0,0=0,0=0,0=0,0=0,0=0,0=0,0=0,0=0,0=0,0=0,0=0,x.d.pK.length=x.d.pK.length,x.d.pK.aK =
  x.d.pK.aK,x.d.pK.oK=x.d.pK.oK,x.d.pK.dK.lo=x.d.pK.dK.lo,x.d.pK.dK.hi=x.d.pK.dK.hi,x.d.wide=x.d.wide,x.d.high=x.d.high,x.d.turn =
  x.d.turn,0=0,x.d.ps.n=x.d.ps.n,cO=cO,0=0,x.sK.n=x.sK.n,cO=cO,0=0,x.hang.n=x.hang.n,cO=cO,x.lost=x.lost,
  x.fK=x.fK,x.d.pK.length=x.d.pK.length,x.d.pK.aK=x.d.pK.aK,x.d.pK.oK=x.d.pK.oK,x.d.pK.dK.lo=x.d.pK.dK.lo,x.d.pK.dK.hi =
  x.d.pK.dK.hi,x.d.wide=x.d.wide,x.d.high=x.d.high,x.d.turn=x.d.turn,0=0,x.d.ps.n=x.d.ps.n,cO=cO,0=0,x.sK.n=x.sK.n,cO=cO,
  0=0,x.hang.n=x.hang.n,cO=cO,x.lost=x.lost,x.fK=x.fK,0=0,C.length=C.length,cO=cO,C.length=C.length,Q1 2 C.length
  (λi=>(QG C i).length) (λi=>(QG C i).length) (λi j=>QA.enc ((QG C i).getD j ⟨0,0⟩)) λi j=>QA.enc ((QG C i).getD j ⟨0,0⟩),x.d.ps.n<=x.d.ps.n,
  QC 28 x.d.ps.n (λi=>QA.enc (x.d.ps.get i)) λi=>QA.enc (x.d.ps.get i),x.sK.n<=x.sK.n,QC 28 x.sK.n (λi=>QA.enc (x.sK.get i)) λi=>
  QA.enc (x.sK.get i),x.hang.n<=x.hang.n,QC 4 x.hang.n (λi=>QA.enc (x.hang.get i)) λi=>QA.enc (x.hang.get i)]
noncomputable abbrev QDi:Nat×Blk:=
  (200,.cells 0 38 [.slz 1016 0 (i64.wrap ((l2.length:Int)-1)).toNat cO])
noncomputable abbrev QCW(k:Nat)(l2:List QB):Nat×Blk:=
  (176,.mpf i64 (vj 0) (Qc (cs.getD k ⟨0,0⟩).cell true has') (KO (cs.getD k ⟨0,0⟩).cell (vi (i64.wrap (toI (vi (QJ l2
  (cs.getD k ⟨0,0⟩).cell))-1))) λi=>vi (QJ l2 i)))
noncomputable abbrev QD6:Nat×Blk:=
  (32,.cells 0 3 [vi many'])
noncomputable abbrev QCx:Nat×Blk:=
  (16,.cells 0 38 [.slz 1017 0 f'.length cO])
noncomputable abbrev QC0:Nat×Blk:=
  (24,.cells 0 38 [.slz 1018 0 g'.length cO])
noncomputable abbrev QDH:Nat×Blk:=
  (1016,.rowz true 80 kB l2.length λi=>QA.enc (l2.getD i ⟨0,0⟩))
noncomputable abbrev QC8:Nat×Blk:=
  (1017,.rowz true 80 kB f'.length λi=>QA.enc (f'.getD i ⟨0,0⟩))
noncomputable abbrev QDv:Nat×Blk:=
  (1018,.rowz true 80 kB g'.length λi=>QA.enc (g'.getD i ⟨0,0⟩))
noncomputable abbrev QM2(cs:List QB)(f':List QB)(g':List QB)(has':Int->Bool)(k:Nat)(l2:List QB)(many':Int)(x:QD):List (Nat×Blk):=
  [(QDi l2),(QCW cs has' k l2),(Gc ac body x),(QD6 many'),(QCx f'),(QC0 g'),jx,(184,.cellsR 0 147 [.map 176]),(168,.cellsR 0 146 [.yld 161]),QB3,(QBD
  cs),(QDH l2),(0,.frz Xp x.d.ps.n λi=>QA.enc (x.d.ps.get i)),(1,.frz Xp x.sK.n λi=>QA.enc (x.sK.get i)),(jS x),(vE x),(vL C x),(QC8 f'),
  (QDv g'),(ji C)]
noncomputable abbrev QGS(has:Int->Bool)(l:List QB)(many:Int)(x:QD):List (Nat×Blk):=
  [(200,.cells 0 38 [.slz 280 0 l.length cO]),(176,.mpf i64 (vj 0) has λi=>vi (QJ l i)),(Gc ac body x),(32,.cells 0 3 [.int
  false .i64 many]),(QEl f),(QGK g),(280,.rowz true 80 kB l.length λi=>QA.enc (l.getD i ⟨0,0⟩)),(0,.frz Xp x.d.ps.n λi=>QA.enc
  (x.d.ps.get i)),(1,.frz Xp x.sK.n λi=>QA.enc (x.sK.get i)),(jS x),(vE x),(vL C x),jx,(QI8 f),(QH5 g),(ji C)]
theorem QXY(pb1 pb2:List Prop->Bool)(x:QD)(C:List (List QB))(ac body:Code)(cs l l2:List QB)(has has2:Int->Bool)(many:Int)(f g:List QB)(k:Nat)(has':Int->Bool)(many':Int)(f' g':List QB)(g0:Nat->Value):exec (mkC prog (X7 pb1 pb2 x C l2 (trU x C ac body l2 has2 many f g has' many' f' g'))) (hnd (mkC prog (X7 pb1 pb2 x C l2 (trU x C ac body l2 has2 many f g has' many' f' g'))) 0) (QT f80 0) (JSt.inst (trJ x C ac body cs l has many f g k) g0) (KG jz WQ) = .br (decide ((k:Int)<(cs.length:Int))) (.need (decide ((0:Int)<=(k:Int)/\(k:Int)<(cs.length:Int))&&decide (cs.length<=cs.length)) (.need (decide (k<cs.length)) (.all (λ(g0:Nat->Value)=>.need (isI i64 (vi (QJ l (cs.getD k ⟨0,0⟩).cell))) (.br (decide (toI (vi (QJ l (cs.getD k ⟨0,0⟩).cell))≥bif (cs.getD k ⟨0,0⟩).cell == -2 then x.fK else (1:Int))) (.leaf (.tup (GA cs k)) ((QEw C ac body cs f g has l many x))) (.need (decide (l.length<=l.length)&&(true&&decide ((l.length+1+(l.length+1) / 4+192)*16<=281474976710656/\l.length+1<=9223372036854775807))) (.need (isI i64 (vi (QJ l (cs.getD k ⟨0,0⟩).cell))) (.need (pb1 ((QM8 C cs k l l2 x))) (.br (!Kn x l2) (.need (isI i64 (Bool.rec ((λ_=>(λi=>vi (QJ l i)) ((λi=>QA.enc (cs.getD i ⟨0,0⟩)) ((k:Int).toNat+0) 0)) ()) ((λ_=>vi (i64.wrap (toI ((λi=>vi (QJ l i)) ((λi=>QA.enc (cs.getD i ⟨0,0⟩)) ((k:Int).toNat+0) 0))+1))) ()) (decide ((λi=>QA.enc (cs.getD i ⟨0,0⟩)) ((k:Int).toNat+0) 0=(λi=>QA.enc (cs.getD i ⟨0,0⟩)) ((k:Int).toNat+0) 0)))) (.need (decide ((0:Int)<=i64.wrap ((↑(l.length+1):Int)-1)/\(i64.wrap ((↑(l.length+1):Int)-1)).toNat<=l.length+1-0)) (.leaf (.tup (GA cs k)) ((QHR C ac body cs f g has k l many x))))) (.need (pb2 ((QSc C ac body cs f g has has2 k l l2 many x))) (.need (isI i64 (vi (QJ l2 (cs.getD k ⟨0,0⟩).cell))) (.need (decide ((0:Int)<=i64.wrap ((l2.length:Int)-1)/\(i64.wrap ((l2.length:Int)-1)).toNat<=l2.length-0)) (.br (false) (.leaf (.tup [.nili,.ptr 98 0 0,.bool true false]) ([(QDi l2),(QCW cs has' k l2),(Gc ac body x),(QD6 many'),(QCx f'),(QC0 g'),(QDH l2),(0,.frz Xp x.d.ps.n λi=>QA.enc (x.d.ps.get i)),(1,.frz Xp x.sK.n λi=>QA.enc (x.sK.get i)), (jS x),(vE x),(vL C x),jx,(QC8 f'),(QDv g'),(ji C)])) (.leaf (.tup (GA cs k)) ((QM2 C ac body cs f' g' has' k l2 many' x)))))))))))))))) (.leaf (.tup [.ptr 0 0 0,.ptr 98 0 0]) ((QGS C ac body f g has l many x))):=by kernel_rfl
noncomputable abbrev QI5:List AV:=
  [.ptr 200 0 0,.ptr 128 0 0,.ptr 184 0 0,.ptr 168 0 0,.ptr 208 0 0,.slz 304 0 cs.length cO,vi (cs.length:Int),vi (i64.wrap ((k :
  Int)+1))]
abbrev Xm:List Prop:=
  [0=0,0=0,0=0,0=0,0=0,0=0]
abbrev QGu(k':Nat):List Prop:=
  [0=0,0=0,0=0,0=0,0=0,cs.length=cs.length,cO=cO,(cs.length:Int)=(cs.length:Int),i64.wrap ((k:Int)+1)=(k':Int),cs.length <=
  cs.length,QC 2 cs.length (λi=>QA.enc (cs.getD i ⟨0,0⟩)) λi=>QA.enc (cs.getD i ⟨0,0⟩),0=0]
abbrev QLz(l:List QB):List Prop:=
  [l.length=l.length,cO=cO,l.length<=l.length,QC 2 l.length (λi=>QA.enc (l.getD i ⟨0,0⟩)) λi=>QA.enc (l.getD i ⟨0,0⟩),Ka (.int true .i64 0)
  (.int true .i64 0) has has (λi=>.int false .i64 (QJ l i)) λi=>.int false .i64 (QJ l i),LoopState.ready=LoopState.ready,(none:Option Code)=none,Array.mk [18] =
  Array.mk [(18:Tmp)]]
abbrev XA:List Prop:=
  [x.d.pK.aK=x.d.pK.aK,x.d.pK.oK=x.d.pK.oK,x.d.pK.dK.lo=x.d.pK.dK.lo,x.d.pK.dK.hi=x.d.pK.dK.hi,x.d.wide=x.d.wide,x.d.high =
  x.d.high,x.d.turn=x.d.turn,0=0,x.d.ps.n=x.d.ps.n,cO=cO,0=0,x.sK.n=x.sK.n,cO=cO,0=0,x.hang.n=x.hang.n,cO=cO]
abbrev HM:List Prop:=
  [0=0,(0:Int)=0,0=0,0=0,0=0,0=0,(0:Int)=0,x.d.pK.length=x.d.pK.length]
abbrev QHP:List Prop:=
  [0=0,0=0,(0:Int)=0,0=0,0=0,(0:Int)=0,(0:Int)=0,false=false,0=0,0=0,Fn.func (79:FuncId)=Fn.func (79:FuncId),0=0,0=0,many=many,0 =
  0,f.length=f.length,cO=cO,f.length<=f.length,QC 2 f.length (λi=>QA.enc (f.getD i ⟨0,0⟩)) λi=>QA.enc (f.getD i ⟨0,0⟩),0=0,g.length =
  g.length,cO=cO,g.length<=g.length,QC 2 g.length (λi=>QA.enc (g.getD i ⟨0,0⟩)) λi=>QA.enc (g.getD i ⟨0,0⟩)]
abbrev QJB:List Prop:=
  [x.lost=x.lost,x.fK=x.fK,0=0,C.length=C.length,cO=cO,C.length=C.length,Q1 2 C.length (λi=>(QG C i).length) (λi=>(QG C
  i).length) (λi j=>QA.enc ((QG C i).getD j ⟨0,0⟩)) λi j=>QA.enc ((QG C i).getD j ⟨0,0⟩),x.d.ps.n<=x.d.ps.n,QC 28 x.d.ps.n (λi=>QA.enc (x.d.ps.get
  i)) λi=>QA.enc (x.d.ps.get i),x.sK.n<=x.sK.n,QC 28 x.sK.n (λi=>QA.enc (x.sK.get i)) λi=>QA.enc (x.sK.get i),x.hang.n<=x.hang.n,QC 4
  x.hang.n (λi=>QA.enc (x.hang.get i)) λi=>QA.enc (x.hang.get i)]
theorem QMn(C:List (List QB))(ac body:Code)(cs l:List QB)(has:Int->Bool)(many:Int)(f g:List QB)(k k':Nat):QI 272 (QI5 cs k) ((QEw C ac body cs f g has l many x)) (trJ x C ac body cs l has many f g k')=(some (Xm++(QGu cs k k')++(QLz has l)++[ac=ac,body=body, x.d.pK.length=x.d.pK.length]++(XA x)++[x.lost=x.lost,x.fK=x.fK]++Xm++[0=0]++(HM x)++(XA x)++[x.lost=x.lost,x.fK=x.fK] ++ (QHP f g many)++[Fn.func 80=Fn.func (80:FuncId)]++Xm++Xm++[x.d.pK.length=x.d.pK.length]++(XA x)++[x.lost=x.lost,x.fK=x.fK, x.d.pK.length=x.d.pK.length]++(XA x)++(QJB C x))):=by kernel_rfl
theorem QKD(x:QD)(C:List (List QB))(ac body:Code)(cs l:List QB)(has h':Int->Bool)(many:Int)(f g:List QB)(k k':Nat):QI 272 (QI5 cs k) ((QHR C ac body cs f g has k l many x)) (trJ x C ac body cs l h' many f g k')=(some (Xm++(QGu cs k k')++[(i64.wrap ((↑(l.length+1):Int)-1)).toNat=l.length,cO=cO,l.length<=l.length+1,QC 2 l.length (Qa l.length (λi=>QA.enc (l.getD i ⟨0,0⟩)) (QU [(QCY cs k)] 0)) λi=>QA.enc (l.getD i ⟨0,0⟩),Ka (vj 0) (vj 0) (Qc (cs.getD k ⟨0,0⟩).cell true (Qc (cs.getD k ⟨0,0⟩).cell true has)) h' (KO (cs.getD k ⟨0,0⟩).cell (vi (i64.wrap (toI (Bool.rec ((λx=>(λi=>vi (QJ l i)) ((λi=>QA.enc (cs.getD i ⟨0,0⟩)) ((k:Int).toNat+0) 0)) ()) ((λx=>vi (i64.wrap (toI ((λi=>vi (QJ l i)) ((λi=>QA.enc (cs.getD i ⟨0,0⟩)) ((k:Int).toNat+0) 0))+1))) ()) (decide ((λi=>QA.enc (cs.getD i ⟨0,0⟩)) ((k:Int).toNat+0) 0=(λi=>QA.enc (cs.getD i ⟨0,0⟩)) ((k:Int).toNat+0) 0)))-1))) (KO (cs.getD k ⟨0,0⟩).cell (vi (i64.wrap (toI (vi (QJ l (cs.getD k ⟨0,0⟩).cell))+1))) λi=>vi (QJ l i))) λi=>vi (QJ l i),LoopState.ready=LoopState.ready,(none:Option Code)=none,Array.mk [18]=Array.mk [(18:Tmp)],ac=ac,body=body,x.d.pK.length=x.d.pK.length]++(XA x)++[x.lost=x.lost, x.fK=x.fK]++Xm++[0=0]++(HM x)++(XA x)++[x.lost=x.lost,x.fK=x.fK]++(QHP f g many)++[Fn.func 80=Fn.func (80:FuncId)]++Xm ++ Xm++[x.d.pK.length=x.d.pK.length]++(XA x)++[x.lost=x.lost,x.fK=x.fK,x.d.pK.length=x.d.pK.length]++(XA x)++(QJB C x))):=by kernel_rfl
abbrev QSH(h':Int->Bool)(has':Int->Bool)(k:Nat)(l:List QB)(l2:List QB):List Prop:=
  [(i64.wrap ((l2.length:Int)-1)).toNat=l.length,cO=cO,l.length<=l2.length,QC 2 l.length (λi=>QA.enc (l2.getD i ⟨0,0⟩)) λi=>QA.enc
  (l.getD i ⟨0,0⟩),Ka (.int true .i64 0) (.int true .i64 0) (Qc (cs.getD k ⟨0,0⟩).cell true has') h' (KO (cs.getD k ⟨0,0⟩).cell (.int false .i64 (i64.wrap (toI
  (.int false .i64 (QJ l2 (cs.getD k ⟨0,0⟩).cell))-1))) λi=>.int false .i64 (QJ l2 i)) λi=>.int false .i64 (QJ l i)]
abbrev QOw:List Prop:=
  [0=0,0=0,(0:Int)=0,0=0,0=0,(0:Int)=0,(0:Int)=0,false=false,0=0,0=0,Fn.func (79:FuncId)=Fn.func (79:FuncId),0=0,0=0,many'=many',0
  = 0,f'.length=f'.length,cO=cO,f'.length<=f'.length,QC 2 f'.length (λi=>QA.enc (f'.getD i ⟨0,0⟩)) λi=>QA.enc (f'.getD i ⟨0,0⟩),0=0,
  g'.length=g'.length,cO=cO,g'.length<=g'.length,QC 2 g'.length (λi=>QA.enc (g'.getD i ⟨0,0⟩)) λi=>QA.enc (g'.getD i ⟨0,0⟩)]
theorem QZg(C:List (List QB))(ac body:Code)(cs l l2:List QB)(k:Nat)(has' h':Int->Bool)(many':Int)(f' g':List QB)(k':Nat):QI 272 (QI5 cs k) ((QM2 C ac body cs f' g' has' k l2 many' x)) (trJ x C ac body cs l h' many' f' g' k')=(some (Xm++(QGu cs k k')++(QSH cs h' has' k l l2) ++ [LoopState.ready=LoopState.ready,(none:Option Code)=none,Array.mk [18]=Array.mk [(18:Tmp)],ac=ac,body=body,x.d.pK.length=x.d.pK.length]++(XA x) ++ [x.lost=x.lost,x.fK=x.fK]++Xm++[0=0]++(HM x)++(XA x)++[x.lost=x.lost,x.fK=x.fK]++(QOw f' g' many')++[Fn.func 80=Fn.func (80:FuncId)]++Xm++Xm++[x.d.pK.length=x.d.pK.length]++(XA x)++[x.lost=x.lost,x.fK=x.fK,x.d.pK.length=x.d.pK.length]++(XA x) ++ (QJB C x))):=by kernel_rfl
theorem QRr(C:List (List QB))(ac body:Code)(l:List QB)(has:Int->Bool)(many:Int)(f g:List QB):QI 272 [] ((QGS C ac body f g has l many x)) (trE x ac body l has many f g)=(some ([0=0]++(QLz has l)++[ac=ac,body=body,x.d.pK.length=x.d.pK.length] ++ (XA x)++[x.lost=x.lost,x.fK=x.fK]++Xm++[0=0]++(HM x)++(XA x)++[x.lost=x.lost,x.fK=x.fK]++(QHP f g many))):=by kernel_rfl
noncomputable abbrev QOU(cs:List QB)(f':List QB)(g':List QB)(has':Int->Bool)(k:Nat)(l2:List QB)(many':Int)(x:QD):List (Nat×Blk):=
  [(QDi l2),(QCW cs has' k l2),(161,.lp LoopState.done (some (Code.exit 0)) (trT x) (Array.mk [18]) ac body),(QD6 many'),(QCx f'),(QC0 g'),(QDH l2),(0,.frz Xp
  x.d.ps.n λi=>QA.enc (x.d.ps.get i)),(1,.frz Xp x.sK.n λi=>QA.enc (x.sK.get i)),(jS x),(vE x),(vL C x),jx,(QC8 f'),(QDv g'),(ji C)]
theorem QUQ(pb1 pb2:List Prop->Bool)(x:QD)(C:List (List QB))(ac body:Code)(cs l l2:List QB)(has has2:Int->Bool)(many:Int)(f g:List QB)(k:Nat)(has':Int->Bool)(many':Int)(f' g':List QB)(g0:Nat->Value):exec (mkC prog (X7 pb1 pb2 x C l2 (trV x C ac body l2 has2 many f g has' many' f' g'))) (hnd (mkC prog (X7 pb1 pb2 x C l2 (trV x C ac body l2 has2 many f g has' many' f' g'))) 0) (QT f80 0) (JSt.inst (trJ x C ac body cs l has many f g k) g0) (KG jz WQ) = .br (decide ((k:Int)<(cs.length:Int))) (.need (decide ((0:Int)<=(k:Int)/\(k:Int)<(cs.length:Int))&&decide (cs.length<=cs.length)) (.need (decide (k<cs.length)) (.all (λ(g0:Nat->Value)=>.need (isI i64 (vi (QJ l (cs.getD k ⟨0,0⟩).cell))) (.br (decide (toI (vi (QJ l (cs.getD k ⟨0,0⟩).cell))≥bif (cs.getD k ⟨0,0⟩).cell == -2 then x.fK else (1:Int))) (.leaf (.tup (GA cs k)) ((QEw C ac body cs f g has l many x))) (.need (decide (l.length<=l.length)&&(true&&decide ((l.length+1+(l.length+1) / 4+192)*16<=281474976710656/\l.length+1<=9223372036854775807))) (.need (isI i64 (vi (QJ l (cs.getD k ⟨0,0⟩).cell))) (.need (pb1 ((QM8 C cs k l l2 x))) (.br (!Kn x l2) (.need (isI i64 (Bool.rec ((λ_=>(λi=>vi (QJ l i)) ((λi=>QA.enc (cs.getD i ⟨0,0⟩)) ((k:Int).toNat+0) 0)) ()) ((λ_=>vi (i64.wrap (toI ((λi=>vi (QJ l i)) ((λi=>QA.enc (cs.getD i ⟨0,0⟩)) ((k:Int).toNat+0) 0))+1))) ()) (decide ((λi=>QA.enc (cs.getD i ⟨0,0⟩)) ((k:Int).toNat+0) 0=(λi=>QA.enc (cs.getD i ⟨0,0⟩)) ((k:Int).toNat+0) 0)))) (.need (decide ((0:Int)<=i64.wrap ((↑(l.length+1):Int)-1)/\(i64.wrap ((↑(l.length+1):Int)-1)).toNat<=l.length+1-0)) (.leaf (.tup (GA cs k)) ((QHR C ac body cs f g has k l many x))))) (.need (pb2 ((QSc C ac body cs f g has has2 k l l2 many x))) (.need (isI i64 (vi (QJ l2 (cs.getD k ⟨0,0⟩).cell))) (.need (decide ((0:Int)<=i64.wrap ((l2.length:Int)-1)/\(i64.wrap ((l2.length:Int)-1)).toNat<=l2.length-0)) (.br (true) (.leaf (.tup [.nili,.ptr 98 0 0,.bool true false]) ((QOU C ac body cs f' g' has' k l2 many' x))) (.leaf (.tup (GA cs k)) ([(QDi l2),(QCW cs has' k l2),(161,.lp LoopState.done (some (Code.exit 0)) (trT x) (Array.mk [18]) ac body),(QD6 many'),(QCx f'),(QC0 g'), jx,(184,.cellsR 0 147 [.map 176]),(168,.cellsR 0 146 [.yld 161]),QB3,(QBD cs),(QDH l2),(0,.frz Xp x.d.ps.n λi=>QA.enc (x.d.ps.get i)),(1,.frz Xp x.sK.n λi=>QA.enc (x.sK.get i)),(jS x),(vE x),(vL C x),(QC8 f'),(QDv g'),(ji C)]))))))))))))))) (.leaf (.tup [.ptr 0 0 0,.ptr 98 0 0]) ((QGS C ac body f g has l many x))):=by kernel_rfl
theorem QXy(C:List (List QB))(ac body:Code)(cs l l2:List QB)(k:Nat)(has' h':Int->Bool)(many':Int)(f' g':List QB):QI 272 [.bool true false] ((QOU C ac body cs f' g' has' k l2 many' x)) (trF x ac body l h' many' f' g')=(some ([false=false,0=0]++(QSH cs h' has' k l l2) ++ [LoopState.done=LoopState.done,some (Code.exit 0)=some (Code.exit 0),Array.mk [18]=Array.mk [(18:Tmp)],ac=ac,body=body,x.d.pK.length=x.d.pK.length]++(XA x)++[x.lost=x.lost,x.fK=x.fK]++Xm++[0=0]++(HM x)++(XA x)++[x.lost=x.lost,x.fK=x.fK]++(QOw f' g' many'))):=by kernel_rfl
