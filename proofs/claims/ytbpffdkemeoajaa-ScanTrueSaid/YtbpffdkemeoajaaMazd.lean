/- - -/
import Derived.Test.YtbpffdkemeoajaaMazc
open Go.IntKind (i64)
set_option maxRecDepth 100000
namespace Go.Proofs.Ytbpffdkemeoajaa
open Go.SX
def vL(pb:List Prop→Bool)(U:UC):Tab:=Qe Qn 51 (Jj pb U)
abbrev plX(P:Program)(J:JSt)(X:List (Prop×Ex×JSt)):Hnd:={ hnd (mkE P Qn) 2 with loop:=fun _=>KN 312 GK J X }
noncomputable abbrev QD5:Nat×Blk:=
  (217,.lp LoopState.ready none plT (Array.mk [12]) (QM Try.f50 0).1 (QM Try.f50 0).2)
variable {d:Nat}(C:List (List QB))(ac:Code)(cs:List QB)(body:Code)(x:QE)(has:Int→Bool)(l2:List QB)(k:Nat)(f g:List QB)(many:Int)(has':Int→Bool)(f' g':List QB)(many':Int)
noncomputable abbrev QQN:Nat×Blk:=
  (48,.cellsR 0 125 [vi x.d.play.length,vi x.d.play.slack,vi x.d.play.loose,vi x.d.play.damp.lo,.int false .i64
  x.d.play.damp.hi,vi x.d.wide,vi x.d.high,.bool false x.d.turn,.slz 0 0 x.d.ps.n cO,.slz 1 0 x.scans.n cO,.slz 2 0 x.hang.n (Cap.of
  0),vi x.lost,vi x.foreign,.slz 49 0 C.length cO])
abbrev QAI:List CK:=
  [.int .i64,.int .i64,.int .i64,.int .i64,.int .i64,.int .i64,.int .i64,.int .i64,.int .i64,.int .i64,.int .i64,.int .i64,.int .i64,.int .i64,.int .i64,.int .i64,.int
  .i64,.int .i64,.int .i64,.int .i64,.int .i64,.int .i64,.int .i64,.int .i64,.int .i64,.int .i64,.int .i64,.int .i64]
noncomputable abbrev QJt:Nat×Blk:=
  (49,.frz2 false 38 [.int .i64,.int .i64] C.length (fun i=>(QJ C i).length) fun i j=>QA.enc ((QJ C i).getD j ⟨0,0⟩))
noncomputable abbrev QER(f:Nat→Int)(has:Int→Bool)(l:List QB)(many:Int)(x:QE):List (Nat×Blk):=
  [(256,.cells 0 38 [.slz 304 0 l.length cO]),(232,.mpf i64 (.int true .i64 0) has fun i => .int false .i64 (QH l i)),QD5,(160,.cells 0 3 [.int false .i64
  many]),(128,.cells 1 95 [vi (f 0),vi (f 1),vi (f 2),vi (f 3),vi (f 4),vi (f 5),.int false .i64
  (f 6),vi (f 7),vi (f 8),vi (f 9),vi (f 10),vi (f 11),vi (f 12)]),(304,.rowz true 56 [.int .i64,
  .int .i64] l.length fun i=>QA.enc (l.getD i ⟨0,0⟩)),(QQN C x),(136,.cellsR 0 99 [.fn (Fn.func 51) []]),(184,.cellsR 0 89 [.ptr 48 0 0]),(0,.frz QAI x.d.ps.n fun i=>
  QA.enc (x.d.ps.get i)),(1,.frz QAI x.scans.n fun i=>QA.enc (x.scans.get i)),(2,.frz [.int .i64,.int .i64,.int .i64,.int .i64] x.hang.n fun i=>QA.enc (x.hang.get
  i)),(QJt C)]
noncomputable abbrev QKY(f2:Nat→Int)(has:Int→Bool)(l:List QB)(many:Int)(x:QE):List (Nat×Blk):=
  [(256,.cells 0 38 [.slz 304 0 l.length cO]),(232,.mpf i64 (.int true .i64 0) has fun i => .int false .i64 (QH l i)),QD5,(160,.cells 0 3 [.int false .i64
  (i64.wrap (many+1))]),(128,.cells 1 95 [vi (f2 0),vi (f2 1),vi (f2 2),vi (f2 3),vi (f2 4),.int
  false .i64 (f2 5),vi (f2 6),vi (f2 7),vi (f2 8),vi (f2 9),vi (f2 10),vi (f2 11),.int false .i64
  (f2 12)]),(304,.rowz true 56 [.int .i64,.int .i64] l.length fun i=>QA.enc (l.getD i ⟨0,0⟩)),(QQN C x),(136,.cellsR 0 99 [.fn (Fn.func 51) []]),(184,.cellsR 0 89 [.ptr
  48 0 0]),(0,.frz QAI x.d.ps.n fun i=>QA.enc (x.d.ps.get i)),(1,.frz QAI x.scans.n fun i=>QA.enc (x.scans.get i)),(2,.frz [.int .i64,.int .i64,.int .i64,.int .i64]
  x.hang.n fun i=>QA.enc (x.hang.get i)),(QJt C)]
theorem QKS(pb:List Prop→Bool)(x:QE)(C:List (List QB))(l:List QB)(has:Int→Bool)(many:Int)(f:Nat→Int)(f2:Nat→Int):(Vc (mkE Try.prog (vL pb (pmU l f f2))) (msN Try.prog (vL pb (pmU l f f2))) Try.f77 QEt (QBW x C (QM Try.f50 0).1 (QM Try.f50 0).2 l has many f).hp 312 fun v
  h _=>Yc GK v h) = .br ((l.length:Int)==(x.scans.n:Int)) (.need (isI i64 (.int false .i64 (QH l (-2:Int)))) (.br (decide (i64.wrap ((x.d.ps.n:Int)
  - i64.wrap ((l.length:Int)-toI (.int false .i64 (QH l (-2:Int)))))>x.lost)) (.leaf (.bool true true) ((QER C f has l many x))) (.need (pb ([f 0=f 0,f 1=f 1,
  f 2=f 2,f 3=f 3,f 4=f 4,f 5=f 5,f 6=f 6,f 7=f 7,f 8=f 8,f 9=f 9,f 10=f 10,f 11=f 11,f 12=f 12,0=0,l.length=l.length,Cap.of 0=Cap.of 0,
  l.length≤l.length,QC 2 l.length (fun i=>QA.enc (l.getD i ⟨0,0⟩)) fun i=>QA.enc (l.getD i ⟨0,0⟩)])) (.leaf (.bool true true) ((QKY C f2 has l many x)))))) (.need
  (decide ((0 : Int) ≤ (l.length : Int) ∧ (l.length : Int) < (C.length : Int)) && decide (C.length ≤ C.length)) (.need (decide (l.length < C.length)) (.fail ("a loop")))) := by kernel_rfl
abbrev QIl(l:List QB):List Prop:=
  [0=0,l.length=l.length,cO=cO,l.length≤l.length,QC 2 l.length (fun i=>QA.enc (l.getD i ⟨0,0⟩)) fun i=>QA.enc (l.getD i ⟨0,0⟩),KA (.int true
  .i64 0) (.int true .i64 0) has has (fun i => .int false .i64 (QH l i)) fun i => .int false .i64 (QH l i),LoopState.ready=LoopState.ready,(none:Option Code)=none,
  Array.mk [12]=Array.mk [(12:Tmp)],(QM Try.f50 0).1=(QM Try.f50 0).1,(QM Try.f50 0).2=(QM Try.f50 0).2,0=0,0=0]
abbrev QHN:List Prop:=
  [(0:Int)=0,(0:Int)=0,(0:Int)=0,(0:Int)=0,(0:Int)=0,(0:Int)=0,(0:Int)=0,(0:Int)=0]
abbrev QFf:List Prop:=
  [(0:Int)=0,(0:Int)=0,(0:Int)=0,(0:Int)=0,(0:Int)=0,Fn.func (51:FuncId)=Fn.func (51:FuncId),0=0,0=0,0=0,0=0,0=0,0=0,false=false,0
  = 0,0=0,0=0,0=0,Fn.func (76:FuncId)=Fn.func (76:FuncId),0=0,0=0]
theorem QXC(C:List (List QB))(l:List QB)(has:Int→Bool)(many:Int)(f:Nat→Int):QK 312 [(.bool true true)] ((QER C f has l many x)) (Kk (plU x C (QM Try.f50 0).1 (QM Try.f50 0).2 l has many f has many f))=(some ([true=true]++(QIl has l) ++
  QHN++QFf++[many=many,f 0=f 0,f 1=f 1,f 2=f 2,f 3=f 3,f 4=f 4,f 5=f 5,f 6=f 6,f 7=f 7,f 8=f 8,f 9=f 9,f 10=f 10,f 11=f 11,f 12=f 12])):=by kernel_rfl
theorem Qag(C:List (List QB))(l:List QB)(has:Int→Bool)(many:Int)(f:Nat→Int)(f2:Nat→Int)(many':Int)(f':Nat→Int):QK 312 [(.bool true true)] ((QKY C f2 has l many x)) (Kk (plU x C (QM Try.f50 0).1 (QM Try.f50 0).2 l has many f has many' f'))=(some ([true=true]++(QIl has l)
  ++ QHN++QFf++[i64.wrap (many+1)=many',f2 0=f' 0,f2 1=f' 1,f2 2=f' 2,f2 3=f' 3,f2 4=f' 4,f2 5=f' 5,f2 6=f' 6,f2 7=f' 7,f2 8=f' 8,f2 9 =
  f' 9,f2 10=f' 10,f2 11=f' 11,f2 12=f' 12])):=by kernel_rfl
noncomputable abbrev QPX(f':Nat→Int)(has':Int→Bool)(l:List QB)(many':Int):List (Nat×Blk):=
  [(256,.cells 0 38 [.slz 320 0 l.length cO]),(232,.mpf i64 (.int true .i64 0) has' fun i => .int false .i64 (QH l i)),QD5,(160,.cells 0 3 [.int false .i64
  many']),(128,.cells 1 95 [vi (f' 0),vi (f' 1),vi (f' 2),vi (f' 3),vi (f' 4),vi (f' 5),.int
  false .i64 (f' 6),vi (f' 7),vi (f' 8),vi (f' 9),vi (f' 10),vi (f' 11),vi (f' 12)]),(320,.rowz
  true 56 [.int .i64,.int .i64] l.length fun i=>QA.enc (l.getD i ⟨0,0⟩))]
theorem QWf(C:List (List QB))(cs l:List QB)(has:Int→Bool)(many:Int)(f:Nat→Int)(has':Int→Bool)(many':Int)(f':Nat→Int):(Vc (mkE Try.prog Qn) (plX Try.prog (plJ x C (QM Try.f50 0).1 (QM Try.f50 0).2 cs l has many f 0) [(True,.exit 0,plE (QM Try.f50 0).1 (QM Try.f50 0).2 l
  has' many' f')]) Try.f77 QEt (QBW x C (QM Try.f50 0).1 (QM Try.f50 0).2 l has many f).hp 312 fun v h _=>Yc GK v h) = .br ((l.length:Int)==(x.scans.n:Int))
  (.need (isI i64 (.int false .i64 (QH l (-2:Int)))) (.br (decide (i64.wrap ((x.d.ps.n:Int)-i64.wrap ((l.length:Int)-toI (.int false .i64 (QH l
  (-2 : Int))))) > x.lost)) (.leaf (.bool true true) ((QER C f has l many x))) (.fail ("a loop")))) (.need (decide ((0 : Int) ≤ (l.length : Int) ∧ (l.length : Int) < (C.length :
  Int))&&decide (C.length≤C.length)) (.need (decide (l.length<C.length)) (.ask (0=0) (.ask (0=0) (.ask (0=0) (.ask (0=0) (.ask (0=0) (.ask (0=0) (.ask (0=0) (.ask
  (0=0) (.ask (0=0) (.ask (0=0) (.ask (0=0) (.ask ((QJ C l.length).length=cs.length) (.ask (Cap.of 0=Cap.of 0) (.ask ((↑(QJ C l.length).length:Int)=(cs.length :
  Int)) (.ask ((0:Int)=0) (.ask (cs.length≤(QJ C l.length).length) (.ask (QC 2 cs.length (fun j=>QA.enc ((QJ C l.length).getD j ⟨0,0⟩)) fun i=>QA.enc (cs.getD i
  ⟨0,0⟩)) (.ask (0=0) (.ask (l.length=l.length) (.ask (Cap.of 0=Cap.of 0) (.ask (l.length≤l.length) (.ask (QC 2 l.length (fun i=>QA.enc (l.getD i ⟨0,0⟩)) fun i=>
  QA.enc (l.getD i ⟨0,0⟩)) (.ask (KA (.int true .i64 0) (.int true .i64 0) has has (fun i => .int false .i64 (QH l i)) fun i => .int false .i64 (QH l i)) (.ask
  (LoopState.ready=LoopState.ready) (.ask ((none:Option Code)=none) (.ask (Array.mk [(12:Tmp)]=Array.mk [(12:Tmp)]) (.ask ((QM Try.f50 0).1=(QM Try.f50 0).1)
  (.ask ((QM Try.f50 0).2=(QM Try.f50 0).2) (.ask (0=0) (.ask (0=0) (.ask ((0:Int)=0) (.ask ((0:Int)=0) (.ask ((0:Int)=0) (.ask ((0:Int)=0) (.ask ((0 :
  Int)=0) (.ask ((0:Int)=0) (.ask ((0:Int)=0) (.ask ((0:Int)=0) (.ask ((0:Int)=0) (.ask ((0:Int)=0) (.ask ((0:Int)=0) (.ask ((0:Int)=0) (.ask ((0:Int)
  = 0) (.ask (Fn.func (51:FuncId)=Fn.func (51:FuncId)) (.ask (0=0) (.ask (0=0) (.ask (0=0) (.ask (0=0) (.ask (0=0) (.ask (0=0) (.ask (false=false) (.ask (0=0)
  (.ask (0=0) (.ask (0=0) (.ask (0=0) (.ask (Fn.func (76:FuncId)=Fn.func (76:FuncId)) (.ask (0=0) (.ask (0=0) (.ask (many=many) (.ask (f 0=f 0) (.ask (f 1=f 1)
  (.ask (f 2=f 2) (.ask (f 3=f 3) (.ask (f 4=f 4) (.ask (f 5=f 5) (.ask (f 6=f 6) (.ask (f 7=f 7) (.ask (f 8=f 8) (.ask (f 9=f 9) (.ask (f 10=f 10) (.ask (f 11=f
  11) (.ask (f 12=f 12) (.ask (Fn.func (77:FuncId)=Fn.func (77:FuncId)) (.ask (0=0) (.ask (0=0) (.ask (0=0) (.ask (0=0) (.ask (0=0) (.ask (0=0) (.ask (0=0) (.ask
  (0=0) (.ask (0=0) (.ask (0=0) (.ask (0=0) (.ask (0=0) (.ask (Fn.func (51:FuncId)=Fn.func (51:FuncId)) (.ask (x.d.play.length=x.d.play.length) (.ask (x.d.play.slack
  = x.d.play.slack) (.ask (x.d.play.loose=x.d.play.loose) (.ask (x.d.play.damp.lo=x.d.play.damp.lo) (.ask (x.d.play.damp.hi=x.d.play.damp.hi) (.ask (x.d.wide=x.d.wide) (.ask
  (x.d.high=x.d.high) (.ask (x.d.turn=x.d.turn) (.ask (0=0) (.ask (x.d.ps.n=x.d.ps.n) (.ask (Cap.of 0=Cap.of 0) (.ask (0=0) (.ask (x.scans.n=x.scans.n) (.ask (Cap.of 0 =
  Cap.of 0) (.ask (0=0) (.ask (x.hang.n=x.hang.n) (.ask (Cap.of 0=Cap.of 0) (.ask (x.lost=x.lost) (.ask (x.foreign=x.foreign) (.ask (0=0) (.ask (C.length=C.length) (.ask
  (Cap.of 0=Cap.of 0) (.ask (C.length=C.length) (.ask (Kd 2 C.length (fun i=>(QJ C i).length) (fun i=>(QJ C i).length) (fun i j=>QA.enc ((QJ C i).getD j ⟨0,
  0⟩)) fun i j=>QA.enc ((QJ C i).getD j ⟨0,0⟩)) (.ask (x.d.ps.n≤x.d.ps.n) (.ask (QC 28 x.d.ps.n (fun i=>QA.enc (x.d.ps.get i)) fun i=>QA.enc (x.d.ps.get i)) (.ask
  (x.scans.n≤x.scans.n) (.ask (QC 28 x.scans.n (fun i=>QA.enc (x.scans.get i)) fun i=>QA.enc (x.scans.get i)) (.ask (x.hang.n≤x.hang.n) (.ask (QC 4 x.hang.n (fun i
  => QA.enc (x.hang.get i)) fun i=>QA.enc (x.hang.get i)) (.asm (True) (.all (fun(g0:Nat→Value) => .leaf (.bool true true) ((QPX f' has' l
  many'))))))))))))))))))))))))))))))))))))))))))))))))))))))))))))))))))))))))))))))))))))))))))))))))))))))))))))))))))))))))))):=by kernel_rfl
theorem Qck(C:List (List QB))(l:List QB)(has:Int→Bool)(many:Int)(f:Nat→Int)(has':Int→Bool)(many':Int)(f':Nat→Int):QK 312 [(.bool true true)] ((QPX f' has' l many')) (Kk (plU x C (QM Try.f50 0).1 (QM Try.f50 0).2 l has many f has' many' f'))=(some ([true=true,0=0,l.length =
  l.length,cO=cO,l.length≤l.length,QC 2 l.length (fun i=>QA.enc (l.getD i ⟨0,0⟩)) fun i=>QA.enc (l.getD i ⟨0,0⟩),KA (.int true .i64 0) (.int true
  .i64 0) has' has' (fun i => .int false .i64 (QH l i)) fun i => .int false .i64 (QH l i),LoopState.ready=LoopState.ready,(none:Option Code)=none,Array.mk [12]=Array.mk
  [(12:Tmp)],(QM Try.f50 0).1=(QM Try.f50 0).1,(QM Try.f50 0).2=(QM Try.f50 0).2,0=0,0=0]++QHN++QFf++[many'=many',f' 0=f' 0,f' 1=f' 1,f'
  2=f' 2,f' 3=f' 3,f' 4=f' 4,f' 5=f' 5,f' 6=f' 6,f' 7=f' 7,f' 8=f' 8,f' 9=f' 9,f' 10=f' 10,f' 11=f' 11,f' 12=f' 12])):=by kernel_rfl
noncomputable abbrev Yr:Code:=(QM Try.f50 0).1
noncomputable abbrev YY:Code:=(QM Try.f50 0).2
theorem QOB(C:List (List QB))(ac body:Code)(l:List QB)(has:Int→Bool)(many:Int)(f:Nat→Int)(has':Int→Bool)(many':Int)(f':Nat→Int):(plU x C ac body l has many f has' many' f').Ok:=by
 refine⟨(by decide:296≤312),rfl,rfl,?_,rfl,fun _ _=>rfl,fun nid h => ?_⟩
 ·intro q hq;simp only[UC.po,plU,plW,rwL,List.mem_cons,List.not_mem_nil,or_false]at hq;rcases hq with rfl|rfl|rfl|rfl|rfl|rfl<;>refine⟨rfl,rfl,rfl,?_⟩<;>first|exact fun _=>rfl|exact fun h=>absurd (show 312<296 from h) (by decide)
 ·have e0:=Xn 296 312 0 nid (by decide)
  simp only[UC.po,plU,plW,rwL,QBW,plT,QDA,List.map_cons,List.map_nil,Blk.mapId,AV.mapId,AV.mapIdL,Nat.add_zero]at e0 ⊢;rw[e0];rfl
theorem QVZ{x:QE}(hx:K7 x)(C:List (List QB)){l:List QB}(hn:l.length=x.scans.n)(hl:∀ c∈l,K4 c)(s:PlS)(h:Int→Bool)(hgd:V0 x s):QQ Try.prog 77 (uFC (Zg x C Yr YY l h s (Jp x plY l s h))):=by
 obtain⟨many,f⟩:=s;have hs:=hx.s;have hd:=hx.d.n9;have hgd:V0 x (many,f):=hgd;have hT:Qc (vL QS (pmU l f (plL l f l.length))):=Q6.add (QRx l f (by omega) (QPV (by omega) hl))
 have fin:∀(s':PlS),XE (jO (plU x C Yr YY l h many f h s'.1 s'.2)) (Jw (mkE Try.prog (vL QS (pmU l f (plL l f l.length)))) (msN Try.prog (vL QS (pmU l f (plL l f l.length)))) Try.f77 (plU x C Yr YY l h many f h s'.1 s'.2))→QQ Try.prog 77 (uFC (plU x C Yr YY l h many f h s'.1 s'.2)):=fun s' hd=>
  JZ (E:=mkE Try.prog (vL QS (pmU l f (plL l f l.length)))) (QT hT) Try.func77 (by kernel_rfl) (by kernel_rfl) (QOB ..) (fun G h1 _=>He _ hT G h1) ⟨hd⟩
 have he:=QDM (x:=x) (l:=l) (by omega) (by omega)
 cases hb:X2 x l with
 | true=>
  rw[hb]at he;simp only[Jp,hb,Zg];refine fin (many,f) (Q0 (QKS QS x C l h many f (plL l f l.length)) ?_);refine QI (fun _=>QF rfl (QI (fun _ => ?_) (fun q=>Bool.noConfusion (show true=false from he.symm.trans q)))) (fun q=>by rw[hn]at q;simp at q)
  refine⟨rfl,rfl,_,QXC x C l h many f,?_⟩
  repeat' first|with_reducible refine QN ?_ ?_|exact trivial|with_reducible rfl|exact qlr _|exact qRr|exact QZ _ _ _ _|exact K1 _ _ _|refine And.intro ?_ ?_
 | false=>
  rw[hb]at he;simp only[Jp,hb,plY,Zg];refine fin (plY (many,f) l).1 (Q0 (QKS QS x C l h many f (plL l f l.length)) ?_);refine QI (fun _=>QF rfl (QI (fun q=>Bool.noConfusion (show true=false from q.symm.trans he)) (fun _=>QF (Q4.2 ?_) ?_))) (fun q=>by rw[hn]at q;simp at q)
  ·repeat' first|with_reducible refine QN ?_ ?_|exact trivial|with_reducible rfl|exact qlr _|exact qRr|exact QZ _ _ _ _|refine And.intro ?_ ?_
  refine⟨rfl,rfl,_,Qag x C l h many f (plL l f l.length) _ _,?_⟩
  repeat' first|with_reducible refine QN ?_ ?_|exact trivial|with_reducible rfl|exact qlr _|exact qRr|exact QZ _ _ _ _|exact K1 _ _ _|exact rfl|refine And.intro ?_ ?_
theorem QRj{x:QE}(hx:K7 x){C:List (List QB)}{ac body:Code}{cs l:List QB}(hl:l.length<1000)(hls:∀ c∈l,K4 c)(hcs:∀ c∈cs,K4 c)(IH:∀ c∈cs,∀ s h,V0 x s→QQ Try.prog 77 (uFC (Zg x C ac body (l++[c]) h s (YS x C d l s h c))))(t:PlK):(ql Try.prog x C ac body d cs l t).Sound:=by
 unfold ql qp;split
 ·rename_i hk;have hm:=jz (z:=(⟨0,0⟩:QB)) hk.1;refine Wu ((Q6.add (QCI x C _ hx (QAj (by simp) (by simp;omega) ?_))).add (IH _ hm _ _ hk.2))
  intro c hc;rcases List.mem_append.1 hc with h|h
  ·exact hls c h
  ·rw[List.mem_singleton.1 h];exact hcs _ hm
 ·exact Wu ((Q6.add (Zt (by kernel_rfl) _)).add (Zt (by kernel_rfl) _))
theorem QTu{x:QE}(hx:K7 x){C:List (List QB)}(hC:Xt x C){ac body:Code}{l:List QB}(hl:l.length+(d+1)=x.scans.n)(hls:∀ c∈l,K4 c)(IH:∀ c∈QJ C l.length,∀ s h,V0 x s→QQ Try.prog 77 (uFC (Zg x C ac body (l++[c]) h s (YS x C d l s h c))))(s:PlS)(h:Int→Bool)(hgd:V0 x s){X:List (Prop×Ex×JSt)}(hX:∀ e J,WN x C ac body d (QJ C l.length) l (0,s,h) e J→∃ y∈X,y.1∧y.2.1=e∧y.2.2=J)(G:Ctx)(hrd:G.rd=none)(hG:G.n=312):
  KH (mkE Try.prog Qn) G (plX Try.prog (plJ x C ac body (QJ C l.length) l h s.1 s.2 0) X) (Qr Try.f77):=by
 have hs:=hx.s;refine Jd (body:=Qd Try.f77 0) (QT Q6) hrd (by kernel_rfl) ?_
 have hE:=fun t=>QRj hx (C:=C) (ac:=ac) (body:=body) (d:=d) (cs:=QJ C l.length) (l:=l) (by omega) hls (hC.s _) IH t
 refine zx (E0:=mkE Try.prog Qn) (E:=ql Try.prog x C ac body d (QJ C l.length) l) (H:=fun t=>hnd (ql Try.prog x C ac body d (QJ C l.length) l t) 0) (n0:=312) (s0:=(0,s,h)) (fun _=>rfl) hE (by omega) (fun t _=>Qz (hE t) 0 G _ hrd) (fun t _=>(by decide:312≤344)) ?_ (QbF x C ac body d (QJ C l.length) l (hC.le _) (by omega) (by omega)) ⟨Nat.zero_le _,hgd⟩ hX
 intro t e J hr;unfold WN at hr;split at hr
 ·rw[hr.2];exact(by decide:312≤344)
 ·exact hr.elim
theorem QZF{x:QE}(hx:K7 x){C:List (List QB)}(hC:Xt x C){l:List QB}(hl:l.length+(d+1)=x.scans.n)(hls:∀ c∈l,K4 c)(IH:∀ c∈QJ C l.length,∀ s h,V0 x s→QQ Try.prog 77 (uFC (Zg x C Yr YY (l++[c]) h s (YS x C d l s h c))))(s:PlS)(h:Int→Bool)(hgd:V0 x s):QQ Try.prog 77 (uFC (Zg x C Yr YY l h s (onT x C plY (d+1) l s h))):=by
 obtain⟨s',h',he⟩:=ZL (C:=C) (x:=x) (Y:=plY) (fun _ _=>rfl) (d+1) l s h;rw[he];have hc:Jk (Kf x l (YS x C d l)) (QJ C l.length) s h = .go s' h':=he;have hCn:=hC.n;refine JZ (E:=mkE Try.prog Qn) (QT Q6) Try.func77 (by kernel_rfl) (by kernel_rfl) (QOB ..) (QTu hx hC hl hls IH s h hgd (X:=[(True,.exit 0,plE Yr YY l h' s'.1 s'.2)]) ?_) ⟨?_⟩
 ·intro e J hr;unfold WN at hr;simp only[List.drop_zero,hc]at hr;exact⟨_,List.mem_cons_self,trivial,hr.1.symm,hr.2.symm⟩
 ·refine Q0 (QWf x C (QJ C l.length) l h s.1 s.2 h' s'.1 s'.2) ?_;refine QI (fun q=>by simp at q;omega) (fun _=>QF (by simp;omega) (QF (by simp;omega) ?_))
  repeat' first|refine Qb (p:=_=_) rfl ?_|refine Qb (p:=_≤_) (qlr _) ?_|refine Qb (p:=QC _ _ _ _) (qRr) ?_|refine Qb (p:=Kd _ _ _ _ _ _) (QZ _ _ _ _) ?_|refine Qb (p:=KA _ _ _ _ _ _) (K1 _ _ _) ?_
  refine KO fun _=>KK fun g=>⟨rfl,rfl,_,Qck x C l h s.1 s.2 h' s'.1 s'.2,?_⟩
  repeat' first|with_reducible refine QN ?_ ?_|exact trivial|with_reducible rfl|exact qlr _|exact qRr|exact QZ _ _ _ _|exact K1 _ _ _|refine And.intro ?_ ?_
theorem QQY{x:QE}(hx:K7 x){C:List (List QB)}(hC:Xt x C):∀(d:Nat) (l:List QB) (s:PlS) (h:Int→Bool),l.length+d=x.scans.n→(∀ c∈l,K4 c)→V0 x s→QQ Try.prog 77 (uFC (Zg x C Yr YY l h s (onT x C plY d l s h)))
 | 0,l,s,h,hn,hl,hgd=>QVZ hx C (by omega) hl s h hgd
 | d+1,l,s,h,hn,hl,hgd=>QZF hx hC (by omega) hl (fun c hc s h hgd=>QQY hx hC d (l++[c]) s h (by simp;omega) (fun y hy=>by
   rcases List.mem_append.1 hy with q|q
   ·exact hl y q
   ·rw[List.mem_singleton.1 q];exact hC.s _ c hc) hgd) s h hgd
def trT:List AV:=[.agg (Jt 0 x),.ptr 8 0 0,.ptr 16 0 0,.ptr 24 0 0,.ptr 32 0 0,.int true .i64 0,.ptr 56 0 0,.tup [],.tup [.ptr 56 0 0,.int true .i64 0],.agg (Jt 0 x),.tup [.ptr 56 0 0,.int true .i64 0],.ptr 56 0 0,.int true .i64 0,.int true .i64 0,.bool true false,.tup [],.ptr 56 0 0,.fn (.func 76) [.ptr 128 0 0],.tup [],.tup [],.tup [],.tup [],.tup [],.tup [],.tup [],.tup [],.tup [],.tup [],.tup [],.tup [],.tup [],.tup [],.tup [],.tup [],.tup [],.tup [],.tup []]
def QBN:List AV:=[.ptr 200 0 0,.ptr 128 0 0,.ptr 184 0 0,.ptr 168 0 0,.ptr 208 0 0]
def trR(C:List (List QB)):List (Nat×Blk):=
 [(208,.cellsR 0 34 [.fn (.func 77) QBN]),(184,.cellsR 0 63 [.map 176]),(168,.cellsR 0 123 [.yld 161]),(128,.cellsR 0 89 [.ptr 56 0 0]),(8,.cellsR 0 50 (Jt 0 x)),(56,.cellsR 0 125 (srK 57 x C)),Y0 false 57 C]++VY 0 x
def trW(ls:LoopState)(pe:Option Code)(x:QE)(ac body:Code)(l:List QB)(a:Nat)(b:Nat)(c:Nat)(has:Int→Bool)(many:Int)(f g:List QB):List (Nat×Blk):=
 [(200,.cells 0 38 [.slz a 0 l.length (.of 0)]),rwL a l,(176,.mpf .i64 (.int true .i64 0) has fun i => .int false .i64 (QH l i)),(161,.lp ls pe (trT x) #[18] ac body),(32,.cells 0 3 [.int false .i64 many]),(16,.cells 0 38 [.slz b 0 f.length (.of 0)]),rwL b f,(24,.cells 0 38 [.slz c 0 g.length (.of 0)]),rwL c g]
def qw(C:List (List QB))(ac body:Code)(l:List QB)(has:Int→Bool)(many:Int)(f g:List QB):JSt:=
 ⟨5,[(0,.ptr 200 0 0),(1,.ptr 128 0 0),(2,.ptr 184 0 0),(3,.ptr 168 0 0),(4,.ptr 208 0 0)],trW .ready none x ac body l 248 256 264 has many f g++trR x C,272⟩
def trU(C:List (List QB))(ac body:Code)(l:List QB)(has:Int→Bool)(many:Int)(f g:List QB)(has':Int→Bool)(many':Int)(f' g':List QB):UC:=
 ⟨240,qw x C ac body l has many f g,fun _ => .bool false true,fun m=>trW .ready none x ac body l m (m+1) (m+2) has' many' f' g'⟩
def trJ(C:List (List QB))(ac body:Code)(cs l:List QB)(has:Int→Bool)(many:Int)(f g:List QB)(k:Nat):JSt:=
 ⟨98,[(0,.ptr 200 0 0),(1,.ptr 128 0 0),(2,.ptr 184 0 0),(3,.ptr 168 0 0),(4,.ptr 208 0 0),(48,.slz 304 0 cs.length (.of 0)),(49,.int false .i64 cs.length),(50,.int false .i64 k)],
  (304,.frz [.int .i64,.int .i64] cs.length fun i=>QA.enc (cs.getD i ⟨0,0⟩))::trW .ready none x ac body l 280 288 296 has many f g++trR x C,320⟩
def trE(ac body:Code)(l:List QB)(has:Int→Bool)(many:Int)(f g:List QB):JSt:=⟨98,[],trW .ready none x ac body l 280 288 296 has many f g,320⟩
def trV(C:List (List QB))(ac body:Code)(l:List QB)(has:Int→Bool)(many:Int)(f g:List QB)(has':Int→Bool)(many':Int)(f' g':List QB):UC:=
 ⟨240,qw x C ac body l has many f g,fun _ => .bool false false,fun m=>trW .done (some (.exit 0)) x ac body l m (m+1) (m+2) has' many' f' g'⟩
def trF(ac body:Code)(l:List QB)(has:Int→Bool)(many:Int)(f g:List QB):JSt:=⟨98,[(5,.bool false false)],trW .done (some (.exit 0)) x ac body l 280 288 296 has many f g,320⟩
def qv:List Nat:=[200,176,161,32,16,24]
noncomputable abbrev zO:List AV:=
  [.nilp,.ptr 98 0 0,.ptr 200 0 0,.ptr 128 0 0,.ptr 184 0 0,.ptr 168 0 0,.ptr 208 0 0,.slz 304 0 cs.length cO,vi (cs.length:Int),.int false .i64
  (i64.wrap ((k:Int)+1))]
noncomputable abbrev HD:Nat×Blk:=
  (161,.lp LoopState.ready none (trT x) (Array.mk [18]) ac body)
noncomputable abbrev QFN:Nat×Blk:=
  (16,.cells 0 38 [.slz 288 0 f.length cO])
noncomputable abbrev QFS:Nat×Blk:=
  (24,.cells 0 38 [.slz 296 0 g.length cO])
noncomputable abbrev qO:Nat×Blk:=
  (128,.cellsR 0 89 [.ptr 56 0 0])
noncomputable abbrev QCq:Nat×Blk:=
  (208,.cellsR 0 34 [.fn (Fn.func 77) [.ptr 200 0 0,.ptr 128 0 0,.ptr 184 0 0,.ptr 168 0 0,.ptr 208 0 0]])
noncomputable abbrev QBF:Nat×Blk:=
  (304,.frz [.int .i64,.int .i64] cs.length fun i=>QA.enc (cs.getD i ⟨0,0⟩))
abbrev XH:List CK:=
  [.int .i64,.int .i64,.int .i64,.int .i64,.int .i64,.int .i64,.int .i64,.int .i64,.int .i64,.int .i64,.int .i64,.int .i64,.int .i64,.int .i64,.int .i64,.int .i64,.int
  .i64,.int .i64,.int .i64,.int .i64,.int .i64,.int .i64,.int .i64,.int .i64,.int .i64,.int .i64,.int .i64,.int .i64]
noncomputable abbrev jA:Nat×Blk:=
  (2,.frz [.int .i64,.int .i64,.int .i64,.int .i64] x.hang.n fun i=>QA.enc (x.hang.get i))
noncomputable abbrev qg:Nat×Blk:=
  (8,.cellsR 0 50 [vi x.d.play.length,vi x.d.play.slack,vi x.d.play.loose,vi x.d.play.damp.lo,.int false .i64
  x.d.play.damp.hi,vi x.d.wide,vi x.d.high,.bool false x.d.turn,.slz 0 0 x.d.ps.n cO,.slz 1 0 x.scans.n cO,.slz 2 0 x.hang.n (Cap.of
  0),vi x.lost,vi x.foreign])
noncomputable abbrev qr:Nat×Blk:=
  (56,.cellsR 0 125 [vi x.d.play.length,vi x.d.play.slack,vi x.d.play.loose,vi x.d.play.damp.lo,.int false .i64
  x.d.play.damp.hi,vi x.d.wide,vi x.d.high,.bool false x.d.turn,.slz 0 0 x.d.ps.n cO,.slz 1 0 x.scans.n cO,.slz 2 0 x.hang.n (Cap.of
  0),vi x.lost,vi x.foreign,.slz 57 0 C.length cO])
noncomputable abbrev QHL:Nat×Blk:=
  (288,.rowz true 56 [.int .i64,.int .i64] f.length fun i=>QA.enc (f.getD i ⟨0,0⟩))
noncomputable abbrev QEf:Nat×Blk:=
  (296,.rowz true 56 [.int .i64,.int .i64] g.length fun i=>QA.enc (g.getD i ⟨0,0⟩))
noncomputable abbrev jI:Nat×Blk:=
  (57,.frz2 false 38 [.int .i64,.int .i64] C.length (fun i=>(QJ C i).length) fun i j=>QA.enc ((QJ C i).getD j ⟨0,0⟩))
noncomputable abbrev QEG(cs:List QB)(f:List QB)(g:List QB)(has:Int→Bool)(l:List QB)(many:Int)(x:QE):List (Nat×Blk):=
  [(200,.cells 0 38 [.slz 280 0 l.length cO]),(176,.mpf i64 (.int true .i64 0) has fun i => .int false .i64 (QH l i)),(HD ac body x),(32,.cells 0 3 [.int
  false .i64 many]),(QFN f),(QFS g),qO,(184,.cellsR 0 63 [.map 176]),(168,.cellsR 0 123 [.yld 161]),QCq,(QBF cs),(280,.rowz true 56 [.int .i64,.int .i64]
  l.length fun i=>QA.enc (l.getD i ⟨0,0⟩)),(0,.frz XH x.d.ps.n fun i=>QA.enc (x.d.ps.get i)),(1,.frz XH x.scans.n fun i=>QA.enc (x.scans.get i)),(jA x),(qg
  x),(qr C x),(QHL f),(QEf g),(jI C)]
noncomputable abbrev QCf:List AV:=
  [vi (cs.getD k ⟨0,0⟩).cell,vi (cs.getD k ⟨0,0⟩).turn]
abbrev QQL(l:List QB)(l2:List QB)(x:QE):List Prop:=
  [0=0,0=0,0=0,l.length+1=l2.length,cO=cO,l2.length≤l.length+1,QC 2 l2.length (QY l.length (fun i=>QA.enc (l.getD i ⟨0,0⟩)) (QR [(QCf
  cs k)] 0)) fun i=>QA.enc (l2.getD i ⟨0,0⟩),x.d.play.length=x.d.play.length,x.d.play.slack=x.d.play.slack,x.d.play.loose=x.d.play.loose,x.d.play.damp.lo =
  x.d.play.damp.lo,x.d.play.damp.hi=x.d.play.damp.hi,x.d.wide=x.d.wide,x.d.high=x.d.high,x.d.turn=x.d.turn,0=0,x.d.ps.n=x.d.ps.n,cO=cO,0=0,
  x.scans.n=x.scans.n,cO=cO,0=0,x.hang.n=x.hang.n,cO=cO,x.lost=x.lost,x.foreign=x.foreign,0=0,C.length=C.length,cO=cO,
  C.length=C.length,Kd 2 C.length (fun i=>(QJ C i).length) (fun i=>(QJ C i).length) (fun i j=>QA.enc ((QJ C i).getD j ⟨0,0⟩)) fun i j=>QA.enc ((QJ C
  i).getD j ⟨0,0⟩),x.d.ps.n≤x.d.ps.n,QC 28 x.d.ps.n (fun i=>QA.enc (x.d.ps.get i)) fun i=>QA.enc (x.d.ps.get i),x.scans.n≤x.scans.n,QC 28 x.scans.n (fun i=>
  QA.enc (x.scans.get i)) fun i=>QA.enc (x.scans.get i),x.hang.n≤x.hang.n,QC 4 x.hang.n (fun i=>QA.enc (x.hang.get i)) fun i=>QA.enc (x.hang.get i)]
noncomputable abbrev QHV(cs:List QB)(f:List QB)(g:List QB)(has:Int→Bool)(k:Nat)(l:List QB)(many:Int)(x:QE):List (Nat×Blk):=
  [(200,.cells 0 38 [.slz 904 0 (i64.wrap ((↑(l.length+1):Int)-1)).toNat cO]),(176,.mpf i64 (.int true .i64 0) (QW (cs.getD k ⟨0,0⟩).cell true
  (QW (cs.getD k ⟨0,0⟩).cell true has)) (Q9 (cs.getD k ⟨0,0⟩).cell (.int false .i64 (i64.wrap (toI (Bool.rec ((fun _=>(fun i => .int false .i64 (QH l i)) ((fun i=>
  QA.enc (cs.getD i ⟨0,0⟩)) ((k:Int).toNat+0) 0)) ()) ((fun _ => .int false .i64 (i64.wrap (toI ((fun i => .int false .i64 (QH l i)) ((fun i=>QA.enc (cs.getD i
  ⟨0,0⟩)) ((k:Int).toNat+0) 0))+1))) ()) (decide ((fun i=>QA.enc (cs.getD i ⟨0,0⟩)) ((k:Int).toNat+0) 0=(fun i=>QA.enc (cs.getD i ⟨0,0⟩)) ((k:Int).toNat+0)
  0)))-1))) (Q9 (cs.getD k ⟨0,0⟩).cell (.int false .i64 (i64.wrap (toI (.int false .i64 (QH l (cs.getD k ⟨0,0⟩).cell))+1))) fun i => .int false .i64 (QH l i)))),
  (HD ac body x),(32,.cells 0 3 [vi many]),(QFN f),(QFS g),qO,(184,.cellsR 0 63 [.map 176]),(168,.cellsR 0 123 [.yld 161]),QCq,(QBF cs),(904,
  .rowz true 56 [.int .i64,.int .i64] (l.length+1) (QY l.length (fun i=>QA.enc (l.getD i ⟨0,0⟩)) (QR [(QCf cs k)] 0))),(0,.frz XH x.d.ps.n fun i=>QA.enc
  (x.d.ps.get i)),(1,.frz XH x.scans.n fun i=>QA.enc (x.scans.get i)),(jA x),(qg x),(qr C x),(QHL f),(QEf g),(jI C)]
abbrev QIt(cs:List QB)(f:List QB)(g:List QB)(has:Int→Bool)(has2:Int→Bool)(k:Nat)(l:List QB)(l2:List QB)(many:Int)(x:QE):List Prop:=
  [0=0,0=0,0=0,0=0,0=0,0=0,0=0,0=0,0=0,0=0,0=0,l.length+1=l2.length,cO=cO,l2.length≤l.length+1,QC 2 l2.length (QY
  l.length (fun i=>QA.enc (l.getD i ⟨0,0⟩)) (QR [(QCf cs k)] 0)) fun i=>QA.enc (l2.getD i ⟨0,0⟩),KA (.int true .i64 0) (.int true .i64 0) (QW (cs.getD k ⟨0,
  0⟩).cell true has) has2 (Q9 (cs.getD k ⟨0,0⟩).cell (.int false .i64 (i64.wrap (toI (.int false .i64 (QH l (cs.getD k ⟨0,0⟩).cell))+1))) fun i => .int false .i64
  (QH l i)) fun i => .int false .i64 (QH l2 i),LoopState.ready=LoopState.ready,(none:Option Code)=none,Array.mk [18]=Array.mk [18],ac=ac,body=body,
  x.d.play.length=x.d.play.length,x.d.play.slack=x.d.play.slack,x.d.play.loose=x.d.play.loose,x.d.play.damp.lo=x.d.play.damp.lo,x.d.play.damp.hi=x.d.play.damp.hi,
  x.d.wide=x.d.wide,x.d.high=x.d.high,x.d.turn=x.d.turn,0=0,x.d.ps.n=x.d.ps.n,cO=cO,0=0,x.scans.n=x.scans.n,cO=cO,0=0,x.hang.n =
  x.hang.n,cO=cO,x.lost=x.lost,x.foreign=x.foreign,0=0,0=0,0=0,0=0,0=0,0=0,0=0,0=0,(0:Int)=0,0=0,0=0,0=0,0=0,(0:Int) =
  0,x.d.play.length=x.d.play.length,x.d.play.slack=x.d.play.slack,x.d.play.loose=x.d.play.loose,x.d.play.damp.lo=x.d.play.damp.lo,x.d.play.damp.hi=x.d.play.damp.hi,
  x.d.wide=x.d.wide,x.d.high=x.d.high,x.d.turn=x.d.turn,0=0,x.d.ps.n=x.d.ps.n,cO=cO,0=0,x.scans.n=x.scans.n,cO=cO,0=0,x.hang.n =
  x.hang.n,cO=cO,x.lost=x.lost,x.foreign=x.foreign,0=0,0=0,(0:Int)=0,0=0,0=0,(0:Int)=0,(0:Int)=0,false=false,0=0,0=0,Fn.func
  76=Fn.func 76,0=0,0=0,many=many,0=0,f.length=f.length,cO=cO,f.length≤f.length,QC 2 f.length (fun i=>QA.enc (f.getD i ⟨0,0⟩)) fun i=>
  QA.enc (f.getD i ⟨0,0⟩),0=0,g.length=g.length,cO=cO,g.length≤g.length,QC 2 g.length (fun i=>QA.enc (g.getD i ⟨0,0⟩)) fun i=>QA.enc (g.getD i
  ⟨0,0⟩),Fn.func 77=Fn.func 77,0=0,0=0,0=0,0=0,0=0,0=0,0=0,0=0,0=0,0=0,0=0,0=0,x.d.play.length=x.d.play.length,x.d.play.slack =
  x.d.play.slack,x.d.play.loose=x.d.play.loose,x.d.play.damp.lo=x.d.play.damp.lo,x.d.play.damp.hi=x.d.play.damp.hi,x.d.wide=x.d.wide,x.d.high=x.d.high,x.d.turn =
  x.d.turn,0=0,x.d.ps.n=x.d.ps.n,cO=cO,0=0,x.scans.n=x.scans.n,cO=cO,0=0,x.hang.n=x.hang.n,cO=cO,x.lost=x.lost,
  x.foreign=x.foreign,x.d.play.length=x.d.play.length,x.d.play.slack=x.d.play.slack,x.d.play.loose=x.d.play.loose,x.d.play.damp.lo=x.d.play.damp.lo,x.d.play.damp.hi =
  x.d.play.damp.hi,x.d.wide=x.d.wide,x.d.high=x.d.high,x.d.turn=x.d.turn,0=0,x.d.ps.n=x.d.ps.n,cO=cO,0=0,x.scans.n=x.scans.n,cO=cO,
  0=0,x.hang.n=x.hang.n,cO=cO,x.lost=x.lost,x.foreign=x.foreign,0=0,C.length=C.length,cO=cO,C.length=C.length,Kd 2 C.length
  (fun i=>(QJ C i).length) (fun i=>(QJ C i).length) (fun i j=>QA.enc ((QJ C i).getD j ⟨0,0⟩)) fun i j=>QA.enc ((QJ C i).getD j ⟨0,0⟩),x.d.ps.n≤x.d.ps.n,
  QC 28 x.d.ps.n (fun i=>QA.enc (x.d.ps.get i)) fun i=>QA.enc (x.d.ps.get i),x.scans.n≤x.scans.n,QC 28 x.scans.n (fun i=>QA.enc (x.scans.get i)) fun i=>
  QA.enc (x.scans.get i),x.hang.n≤x.hang.n,QC 4 x.hang.n (fun i=>QA.enc (x.hang.get i)) fun i=>QA.enc (x.hang.get i)]
noncomputable abbrev QA8:Nat×Blk:=
  (200,.cells 0 38 [.slz 1016 0 (i64.wrap ((l2.length:Int)-1)).toNat cO])
noncomputable abbrev QBd(k:Nat)(l2:List QB):Nat×Blk:=
  (176,.mpf i64 (.int true .i64 0) (QW (cs.getD k ⟨0,0⟩).cell true has') (Q9 (cs.getD k ⟨0,0⟩).cell (.int false .i64 (i64.wrap (toI (.int false .i64 (QH l2
  (cs.getD k ⟨0,0⟩).cell))-1))) fun i => .int false .i64 (QH l2 i)))
noncomputable abbrev QAR:Nat×Blk:=
  (32,.cells 0 3 [vi many'])
noncomputable abbrev QB0:Nat×Blk:=
  (16,.cells 0 38 [.slz 1017 0 f'.length cO])
noncomputable abbrev QA3:Nat×Blk:=
  (24,.cells 0 38 [.slz 1018 0 g'.length cO])
noncomputable abbrev QAi:Nat×Blk:=
  (1016,.rowz true 56 [.int .i64,.int .i64] l2.length fun i=>QA.enc (l2.getD i ⟨0,0⟩))
noncomputable abbrev QDf:Nat×Blk:=
  (1017,.rowz true 56 [.int .i64,.int .i64] f'.length fun i=>QA.enc (f'.getD i ⟨0,0⟩))
noncomputable abbrev QAl:Nat×Blk:=
  (1018,.rowz true 56 [.int .i64,.int .i64] g'.length fun i=>QA.enc (g'.getD i ⟨0,0⟩))
noncomputable abbrev QKM(cs:List QB)(f':List QB)(g':List QB)(has':Int→Bool)(k:Nat)(l2:List QB)(many':Int)(x:QE):List (Nat×Blk):=
  [(QA8 l2),(QBd cs has' k l2),(HD ac body x),(QAR many'),(QB0 f'),(QA3 g'),qO,(184,.cellsR 0 63 [.map 176]),(168,.cellsR 0 123 [.yld 161]),QCq,(QBF
  cs),(QAi l2),(0,.frz XH x.d.ps.n fun i=>QA.enc (x.d.ps.get i)),(1,.frz XH x.scans.n fun i=>QA.enc (x.scans.get i)),(jA x),(qg x),(qr C x),(QDf f'),
  (QAl g'),(jI C)]
noncomputable abbrev QFI(has:Int→Bool)(l:List QB)(many:Int)(x:QE):List (Nat×Blk):=
  [(200,.cells 0 38 [.slz 280 0 l.length cO]),(176,.mpf i64 (.int true .i64 0) has fun i => .int false .i64 (QH l i)),(HD ac body x),(32,.cells 0 3 [.int
  false .i64 many]),(QFN f),(QFS g),(280,.rowz true 56 [.int .i64,.int .i64] l.length fun i=>QA.enc (l.getD i ⟨0,0⟩)),(0,.frz XH x.d.ps.n fun i=>QA.enc
  (x.d.ps.get i)),(1,.frz XH x.scans.n fun i=>QA.enc (x.scans.get i)),(jA x),(qg x),(qr C x),qO,(QHL f),(QEf g),(jI C)]
theorem Qc2(pb1 pb2:List Prop→Bool)(x:QE)(C:List (List QB))(ac body:Code)(cs l l2:List QB)(has has2:Int→Bool)(many:Int)(f g:List QB)(k:Nat)(has':Int→Bool)(many':Int)(f' g':List QB)(g0:Nat→Value):exec (mkC Try.prog (XO pb1 pb2 x C l2 (trU x C ac body l2 has2 many f g has' many' f' g'))) (hnd (mkC Try.prog (XO pb1 pb2 x C l2 (trU x C ac body l2 has2 many f g has'
  many' f' g'))) 0) (Qd Try.f77 0) (JSt.inst (trJ x C ac body cs l has many f g k) g0) (KS qv Zp) = .br (decide ((k:Int)<(cs.length:Int))) (.need (decide ((0:Int) ≤
  (k:Int)∧(k:Int)<(cs.length:Int))&&decide (cs.length≤cs.length)) (.need (decide (k<cs.length)) (.all (fun(g0:Nat→Value) => .need (isI i64 (.int false
  .i64 (QH l (cs.getD k ⟨0,0⟩).cell))) (.br (decide (toI (.int false .i64 (QH l (cs.getD k ⟨0,0⟩).cell))≥bif (cs.getD k ⟨0,0⟩).cell == -2 then x.foreign else (1:Int)))
  (.leaf (.tup (zO cs k)) ((QEG C ac body cs f g has l many x))) (.need (decide (l.length≤l.length)&&(true&&decide ((l.length+1+(l.length+1) / 4+192)*16 ≤
  281474976710656∧l.length+1≤9223372036854775807))) (.need (isI i64 (.int false .i64 (QH l (cs.getD k ⟨0,0⟩).cell))) (.need (pb1 ((QQL C cs k l l2 x))) (.br (!Kj
  x l2) (.need (isI i64 (Bool.rec ((fun _=>(fun i => .int false .i64 (QH l i)) ((fun i=>QA.enc (cs.getD i ⟨0,0⟩)) ((k:Int).toNat+0) 0)) ()) ((fun _ => .int false
  .i64 (i64.wrap (toI ((fun i => .int false .i64 (QH l i)) ((fun i=>QA.enc (cs.getD i ⟨0,0⟩)) ((k:Int).toNat+0) 0))+1))) ()) (decide ((fun i=>QA.enc (cs.getD
  i ⟨0,0⟩)) ((k:Int).toNat+0) 0=(fun i=>QA.enc (cs.getD i ⟨0,0⟩)) ((k:Int).toNat+0) 0)))) (.need (decide ((0:Int)≤i64.wrap ((↑(l.length+1):Int)-1) ∧
  (i64.wrap ((↑(l.length+1):Int)-1)).toNat≤l.length+1-0)) (.leaf (.tup (zO cs k)) ((QHV C ac body cs f g has k l many x))))) (.need (pb2 ((QIt C ac body cs f g
  has has2 k l l2 many x))) (.need (isI i64 (.int false .i64 (QH l2 (cs.getD k ⟨0,0⟩).cell))) (.need (decide ((0:Int)≤i64.wrap ((l2.length:Int)-1) ∧
  (i64.wrap ((l2.length:Int)-1)).toNat≤l2.length-0)) (.br (false) (.leaf (.tup [.nili,.ptr 98 0 0,.bool true false]) ([(QA8 l2),(QBd cs has' k l2),(HD ac
  body x),(QAR many'),(QB0 f'),(QA3 g'),(QAi l2),(0,.frz XH x.d.ps.n fun i=>QA.enc (x.d.ps.get i)),(1,.frz XH x.scans.n fun i=>QA.enc (x.scans.get i)),
  (jA x),(qg x),(qr C x),qO,(QDf f'),(QAl g'),(jI C)])) (.leaf (.tup (zO cs k)) ((QKM C ac body cs f' g' has' k l2 many' x)))))))))))))))) (.leaf (.tup [.ptr
  0 0 0,.ptr 98 0 0]) ((QFI C ac body f g has l many x))):=by kernel_rfl
noncomputable abbrev QDz:List AV:=
  [.ptr 200 0 0,.ptr 128 0 0,.ptr 184 0 0,.ptr 168 0 0,.ptr 208 0 0,.slz 304 0 cs.length cO,vi (cs.length:Int),vi (i64.wrap ((k :
  Int)+1))]
abbrev XY:List Prop:=
  [0=0,0=0,0=0,0=0,0=0,0=0]
abbrev QHB(k':Nat):List Prop:=
  [0=0,0=0,0=0,0=0,0=0,cs.length=cs.length,cO=cO,(cs.length:Int)=(cs.length:Int),i64.wrap ((k:Int)+1)=(k':Int),cs.length ≤
  cs.length,QC 2 cs.length (fun i=>QA.enc (cs.getD i ⟨0,0⟩)) fun i=>QA.enc (cs.getD i ⟨0,0⟩),0=0]
abbrev QQu(l:List QB):List Prop:=
  [l.length=l.length,cO=cO,l.length≤l.length,QC 2 l.length (fun i=>QA.enc (l.getD i ⟨0,0⟩)) fun i=>QA.enc (l.getD i ⟨0,0⟩),KA (.int true .i64 0)
  (.int true .i64 0) has has (fun i => .int false .i64 (QH l i)) fun i => .int false .i64 (QH l i),LoopState.ready=LoopState.ready,(none:Option Code)=none,Array.mk [18] =
  Array.mk [(18:Tmp)]]
abbrev Vj:List Prop:=
  [x.d.play.slack=x.d.play.slack,x.d.play.loose=x.d.play.loose,x.d.play.damp.lo=x.d.play.damp.lo,x.d.play.damp.hi=x.d.play.damp.hi,x.d.wide=x.d.wide,x.d.high =
  x.d.high,x.d.turn=x.d.turn,0=0,x.d.ps.n=x.d.ps.n,cO=cO,0=0,x.scans.n=x.scans.n,cO=cO,0=0,x.hang.n=x.hang.n,cO=cO]
abbrev Gx:List Prop:=
  [0=0,(0:Int)=0,0=0,0=0,0=0,0=0,(0:Int)=0,x.d.play.length=x.d.play.length]
abbrev QFR:List Prop:=
  [0=0,0=0,(0:Int)=0,0=0,0=0,(0:Int)=0,(0:Int)=0,false=false,0=0,0=0,Fn.func (76:FuncId)=Fn.func (76:FuncId),0=0,0=0,many=many,0 =
  0,f.length=f.length,cO=cO,f.length≤f.length,QC 2 f.length (fun i=>QA.enc (f.getD i ⟨0,0⟩)) fun i=>QA.enc (f.getD i ⟨0,0⟩),0=0,g.length =
  g.length,cO=cO,g.length≤g.length,QC 2 g.length (fun i=>QA.enc (g.getD i ⟨0,0⟩)) fun i=>QA.enc (g.getD i ⟨0,0⟩)]
abbrev QHZ:List Prop:=
  [x.lost=x.lost,x.foreign=x.foreign,0=0,C.length=C.length,cO=cO,C.length=C.length,Kd 2 C.length (fun i=>(QJ C i).length) (fun i=>(QJ C
  i).length) (fun i j=>QA.enc ((QJ C i).getD j ⟨0,0⟩)) fun i j=>QA.enc ((QJ C i).getD j ⟨0,0⟩),x.d.ps.n≤x.d.ps.n,QC 28 x.d.ps.n (fun i=>QA.enc (x.d.ps.get
  i)) fun i=>QA.enc (x.d.ps.get i),x.scans.n≤x.scans.n,QC 28 x.scans.n (fun i=>QA.enc (x.scans.get i)) fun i=>QA.enc (x.scans.get i),x.hang.n≤x.hang.n,QC 4
  x.hang.n (fun i=>QA.enc (x.hang.get i)) fun i=>QA.enc (x.hang.get i)]
theorem QQr(C:List (List QB))(ac body:Code)(cs l:List QB)(has:Int→Bool)(many:Int)(f g:List QB)(k k':Nat):QK 272 (QDz cs k) ((QEG C ac body cs f g has l many x)) (trJ x C ac body cs l has many f g k')=(some (XY++(QHB cs k k')++(QQu has l)++[ac=ac,body=body,
  x.d.play.length=x.d.play.length]++(Vj x)++[x.lost=x.lost,x.foreign=x.foreign]++XY++[0=0]++(Gx x)++(Vj x)++[x.lost=x.lost,x.foreign=x.foreign]
  ++ (QFR f g many)++[Fn.func 77=Fn.func (77:FuncId)]++XY++XY++[x.d.play.length=x.d.play.length]++(Vj x)++[x.lost=x.lost,x.foreign=x.foreign,
  x.d.play.length=x.d.play.length]++(Vj x)++(QHZ C x))):=by kernel_rfl
theorem QJq(x:QE)(C:List (List QB))(ac body:Code)(cs l:List QB)(has h':Int→Bool)(many:Int)(f g:List QB)(k k':Nat):QK 272 (QDz cs k) ((QHV C ac body cs f g has k l many x)) (trJ x C ac body cs l h' many f g k')=(some (XY++(QHB cs k k')++[(i64.wrap ((↑(l.length+1) :
  Int)-1)).toNat=l.length,cO=cO,l.length≤l.length+1,QC 2 l.length (QY l.length (fun i=>QA.enc (l.getD i ⟨0,0⟩)) (QR [(QCf cs k)] 0)) fun i=>
  QA.enc (l.getD i ⟨0,0⟩),KA (.int true .i64 0) (.int true .i64 0) (QW (cs.getD k ⟨0,0⟩).cell true (QW (cs.getD k ⟨0,0⟩).cell true has)) h' (Q9 (cs.getD k ⟨0,0⟩).cell
  (.int false .i64 (i64.wrap (toI (Bool.rec ((fun x=>(fun i => .int false .i64 (QH l i)) ((fun i=>QA.enc (cs.getD i ⟨0,0⟩)) ((k:Int).toNat+0) 0)) ()) ((fun x=>
  .int false .i64 (i64.wrap (toI ((fun i => .int false .i64 (QH l i)) ((fun i=>QA.enc (cs.getD i ⟨0,0⟩)) ((k:Int).toNat+0) 0))+1))) ()) (decide ((fun i=>
  QA.enc (cs.getD i ⟨0,0⟩)) ((k:Int).toNat+0) 0=(fun i=>QA.enc (cs.getD i ⟨0,0⟩)) ((k:Int).toNat+0) 0)))-1))) (Q9 (cs.getD k ⟨0,0⟩).cell (.int false .i64
  (i64.wrap (toI (.int false .i64 (QH l (cs.getD k ⟨0,0⟩).cell))+1))) fun i => .int false .i64 (QH l i))) fun i => .int false .i64 (QH l i),LoopState.ready =
  LoopState.ready,(none:Option Code)=none,Array.mk [18]=Array.mk [(18:Tmp)],ac=ac,body=body,x.d.play.length=x.d.play.length]++(Vj x)++[x.lost=x.lost,
  x.foreign=x.foreign]++XY++[0=0]++(Gx x)++(Vj x)++[x.lost=x.lost,x.foreign=x.foreign]++(QFR f g many)++[Fn.func 77=Fn.func (77:FuncId)]++XY
  ++ XY++[x.d.play.length=x.d.play.length]++(Vj x)++[x.lost=x.lost,x.foreign=x.foreign,x.d.play.length=x.d.play.length]++(Vj x)++(QHZ C x))):=by kernel_rfl
abbrev QI6(h':Int→Bool)(has':Int→Bool)(k:Nat)(l:List QB)(l2:List QB):List Prop:=
  [(i64.wrap ((l2.length:Int)-1)).toNat=l.length,cO=cO,l.length≤l2.length,QC 2 l.length (fun i=>QA.enc (l2.getD i ⟨0,0⟩)) fun i=>QA.enc
  (l.getD i ⟨0,0⟩),KA (.int true .i64 0) (.int true .i64 0) (QW (cs.getD k ⟨0,0⟩).cell true has') h' (Q9 (cs.getD k ⟨0,0⟩).cell (.int false .i64 (i64.wrap (toI
  (.int false .i64 (QH l2 (cs.getD k ⟨0,0⟩).cell))-1))) fun i => .int false .i64 (QH l2 i)) fun i => .int false .i64 (QH l i)]
abbrev QMm:List Prop:=
  [0=0,0=0,(0:Int)=0,0=0,0=0,(0:Int)=0,(0:Int)=0,false=false,0=0,0=0,Fn.func (76:FuncId)=Fn.func (76:FuncId),0=0,0=0,many'=many',0
  = 0,f'.length=f'.length,cO=cO,f'.length≤f'.length,QC 2 f'.length (fun i=>QA.enc (f'.getD i ⟨0,0⟩)) fun i=>QA.enc (f'.getD i ⟨0,0⟩),0=0,
  g'.length=g'.length,cO=cO,g'.length≤g'.length,QC 2 g'.length (fun i=>QA.enc (g'.getD i ⟨0,0⟩)) fun i=>QA.enc (g'.getD i ⟨0,0⟩)]
theorem QWq(C:List (List QB))(ac body:Code)(cs l l2:List QB)(k:Nat)(has' h':Int→Bool)(many':Int)(f' g':List QB)(k':Nat):QK 272 (QDz cs k) ((QKM C ac body cs f' g' has' k l2 many' x)) (trJ x C ac body cs l h' many' f' g' k')=(some (XY++(QHB cs k k')++(QI6 cs h' has' k l l2) ++
  [LoopState.ready=LoopState.ready,(none:Option Code)=none,Array.mk [18]=Array.mk [(18:Tmp)],ac=ac,body=body,x.d.play.length=x.d.play.length]++(Vj x) ++
  [x.lost=x.lost,x.foreign=x.foreign]++XY++[0=0]++(Gx x)++(Vj x)++[x.lost=x.lost,x.foreign=x.foreign]++(QMm f' g' many')++[Fn.func 77=Fn.func
  (77:FuncId)]++XY++XY++[x.d.play.length=x.d.play.length]++(Vj x)++[x.lost=x.lost,x.foreign=x.foreign,x.d.play.length=x.d.play.length]++(Vj x) ++
  (QHZ C x))):=by kernel_rfl
theorem QKk(C:List (List QB))(ac body:Code)(l:List QB)(has:Int→Bool)(many:Int)(f g:List QB):QK 272 [] ((QFI C ac body f g has l many x)) (trE x ac body l has many f g)=(some ([0=0]++(QQu has l)++[ac=ac,body=body,x.d.play.length=x.d.play.length] ++
  (Vj x)++[x.lost=x.lost,x.foreign=x.foreign]++XY++[0=0]++(Gx x)++(Vj x)++[x.lost=x.lost,x.foreign=x.foreign]++(QFR f g many))):=by kernel_rfl
noncomputable abbrev QOv(cs:List QB)(f':List QB)(g':List QB)(has':Int→Bool)(k:Nat)(l2:List QB)(many':Int)(x:QE):List (Nat×Blk):=
  [(QA8 l2),(QBd cs has' k l2),(161,.lp LoopState.done (some (Code.exit 0)) (trT x) (Array.mk [18]) ac body),(QAR many'),(QB0 f'),(QA3 g'),(QAi l2),(0,.frz XH
  x.d.ps.n fun i=>QA.enc (x.d.ps.get i)),(1,.frz XH x.scans.n fun i=>QA.enc (x.scans.get i)),(jA x),(qg x),(qr C x),qO,(QDf f'),(QAl g'),(jI C)]
theorem QUY(pb1 pb2:List Prop→Bool)(x:QE)(C:List (List QB))(ac body:Code)(cs l l2:List QB)(has has2:Int→Bool)(many:Int)(f g:List QB)(k:Nat)(has':Int→Bool)(many':Int)(f' g':List QB)(g0:Nat→Value):exec (mkC Try.prog (XO pb1 pb2 x C l2 (trV x C ac body l2 has2 many f g has' many' f' g'))) (hnd (mkC Try.prog (XO pb1 pb2 x C l2 (trV x C ac body l2 has2 many f g has'
  many' f' g'))) 0) (Qd Try.f77 0) (JSt.inst (trJ x C ac body cs l has many f g k) g0) (KS qv Zp) = .br (decide ((k:Int)<(cs.length:Int))) (.need (decide ((0:Int) ≤
  (k:Int)∧(k:Int)<(cs.length:Int))&&decide (cs.length≤cs.length)) (.need (decide (k<cs.length)) (.all (fun(g0:Nat→Value) => .need (isI i64 (.int false
  .i64 (QH l (cs.getD k ⟨0,0⟩).cell))) (.br (decide (toI (.int false .i64 (QH l (cs.getD k ⟨0,0⟩).cell))≥bif (cs.getD k ⟨0,0⟩).cell == -2 then x.foreign else (1:Int)))
  (.leaf (.tup (zO cs k)) ((QEG C ac body cs f g has l many x))) (.need (decide (l.length≤l.length)&&(true&&decide ((l.length+1+(l.length+1) / 4+192)*16 ≤
  281474976710656∧l.length+1≤9223372036854775807))) (.need (isI i64 (.int false .i64 (QH l (cs.getD k ⟨0,0⟩).cell))) (.need (pb1 ((QQL C cs k l l2 x))) (.br (!Kj
  x l2) (.need (isI i64 (Bool.rec ((fun _=>(fun i => .int false .i64 (QH l i)) ((fun i=>QA.enc (cs.getD i ⟨0,0⟩)) ((k:Int).toNat+0) 0)) ()) ((fun _ => .int false
  .i64 (i64.wrap (toI ((fun i => .int false .i64 (QH l i)) ((fun i=>QA.enc (cs.getD i ⟨0,0⟩)) ((k:Int).toNat+0) 0))+1))) ()) (decide ((fun i=>QA.enc (cs.getD
  i ⟨0,0⟩)) ((k:Int).toNat+0) 0=(fun i=>QA.enc (cs.getD i ⟨0,0⟩)) ((k:Int).toNat+0) 0)))) (.need (decide ((0:Int)≤i64.wrap ((↑(l.length+1):Int)-1) ∧
  (i64.wrap ((↑(l.length+1):Int)-1)).toNat≤l.length+1-0)) (.leaf (.tup (zO cs k)) ((QHV C ac body cs f g has k l many x))))) (.need (pb2 ((QIt C ac body cs f g
  has has2 k l l2 many x))) (.need (isI i64 (.int false .i64 (QH l2 (cs.getD k ⟨0,0⟩).cell))) (.need (decide ((0:Int)≤i64.wrap ((l2.length:Int)-1) ∧
  (i64.wrap ((l2.length:Int)-1)).toNat≤l2.length-0)) (.br (true) (.leaf (.tup [.nili,.ptr 98 0 0,.bool true false]) ((QOv C ac body cs f' g' has' k l2 many' x)))
  (.leaf (.tup (zO cs k)) ([(QA8 l2),(QBd cs has' k l2),(161,.lp LoopState.done (some (Code.exit 0)) (trT x) (Array.mk [18]) ac body),(QAR many'),(QB0 f'),(QA3 g'),
  qO,(184,.cellsR 0 63 [.map 176]),(168,.cellsR 0 123 [.yld 161]),QCq,(QBF cs),(QAi l2),(0,.frz XH x.d.ps.n fun i=>QA.enc (x.d.ps.get i)),(1,.frz XH
  x.scans.n fun i=>QA.enc (x.scans.get i)),(jA x),(qg x),(qr C x),(QDf f'),(QAl g'),(jI C)]))))))))))))))) (.leaf (.tup [.ptr 0 0 0,.ptr 98 0 0]) ((QFI C ac
  body f g has l many x))):=by kernel_rfl
theorem QTR(C:List (List QB))(ac body:Code)(cs l l2:List QB)(k:Nat)(has' h':Int→Bool)(many':Int)(f' g':List QB):QK 272 [.bool true false] ((QOv C ac body cs f' g' has' k l2 many' x)) (trF x ac body l h' many' f' g')=(some ([false=false,0=0]++(QI6 cs h' has' k l l2) ++
  [LoopState.done=LoopState.done,some (Code.exit 0)=some (Code.exit 0),Array.mk [18]=Array.mk [(18:Tmp)],ac=ac,body=body,x.d.play.length=x.d.play.length]++(Vj
  x)++[x.lost=x.lost,x.foreign=x.foreign]++XY++[0=0]++(Gx x)++(Vj x)++[x.lost=x.lost,x.foreign=x.foreign]++(QMm f' g' many'))):=by kernel_rfl
end Go.Proofs.Ytbpffdkemeoajaa
