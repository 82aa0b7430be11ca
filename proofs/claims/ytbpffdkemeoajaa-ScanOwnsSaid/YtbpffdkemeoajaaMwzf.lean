/- - -/
import Derived.Test.YtbpffdkemeoajaaMwze
open Go.IntKind (i64)
set_option maxRecDepth 100000
namespace Go.Proofs.Ytbpffdkemeoajaa
open Go.SX
def Zk(pb:List Prop→Bool)(U:UC):Tab:=Qd Qj 56 (Jd pb U)
abbrev trX(P:Program)(J:JSt)(X:List (Prop×Ex×JSt)):Hnd:={ hnd (mkE P Qj) 2 with loop:=fun _=>Q7 272 Wo J X }
variable {d:Nat}(x:QE)(C:List (List QB))(l:List QB)(has:Int→Bool)(many:Int)(f g:List QB)(has':Int→Bool)(f' g':List QB)(many':Int)
noncomputable abbrev K9:Nat×Blk:=
  (200,.cells 0 38 [.slz 248 0 l.length cO])
noncomputable abbrev K3(l:List QB):Nat×Blk:=
  (176,.mpf i64 (.int true .i64 0) has fun i => .int false .i64 (QG l i))
noncomputable abbrev VB:Nat×Blk:=
  (161,.lp LoopState.ready none (trT x) (Array.mk [18]) (QK Try.f25 0).1 (QK Try.f25 0).2)
noncomputable abbrev Hp:Nat×Blk:=
  (32,.cells 0 3 [vi many])
noncomputable abbrev Jl:Nat×Blk:=
  (16,.cells 0 38 [.slz 256 0 f.length cO])
noncomputable abbrev Jj:Nat×Blk:=
  (24,.cells 0 38 [.slz 264 0 g.length cO])
noncomputable abbrev JB:Nat×Blk:=
  (248,.rowz true 56 [.int .i64,.int .i64] l.length fun i=>QA.enc (l.getD i ⟨0,0⟩))
abbrev Q0:List CK:=
  [.int .i64,.int .i64,.int .i64,.int .i64,.int .i64,.int .i64,.int .i64,.int .i64,.int .i64,.int .i64,.int .i64,.int .i64,.int .i64,.int .i64,.int .i64,.int .i64,.int
  .i64,.int .i64,.int .i64,.int .i64,.int .i64,.int .i64,.int .i64,.int .i64,.int .i64,.int .i64,.int .i64,.int .i64]
noncomputable abbrev JD:Nat×Blk:=
  (2,.frz [.int .i64,.int .i64,.int .i64,.int .i64] x.hang.n fun i=>QA.enc (x.hang.get i))
noncomputable abbrev K4:Nat×Blk:=
  (8,.cellsR 0 50 [vi x.d.play.length,vi x.d.play.slack,vi x.d.play.loose,vi x.d.play.damp.lo,.int false .i64
  x.d.play.damp.hi,vi x.d.wide,vi x.d.high,.bool false x.d.turn,.slz 0 0 x.d.ps.n cO,.slz 1 0 x.scans.n cO,.slz 2 0 x.hang.n (Cap.of
  0),vi x.lost,vi x.foreign])
noncomputable abbrev K5(x:QE):Nat×Blk:=
  (56,.cellsR 0 125 [vi x.d.play.length,vi x.d.play.slack,vi x.d.play.loose,vi x.d.play.damp.lo,.int false .i64
  x.d.play.damp.hi,vi x.d.wide,vi x.d.high,.bool false x.d.turn,.slz 0 0 x.d.ps.n cO,.slz 1 0 x.scans.n cO,.slz 2 0 x.hang.n (Cap.of
  0),vi x.lost,vi x.foreign,.slz 57 0 C.length cO])
noncomputable abbrev JC:Nat×Blk:=
  (128,.cellsR 0 89 [.ptr 56 0 0])
noncomputable abbrev Jo:Nat×Blk:=
  (256,.rowz true 56 [.int .i64,.int .i64] f.length fun i=>QA.enc (f.getD i ⟨0,0⟩))
noncomputable abbrev Jq:Nat×Blk:=
  (264,.rowz true 56 [.int .i64,.int .i64] g.length fun i=>QA.enc (g.getD i ⟨0,0⟩))
noncomputable abbrev K6:Nat×Blk:=
  (57,.frz2 false 38 [.int .i64,.int .i64] C.length (fun i=>(QH C i).length) fun i j=>QA.enc ((QH C i).getD j ⟨0,0⟩))
abbrev QOu:List Prop:=
  [0=0,l.length=l.length,cO=cO,l.length≤l.length,QC 2 l.length (fun i=>QA.enc (l.getD i ⟨0,0⟩)) fun i=>QA.enc (l.getD i ⟨0,0⟩)]
noncomputable abbrev YT:Nat×Blk:=
  (161,.lp LoopState.done (some (Code.exit 0)) (trT x) (Array.mk [18]) (QK Try.f25 0).1 (QK Try.f25 0).2)
noncomputable abbrev JU:Nat×Blk:=
  (32,.cells 0 3 [vi (i64.wrap (many+1))])
noncomputable abbrev QGG:Nat×Blk:=
  (16,.cells 0 38 [.slz 584 0 l.length cO])
noncomputable abbrev QE4:Nat×Blk:=
  (584,.rowz true 56 [.int .i64,.int .i64] l.length fun i=>QA.enc (l.getD i ⟨0,0⟩))
noncomputable abbrev QDw:Nat×Blk:=
  (24,.cells 0 38 [.slz 600 0 l.length cO])
noncomputable abbrev QDp:Nat×Blk:=
  (600,.rowz true 56 [.int .i64,.int .i64] l.length fun i=>QA.enc (l.getD i ⟨0,0⟩))
theorem QET(pb:List Prop→Bool)(x:QE)(C:List (List QB))(l:List QB)(has:Int→Bool)(many:Int)(f g:List QB):(J5 (mkE Try.prog (Zk pb (clU l))) (msN Try.prog (Zk pb (clU l))) Try.f77 QAh (qn x C (QK Try.f25 0).1 (QK Try.f25 0).2 l has many f g).hp 272 fun v h _=>
  YM Wo v h) = .br ((l.length:Int)==(x.scans.n:Int)) (.need (isI i64 (.int false .i64 (QG l (-2:Int)))) (.br (decide (i64.wrap ((x.d.ps.n:Int) -
  i64.wrap ((l.length:Int)-toI (.int false .i64 (QG l (-2:Int)))))>x.lost)) (.leaf (.bool true true) ([(K9 l),(K3 has l),(VB x),(Hp many),(Jl f),
  (Jj g),(JB l),(0,.frz Q0 x.d.ps.n fun i=>QA.enc (x.d.ps.get i)),(1,.frz Q0 x.scans.n fun i=>QA.enc (x.scans.get i)),(JD x),(K4 x),(K5 C x),JC,
  (Jo f),(Jq g),(K6 C)])) (.br (i64.wrap (many+1)==1) (.need (pb ((QOu l))) (.br (i64.wrap (many+1)==100) (.leaf (.bool true false) ([(K9 l),
  (K3 has l),(YT x),(JU many),(QGG l),(Jj g),(JB l),(0,.frz Q0 x.d.ps.n fun i=>QA.enc (x.d.ps.get i)),(1,.frz Q0 x.scans.n fun i=>QA.enc
  (x.scans.get i)),(JD x),(K4 x),(K5 C x),JC,(QE4 l),(Jq g),(K6 C)])) (.leaf (.bool true true) ([(K9 l),(K3 has l),(VB x),(JU many),(QGG l),
  (Jj g),(JB l),(0,.frz Q0 x.d.ps.n fun i=>QA.enc (x.d.ps.get i)),(1,.frz Q0 x.scans.n fun i=>QA.enc (x.scans.get i)),(JD x),(K4 x),(K5 C x),JC,
  (QE4 l),(Jq g),(K6 C)])))) (.br (i64.wrap (many+1)==2) (.need (pb ((QOu l))) (.br (i64.wrap (many+1)==100) (.leaf (.bool true false) ([(K9 l),
  (K3 has l),(YT x),(JU many),(Jl f),(QDw l),(JB l),(0,.frz Q0 x.d.ps.n fun i=>QA.enc (x.d.ps.get i)),(1,.frz Q0 x.scans.n fun i=>QA.enc
  (x.scans.get i)),(JD x),(K4 x),(K5 C x),JC,(Jo f),(QDp l),(K6 C)])) (.leaf (.bool true true) ([(K9 l),(K3 has l),(VB x),(JU many),(Jl f),
  (QDw l),(JB l),(0,.frz Q0 x.d.ps.n fun i=>QA.enc (x.d.ps.get i)),(1,.frz Q0 x.scans.n fun i=>QA.enc (x.scans.get i)),(JD x),(K4 x),(K5 C x),JC,
  (Jo f),(QDp l),(K6 C)])))) (.br (i64.wrap (many+1)==100) (.leaf (.bool true false) ([(K9 l),(K3 has l),(YT x),(JU many),(Jl f),(Jj g),(JB
  l),(0,.frz Q0 x.d.ps.n fun i=>QA.enc (x.d.ps.get i)),(1,.frz Q0 x.scans.n fun i=>QA.enc (x.scans.get i)),(JD x),(K4 x),(K5 C x),JC,(Jo f),(Jq g),
  (K6 C)])) (.leaf (.bool true true) ([(K9 l),(K3 has l),(VB x),(JU many),(Jl f),(Jj g),(JB l),(0,.frz Q0 x.d.ps.n fun i=>QA.enc (x.d.ps.get i)),(1,
  .frz Q0 x.scans.n fun i=>QA.enc (x.scans.get i)),(JD x),(K4 x),(K5 C x),JC,(Jo f),(Jq g),(K6 C)]))))))) (.need (decide ((0:Int)≤(l.length:Int) ∧
  (l.length : Int) < (C.length : Int)) && decide (C.length ≤ C.length)) (.need (decide (l.length < C.length)) (.fail ("a loop")))) := by kernel_rfl
abbrev QA6(l:List QB):List Prop:=
  [true=true,0=0,l.length=l.length,cO=cO,l.length≤l.length,QC 2 l.length (fun i=>QA.enc (l.getD i ⟨0,0⟩)) fun i=>QA.enc (l.getD i ⟨0,0⟩),
  KE (.int true .i64 0) (.int true .i64 0) has has (fun i => .int false .i64 (QG l i)) fun i => .int false .i64 (QG l i),LoopState.ready=LoopState.ready,(none:Option
  Code)=none,Array.mk [18]=Array.mk [(18:Tmp)],(QK Try.f25 0).1=(QK Try.f25 0).1,(QK Try.f25 0).2=(QK Try.f25 0).2]
abbrev V8:List Prop:=
  [x.d.play.length=x.d.play.length,x.d.play.slack=x.d.play.slack,x.d.play.loose=x.d.play.loose,x.d.play.damp.lo=x.d.play.damp.lo,x.d.play.damp.hi=x.d.play.damp.hi,
  x.d.wide=x.d.wide,x.d.high=x.d.high,x.d.turn=x.d.turn,0=0,x.d.ps.n=x.d.ps.n,cO=cO,0=0,x.scans.n=x.scans.n,cO=cO,0=0,x.hang.n =
  x.hang.n,cO=cO,x.lost=x.lost,x.foreign=x.foreign,0=0]
abbrev Vo:List Prop:=
  [0=0,0=0,0=0,0=0]
abbrev qM:List Prop:=
  [0=0,0=0,0=0,(0:Int)=0]
abbrev Wj:List Prop:=
  [0=0,(0:Int)=0,0=0,0=0,(0:Int)=0,(0:Int)=0,false=false,0=0,0=0,Fn.func (76:FuncId)=Fn.func (76:FuncId),0=0,0=0]
theorem QaB :QL 272 [(.bool true true)] ([(K9 l),(K3 has l),(VB x),(Hp many),(Jl f),(Jj g),(JB l),(0,.frz Q0 x.d.ps.n fun i=>QA.enc (x.d.ps.get i)),(1,.frz
  Q0 x.scans.n fun i=>QA.enc (x.scans.get i)),(JD x),(K4 x),(K5 C x),JC,(Jo f),(Jq g),(K6 C)]) (Kd (trU x C (QK Try.f25 0).1 (QK Try.f25 0).2 l
  has many f g has many f g))=(some ((QA6 has l)++(V8 x)++Vo++qM++Vo++[(0:Int)=0]++(V8 x)++Wj++[many=many,0=0,f.length=f.length,
  cO=cO,f.length≤f.length,QC 2 f.length (fun i=>QA.enc (f.getD i ⟨0,0⟩)) fun i=>QA.enc (f.getD i ⟨0,0⟩),0=0,g.length=g.length,cO=Cap.of
  0,g.length≤g.length,QC 2 g.length (fun i=>QA.enc (g.getD i ⟨0,0⟩)) fun i=>QA.enc (g.getD i ⟨0,0⟩)])):=by kernel_rfl
abbrev QDS:List Prop:=
  [g.length=g'.length,cO=cO,g'.length≤g.length,QC 2 g'.length (fun i=>QA.enc (g.getD i ⟨0,0⟩)) fun i=>QA.enc (g'.getD i ⟨0,0⟩)]
theorem QX1(f' g':List QB):QL 272 [(.bool true true)] ([(K9 l),(K3 has l),(VB x),(JU many),(QGG l),(Jj g),(JB l),(0,.frz Q0 x.d.ps.n fun i=>QA.enc (x.d.ps.get i)),(1,.frz
  Q0 x.scans.n fun i=>QA.enc (x.scans.get i)),(JD x),(K4 x),(K5 C x),JC,(QE4 l),(Jq g),(K6 C)]) (Kd (trU x C (QK Try.f25 0).1 (QK Try.f25 0).2 l
  has many f g has many' f' g'))=(some ((QA6 has l)++(V8 x)++Vo++qM++Vo++[(0:Int)=0]++(V8 x)++Wj++[i64.wrap (many+1)=many',0 =
  0,l.length=f'.length,cO=cO,f'.length≤l.length,QC 2 f'.length (fun i=>QA.enc (l.getD i ⟨0,0⟩)) fun i=>QA.enc (f'.getD i ⟨0,0⟩),0=0]++(QDS g
  g'))):=by kernel_rfl
abbrev QF7:List Prop:=
  [0=0,f.length=f'.length,cO=cO,f'.length≤f.length,QC 2 f'.length (fun i=>QA.enc (f.getD i ⟨0,0⟩)) fun i=>QA.enc (f'.getD i ⟨0,0⟩),0=0]
theorem QYr(f' g':List QB):QL 272 [(.bool true true)] ([(K9 l),(K3 has l),(VB x),(JU many),(Jl f),(QDw l),(JB l),(0,.frz Q0 x.d.ps.n fun i=>QA.enc (x.d.ps.get i)),(1,.frz
  Q0 x.scans.n fun i=>QA.enc (x.scans.get i)),(JD x),(K4 x),(K5 C x),JC,(Jo f),(QDp l),(K6 C)]) (Kd (trU x C (QK Try.f25 0).1 (QK Try.f25 0).2 l
  has many f g has many' f' g'))=(some ((QA6 has l)++(V8 x)++Vo++qM++Vo++[(0:Int)=0]++(V8 x)++Wj++[i64.wrap (many+1)=many'] ++
  (QF7 f f')++[l.length=g'.length,cO=cO,g'.length≤l.length,QC 2 g'.length (fun i=>QA.enc (l.getD i ⟨0,0⟩)) fun i=>QA.enc (g'.getD i ⟨0,0⟩)])):=by kernel_rfl
abbrev QEw:List Prop:=
  [0=0,l.length=l.length,cO=cO,l.length≤l.length,QC 2 l.length (fun i=>QA.enc (l.getD i ⟨0,0⟩)) fun i=>QA.enc (l.getD i ⟨0,0⟩)]
abbrev QLR:List Prop:=
  [LoopState.done=LoopState.done,some (Code.exit 0)=some (Code.exit 0),Array.mk [18]=Array.mk [(18:Tmp)],(QK Try.f25 0).1=(QK Try.f25 0).1,(QK Try.f25 0).2 =
  (QK Try.f25 0).2]
theorem QXe(f' g':List QB):QL 272 [(.bool true false)] ([(K9 l),(K3 has l),(YT x),(JU many),(Jl f),(Jj g),(JB l),(0,.frz Q0 x.d.ps.n fun i=>QA.enc (x.d.ps.get i)),(1,.frz
  Q0 x.scans.n fun i=>QA.enc (x.scans.get i)),(JD x),(K4 x),(K5 C x),JC,(Jo f),(Jq g),(K6 C)]) (Kd (trV x C (QK Try.f25 0).1 (QK Try.f25 0).2 l
  has many f g has many' f' g'))=(some ([false=false]++(QEw l)++[KE (.int true .i64 0) (.int true .i64 0) has has (fun i => .int false .i64 (QG l i)) fun i => .int
  false .i64 (QG l i)]++QLR++(V8 x)++Vo++qM++Vo++[(0:Int)=0]++(V8 x)++Wj++[i64.wrap (many+1)=many']++(QF7 f f')++(QDS g
  g'))):=by kernel_rfl
theorem QaC(f' g':List QB):QL 272 [(.bool true true)] ([(K9 l),(K3 has l),(VB x),(JU many),(Jl f),(Jj g),(JB l),(0,.frz Q0 x.d.ps.n fun i=>QA.enc (x.d.ps.get i)),(1,.frz
  Q0 x.scans.n fun i=>QA.enc (x.scans.get i)),(JD x),(K4 x),(K5 C x),JC,(Jo f),(Jq g),(K6 C)]) (Kd (trU x C (QK Try.f25 0).1 (QK Try.f25 0).2 l
  has many f g has many' f' g'))=(some ((QA6 has l)++(V8 x)++Vo++qM++Vo++[(0:Int)=0]++(V8 x)++Wj++[i64.wrap (many+1)=many'] ++
  (QF7 f f')++(QDS g g'))):=by kernel_rfl
noncomputable abbrev QAY:Nat×Blk:=
  (16,.cells 0 38 [.slz 624 0 (0+l.length) cO])
noncomputable abbrev QBO(x:QE):Nat×Blk:=
  (624,.rowz true 56 [.int .i64,.int .i64] (0+l.length) (Qa 0 (fun x x_1=>(0:Int)) fun i=>QA.enc (l.getD i ⟨0,0⟩)))
noncomputable abbrev QB5:Nat×Blk:=
  (24,.cells 0 38 [.slz 640 0 (0+l.length) cO])
noncomputable abbrev QBV(x:QE):Nat×Blk:=
  (640,.rowz true 56 [.int .i64,.int .i64] (0+l.length) (Qa 0 (fun x x_1=>(0:Int)) fun i=>QA.enc (l.getD i ⟨0,0⟩)))
noncomputable abbrev QKn(has':Int→Bool)(l:List QB)(many':Int)(x:QE):List (Nat×Blk):=
  [(200,.cells 0 38 [.slz 280 0 l.length cO]),(176,.mpf i64 (.int true .i64 0) has' fun i => .int false .i64 (QG l i)),(VB x),(32,.cells 0 3 [.int false
  .i64 many']),(16,.cells 0 38 [.slz 288 0 f'.length cO]),(24,.cells 0 38 [.slz 296 0 g'.length cO]),(280,.rowz true 56 [.int .i64,.int .i64] l.length fun i=>
  QA.enc (l.getD i ⟨0,0⟩)),(288,.rowz true 56 [.int .i64,.int .i64] f'.length fun i=>QA.enc (f'.getD i ⟨0,0⟩)),(296,.rowz true 56 [.int .i64,.int .i64] g'.length fun i
  => QA.enc (g'.getD i ⟨0,0⟩))]
theorem QSz(cs l:List QB)(has:Int→Bool)(many:Int)(f g:List QB)(has':Int→Bool)(many':Int)(f' g':List QB):(J5 (mkE Try.prog Qj) (trX Try.prog (trJ x C (QK Try.f25 0).1 (QK Try.f25 0).2 cs l has many f g 0) [(True,.exit 0,trE x (QK Try.f25 0).1 (QK Try.f25 0).2 l
  has' many' f' g')]) Try.f77 QAh (qn x C (QK Try.f25 0).1 (QK Try.f25 0).2 l has many f g).hp 272 fun v h _=>YM Wo v h) = .br ((l.length:Int)==(x.scans.n :
  Int)) (.need (isI i64 (.int false .i64 (QG l (-2:Int)))) (.br (decide (i64.wrap ((x.d.ps.n:Int)-i64.wrap ((l.length:Int)-toI (.int false .i64
  (QG l (-2:Int)))))>x.lost)) (.leaf (.bool true true) ([(K9 l),(K3 has l),(VB x),(Hp many),(Jl f),(Jj g),(JB l),(0,.frz Q0 x.d.ps.n fun i=>
  QA.enc (x.d.ps.get i)),(1,.frz Q0 x.scans.n fun i=>QA.enc (x.scans.get i)),(JD x),(K4 x),(K5 C x),JC,(Jo f),(Jq g),(K6 C)])) (.br (i64.wrap
  (many+1)==1) (.need (decide (0<l.length∧l.length≤l.length)) (.need (true&&(decide (l.length≤l.length)&&decide ((0+l.length+(0+l.length) / 4+192)*16 ≤
  281474976710656∧0+l.length≤9223372036854775807))) (.br (i64.wrap (many+1)==100) (.leaf (.bool true false) ([(K9 l),(K3 has l),(YT x),(JU many),(QAY
  l),(Jj g),(JB l),(0,.frz Q0 x.d.ps.n fun i=>QA.enc (x.d.ps.get i)),(1,.frz Q0 x.scans.n fun i=>QA.enc (x.scans.get i)),(JD x),(K4 x),(K5 C x),JC,
  (QBO l x),(Jq g),(K6 C)])) (.leaf (.bool true true) ([(K9 l),(K3 has l),(VB x),(JU many),(QAY l),(Jj g),(JB l),(0,.frz Q0 x.d.ps.n fun i=>
  QA.enc (x.d.ps.get i)),(1,.frz Q0 x.scans.n fun i=>QA.enc (x.scans.get i)),(JD x),(K4 x),(K5 C x),JC,(QBO l x),(Jq g),(K6 C)]))))) (.br
  (i64.wrap (many+1)==2) (.need (decide (0<l.length∧l.length≤l.length)) (.need (true&&(decide (l.length≤l.length)&&decide ((0+l.length+(0+l.length) / 4 +
  192)*16≤281474976710656∧0+l.length≤9223372036854775807))) (.br (i64.wrap (many+1)==100) (.leaf (.bool true false) ([(K9 l),(K3 has l),(YT x),(JU
  many),(Jl f),(QB5 l),(JB l),(0,.frz Q0 x.d.ps.n fun i=>QA.enc (x.d.ps.get i)),(1,.frz Q0 x.scans.n fun i=>QA.enc (x.scans.get i)),(JD x),(K4 x),
  (K5 C x),JC,(Jo f),(QBV l x),(K6 C)])) (.leaf (.bool true true) ([(K9 l),(K3 has l),(VB x),(JU many),(Jl f),(QB5 l),(JB l),(0,.frz Q0
  x.d.ps.n fun i=>QA.enc (x.d.ps.get i)),(1,.frz Q0 x.scans.n fun i=>QA.enc (x.scans.get i)),(JD x),(K4 x),(K5 C x),JC,(Jo f),(QBV l x),(K6 C)])))))
  (.br (i64.wrap (many+1)==100) (.leaf (.bool true false) ([(K9 l),(K3 has l),(YT x),(JU many),(Jl f),(Jj g),(JB l),(0,.frz Q0 x.d.ps.n fun i=>
  QA.enc (x.d.ps.get i)),(1,.frz Q0 x.scans.n fun i=>QA.enc (x.scans.get i)),(JD x),(K4 x),(K5 C x),JC,(Jo f),(Jq g),(K6 C)])) (.leaf (.bool true
  true) ([(K9 l),(K3 has l),(VB x),(JU many),(Jl f),(Jj g),(JB l),(0,.frz Q0 x.d.ps.n fun i=>QA.enc (x.d.ps.get i)),(1,.frz Q0 x.scans.n fun i=>
  QA.enc (x.scans.get i)),(JD x),(K4 x),(K5 C x),JC,(Jo f),(Jq g),(K6 C)]))))))) (.need (decide ((0:Int)≤(l.length:Int)∧(l.length:Int)<(C.length :
  Int))&&decide (C.length≤C.length)) (.need (decide (l.length<C.length)) (.ask (0=0) (.ask (0=0) (.ask (0=0) (.ask (0=0) (.ask (0=0) (.ask (0=0) (.ask (0=0) (.ask
  (0=0) (.ask (0=0) (.ask (0=0) (.ask (0=0) (.ask ((QH C l.length).length=cs.length) (.ask (Cap.of 0=Cap.of 0) (.ask ((↑(QH C l.length).length:Int)=(cs.length :
  Int)) (.ask ((0:Int)=0) (.ask (cs.length≤(QH C l.length).length) (.ask (QC 2 cs.length (fun j=>QA.enc ((QH C l.length).getD j ⟨0,0⟩)) fun i=>QA.enc (cs.getD i
  ⟨0,0⟩)) (.ask (0=0) (.ask (l.length=l.length) (.ask (Cap.of 0=Cap.of 0) (.ask (l.length≤l.length) (.ask (QC 2 l.length (fun i=>QA.enc (l.getD i ⟨0,0⟩)) fun i=>
  QA.enc (l.getD i ⟨0,0⟩)) (.ask (KE (.int true .i64 0) (.int true .i64 0) has has (fun i => .int false .i64 (QG l i)) fun i => .int false .i64 (QG l i)) (.ask
  (LoopState.ready=LoopState.ready) (.ask ((none:Option Code)=none) (.ask (Array.mk [(18:Tmp)]=Array.mk [(18:Tmp)]) (.ask ((QK Try.f25 0).1=(QK Try.f25 0).1)
  (.ask ((QK Try.f25 0).2=(QK Try.f25 0).2) (.ask (x.d.play.length=x.d.play.length) (.ask (x.d.play.slack=x.d.play.slack) (.ask (x.d.play.loose=x.d.play.loose) (.ask
  (x.d.play.damp.lo=x.d.play.damp.lo) (.ask (x.d.play.damp.hi=x.d.play.damp.hi) (.ask (x.d.wide=x.d.wide) (.ask (x.d.high=x.d.high) (.ask (x.d.turn=x.d.turn) (.ask (0=0)
  (.ask (x.d.ps.n=x.d.ps.n) (.ask (Cap.of 0=Cap.of 0) (.ask (0=0) (.ask (x.scans.n=x.scans.n) (.ask (Cap.of 0=Cap.of 0) (.ask (0=0) (.ask (x.hang.n=x.hang.n) (.ask
  (Cap.of 0=Cap.of 0) (.ask (x.lost=x.lost) (.ask (x.foreign=x.foreign) (.ask (0=0) (.ask (0=0) (.ask (0=0) (.ask (0=0) (.ask (0=0) (.ask (0=0) (.ask (0=0) (.ask
  (0=0) (.ask ((0:Int)=0) (.ask (0=0) (.ask (0=0) (.ask (0=0) (.ask (0=0) (.ask ((0:Int)=0) (.ask (x.d.play.length=x.d.play.length) (.ask (x.d.play.slack =
  x.d.play.slack) (.ask (x.d.play.loose=x.d.play.loose) (.ask (x.d.play.damp.lo=x.d.play.damp.lo) (.ask (x.d.play.damp.hi=x.d.play.damp.hi) (.ask (x.d.wide=x.d.wide) (.ask
  (x.d.high=x.d.high) (.ask (x.d.turn=x.d.turn) (.ask (0=0) (.ask (x.d.ps.n=x.d.ps.n) (.ask (Cap.of 0=Cap.of 0) (.ask (0=0) (.ask (x.scans.n=x.scans.n) (.ask (Cap.of 0 =
  Cap.of 0) (.ask (0=0) (.ask (x.hang.n=x.hang.n) (.ask (Cap.of 0=Cap.of 0) (.ask (x.lost=x.lost) (.ask (x.foreign=x.foreign) (.ask (0=0) (.ask (0=0) (.ask ((0:Int) =
  0) (.ask (0=0) (.ask (0=0) (.ask ((0:Int)=0) (.ask ((0:Int)=0) (.ask (false=false) (.ask (0=0) (.ask (0=0) (.ask (Fn.func (76:FuncId)=Fn.func (76:FuncId))
  (.ask (0=0) (.ask (0=0) (.ask (many=many) (.ask (0=0) (.ask (f.length=f.length) (.ask (Cap.of 0=Cap.of 0) (.ask (f.length≤f.length) (.ask (QC 2 f.length (fun i=>
  QA.enc (f.getD i ⟨0,0⟩)) fun i=>QA.enc (f.getD i ⟨0,0⟩)) (.ask (0=0) (.ask (g.length=g.length) (.ask (Cap.of 0=Cap.of 0) (.ask (g.length≤g.length) (.ask (QC 2
  g.length (fun i=>QA.enc (g.getD i ⟨0,0⟩)) fun i=>QA.enc (g.getD i ⟨0,0⟩)) (.ask (Fn.func (77:FuncId)=Fn.func (77:FuncId)) (.ask (0=0) (.ask (0=0) (.ask (0=0)
  (.ask (0=0) (.ask (0=0) (.ask (0=0) (.ask (0=0) (.ask (0=0) (.ask (0=0) (.ask (0=0) (.ask (0=0) (.ask (0=0) (.ask (x.d.play.length=x.d.play.length) (.ask
  (x.d.play.slack=x.d.play.slack) (.ask (x.d.play.loose=x.d.play.loose) (.ask (x.d.play.damp.lo=x.d.play.damp.lo) (.ask (x.d.play.damp.hi=x.d.play.damp.hi) (.ask (x.d.wide =
  x.d.wide) (.ask (x.d.high=x.d.high) (.ask (x.d.turn=x.d.turn) (.ask (0=0) (.ask (x.d.ps.n=x.d.ps.n) (.ask (Cap.of 0=Cap.of 0) (.ask (0=0) (.ask (x.scans.n=x.scans.n)
  (.ask (Cap.of 0=Cap.of 0) (.ask (0=0) (.ask (x.hang.n=x.hang.n) (.ask (Cap.of 0=Cap.of 0) (.ask (x.lost=x.lost) (.ask (x.foreign=x.foreign) (.ask (x.d.play.length =
  x.d.play.length) (.ask (x.d.play.slack=x.d.play.slack) (.ask (x.d.play.loose=x.d.play.loose) (.ask (x.d.play.damp.lo=x.d.play.damp.lo) (.ask (x.d.play.damp.hi =
  x.d.play.damp.hi) (.ask (x.d.wide=x.d.wide) (.ask (x.d.high=x.d.high) (.ask (x.d.turn=x.d.turn) (.ask (0=0) (.ask (x.d.ps.n=x.d.ps.n) (.ask (Cap.of 0=Cap.of 0) (.ask (0
  = 0) (.ask (x.scans.n=x.scans.n) (.ask (Cap.of 0=Cap.of 0) (.ask (0=0) (.ask (x.hang.n=x.hang.n) (.ask (Cap.of 0=Cap.of 0) (.ask (x.lost=x.lost) (.ask (x.foreign =
  x.foreign) (.ask (0=0) (.ask (C.length=C.length) (.ask (Cap.of 0=Cap.of 0) (.ask (C.length=C.length) (.ask (KM 2 C.length (fun i=>(QH C i).length) (fun i=>(QH C
  i).length) (fun i j=>QA.enc ((QH C i).getD j ⟨0,0⟩)) fun i j=>QA.enc ((QH C i).getD j ⟨0,0⟩)) (.ask (x.d.ps.n≤x.d.ps.n) (.ask (QC 28 x.d.ps.n (fun i=>QA.enc
  (x.d.ps.get i)) fun i=>QA.enc (x.d.ps.get i)) (.ask (x.scans.n≤x.scans.n) (.ask (QC 28 x.scans.n (fun i=>QA.enc (x.scans.get i)) fun i=>QA.enc (x.scans.get i))
  (.ask (x.hang.n≤x.hang.n) (.ask (QC 4 x.hang.n (fun i=>QA.enc (x.hang.get i)) fun i=>QA.enc (x.hang.get i)) (.asm (True) (.all (fun(g0:Nat→Value) => .leaf (.bool
  true true) ((QKn f' g' has' l many'
  x))))))))))))))))))))))))))))))))))))))))))))))))))))))))))))))))))))))))))))))))))))))))))))))))))))))))))))))))))))))))))))))))))))))))))))))))))))))))))))))))))))))))))))):=by kernel_rfl
noncomputable abbrev QKk(has':Int→Bool)(l:List QB)(many':Int)(x:QE):List (Nat×Blk):=
  [(200,.cells 0 38 [.slz 280 0 l.length cO]),(176,.mpf i64 (.int true .i64 0) has' fun i => .int false .i64 (QG l i)),(YT x),(32,.cells 0 3 [.int false
  .i64 many']),(16,.cells 0 38 [.slz 288 0 f'.length cO]),(24,.cells 0 38 [.slz 296 0 g'.length cO]),(280,.rowz true 56 [.int .i64,.int .i64] l.length fun i=>
  QA.enc (l.getD i ⟨0,0⟩)),(288,.rowz true 56 [.int .i64,.int .i64] f'.length fun i=>QA.enc (f'.getD i ⟨0,0⟩)),(296,.rowz true 56 [.int .i64,.int .i64] g'.length fun i
  => QA.enc (g'.getD i ⟨0,0⟩))]
theorem QTy(cs l:List QB)(has:Int→Bool)(many:Int)(f g:List QB)(has':Int→Bool)(many':Int)(f' g':List QB):(J5 (mkE Try.prog Qj) (trX Try.prog (trJ x C (QK Try.f25 0).1 (QK Try.f25 0).2 cs l has many f g 0) [(True,.ret,trF x (QK Try.f25 0).1 (QK Try.f25 0).2 l
  has' many' f' g')]) Try.f77 QAh (qn x C (QK Try.f25 0).1 (QK Try.f25 0).2 l has many f g).hp 272 fun v h _=>YM Wo v h) = .br ((l.length:Int)==(x.scans.n :
  Int)) (.need (isI i64 (.int false .i64 (QG l (-2:Int)))) (.br (decide (i64.wrap ((x.d.ps.n:Int)-i64.wrap ((l.length:Int)-toI (.int false .i64
  (QG l (-2:Int)))))>x.lost)) (.leaf (.bool true true) ([(K9 l),(K3 has l),(VB x),(Hp many),(Jl f),(Jj g),(JB l),(0,.frz Q0 x.d.ps.n fun i=>
  QA.enc (x.d.ps.get i)),(1,.frz Q0 x.scans.n fun i=>QA.enc (x.scans.get i)),(JD x),(K4 x),(K5 C x),JC,(Jo f),(Jq g),(K6 C)])) (.br (i64.wrap
  (many+1)==1) (.need (decide (0<l.length∧l.length≤l.length)) (.need (true&&(decide (l.length≤l.length)&&decide ((0+l.length+(0+l.length) / 4+192)*16 ≤
  281474976710656∧0+l.length≤9223372036854775807))) (.br (i64.wrap (many+1)==100) (.leaf (.bool true false) ([(K9 l),(K3 has l),(YT x),(JU many),(QAY
  l),(Jj g),(JB l),(0,.frz Q0 x.d.ps.n fun i=>QA.enc (x.d.ps.get i)),(1,.frz Q0 x.scans.n fun i=>QA.enc (x.scans.get i)),(JD x),(K4 x),(K5 C x),JC,
  (QBO l x),(Jq g),(K6 C)])) (.leaf (.bool true true) ([(K9 l),(K3 has l),(VB x),(JU many),(QAY l),(Jj g),(JB l),(0,.frz Q0 x.d.ps.n fun i=>
  QA.enc (x.d.ps.get i)),(1,.frz Q0 x.scans.n fun i=>QA.enc (x.scans.get i)),(JD x),(K4 x),(K5 C x),JC,(QBO l x),(Jq g),(K6 C)]))))) (.br
  (i64.wrap (many+1)==2) (.need (decide (0<l.length∧l.length≤l.length)) (.need (true&&(decide (l.length≤l.length)&&decide ((0+l.length+(0+l.length) / 4 +
  192)*16≤281474976710656∧0+l.length≤9223372036854775807))) (.br (i64.wrap (many+1)==100) (.leaf (.bool true false) ([(K9 l),(K3 has l),(YT x),(JU
  many),(Jl f),(QB5 l),(JB l),(0,.frz Q0 x.d.ps.n fun i=>QA.enc (x.d.ps.get i)),(1,.frz Q0 x.scans.n fun i=>QA.enc (x.scans.get i)),(JD x),(K4 x),
  (K5 C x),JC,(Jo f),(QBV l x),(K6 C)])) (.leaf (.bool true true) ([(K9 l),(K3 has l),(VB x),(JU many),(Jl f),(QB5 l),(JB l),(0,.frz Q0
  x.d.ps.n fun i=>QA.enc (x.d.ps.get i)),(1,.frz Q0 x.scans.n fun i=>QA.enc (x.scans.get i)),(JD x),(K4 x),(K5 C x),JC,(Jo f),(QBV l x),(K6 C)])))))
  (.br (i64.wrap (many+1)==100) (.leaf (.bool true false) ([(K9 l),(K3 has l),(YT x),(JU many),(Jl f),(Jj g),(JB l),(0,.frz Q0 x.d.ps.n fun i=>
  QA.enc (x.d.ps.get i)),(1,.frz Q0 x.scans.n fun i=>QA.enc (x.scans.get i)),(JD x),(K4 x),(K5 C x),JC,(Jo f),(Jq g),(K6 C)])) (.leaf (.bool true
  true) ([(K9 l),(K3 has l),(VB x),(JU many),(Jl f),(Jj g),(JB l),(0,.frz Q0 x.d.ps.n fun i=>QA.enc (x.d.ps.get i)),(1,.frz Q0 x.scans.n fun i=>
  QA.enc (x.scans.get i)),(JD x),(K4 x),(K5 C x),JC,(Jo f),(Jq g),(K6 C)]))))))) (.need (decide ((0:Int)≤(l.length:Int)∧(l.length:Int)<(C.length :
  Int))&&decide (C.length≤C.length)) (.need (decide (l.length<C.length)) (.ask (0=0) (.ask (0=0) (.ask (0=0) (.ask (0=0) (.ask (0=0) (.ask (0=0) (.ask (0=0) (.ask
  (0=0) (.ask (0=0) (.ask (0=0) (.ask (0=0) (.ask ((QH C l.length).length=cs.length) (.ask (Cap.of 0=Cap.of 0) (.ask ((↑(QH C l.length).length:Int)=(cs.length :
  Int)) (.ask ((0:Int)=0) (.ask (cs.length≤(QH C l.length).length) (.ask (QC 2 cs.length (fun j=>QA.enc ((QH C l.length).getD j ⟨0,0⟩)) fun i=>QA.enc (cs.getD i
  ⟨0,0⟩)) (.ask (0=0) (.ask (l.length=l.length) (.ask (Cap.of 0=Cap.of 0) (.ask (l.length≤l.length) (.ask (QC 2 l.length (fun i=>QA.enc (l.getD i ⟨0,0⟩)) fun i=>
  QA.enc (l.getD i ⟨0,0⟩)) (.ask (KE (.int true .i64 0) (.int true .i64 0) has has (fun i => .int false .i64 (QG l i)) fun i => .int false .i64 (QG l i)) (.ask
  (LoopState.ready=LoopState.ready) (.ask ((none:Option Code)=none) (.ask (Array.mk [(18:Tmp)]=Array.mk [(18:Tmp)]) (.ask ((QK Try.f25 0).1=(QK Try.f25 0).1)
  (.ask ((QK Try.f25 0).2=(QK Try.f25 0).2) (.ask (x.d.play.length=x.d.play.length) (.ask (x.d.play.slack=x.d.play.slack) (.ask (x.d.play.loose=x.d.play.loose) (.ask
  (x.d.play.damp.lo=x.d.play.damp.lo) (.ask (x.d.play.damp.hi=x.d.play.damp.hi) (.ask (x.d.wide=x.d.wide) (.ask (x.d.high=x.d.high) (.ask (x.d.turn=x.d.turn) (.ask (0=0)
  (.ask (x.d.ps.n=x.d.ps.n) (.ask (Cap.of 0=Cap.of 0) (.ask (0=0) (.ask (x.scans.n=x.scans.n) (.ask (Cap.of 0=Cap.of 0) (.ask (0=0) (.ask (x.hang.n=x.hang.n) (.ask
  (Cap.of 0=Cap.of 0) (.ask (x.lost=x.lost) (.ask (x.foreign=x.foreign) (.ask (0=0) (.ask (0=0) (.ask (0=0) (.ask (0=0) (.ask (0=0) (.ask (0=0) (.ask (0=0) (.ask
  (0=0) (.ask ((0:Int)=0) (.ask (0=0) (.ask (0=0) (.ask (0=0) (.ask (0=0) (.ask ((0:Int)=0) (.ask (x.d.play.length=x.d.play.length) (.ask (x.d.play.slack =
  x.d.play.slack) (.ask (x.d.play.loose=x.d.play.loose) (.ask (x.d.play.damp.lo=x.d.play.damp.lo) (.ask (x.d.play.damp.hi=x.d.play.damp.hi) (.ask (x.d.wide=x.d.wide) (.ask
  (x.d.high=x.d.high) (.ask (x.d.turn=x.d.turn) (.ask (0=0) (.ask (x.d.ps.n=x.d.ps.n) (.ask (Cap.of 0=Cap.of 0) (.ask (0=0) (.ask (x.scans.n=x.scans.n) (.ask (Cap.of 0 =
  Cap.of 0) (.ask (0=0) (.ask (x.hang.n=x.hang.n) (.ask (Cap.of 0=Cap.of 0) (.ask (x.lost=x.lost) (.ask (x.foreign=x.foreign) (.ask (0=0) (.ask (0=0) (.ask ((0:Int) =
  0) (.ask (0=0) (.ask (0=0) (.ask ((0:Int)=0) (.ask ((0:Int)=0) (.ask (false=false) (.ask (0=0) (.ask (0=0) (.ask (Fn.func (76:FuncId)=Fn.func (76:FuncId))
  (.ask (0=0) (.ask (0=0) (.ask (many=many) (.ask (0=0) (.ask (f.length=f.length) (.ask (Cap.of 0=Cap.of 0) (.ask (f.length≤f.length) (.ask (QC 2 f.length (fun i=>
  QA.enc (f.getD i ⟨0,0⟩)) fun i=>QA.enc (f.getD i ⟨0,0⟩)) (.ask (0=0) (.ask (g.length=g.length) (.ask (Cap.of 0=Cap.of 0) (.ask (g.length≤g.length) (.ask (QC 2
  g.length (fun i=>QA.enc (g.getD i ⟨0,0⟩)) fun i=>QA.enc (g.getD i ⟨0,0⟩)) (.ask (Fn.func (77:FuncId)=Fn.func (77:FuncId)) (.ask (0=0) (.ask (0=0) (.ask (0=0)
  (.ask (0=0) (.ask (0=0) (.ask (0=0) (.ask (0=0) (.ask (0=0) (.ask (0=0) (.ask (0=0) (.ask (0=0) (.ask (0=0) (.ask (x.d.play.length=x.d.play.length) (.ask
  (x.d.play.slack=x.d.play.slack) (.ask (x.d.play.loose=x.d.play.loose) (.ask (x.d.play.damp.lo=x.d.play.damp.lo) (.ask (x.d.play.damp.hi=x.d.play.damp.hi) (.ask (x.d.wide =
  x.d.wide) (.ask (x.d.high=x.d.high) (.ask (x.d.turn=x.d.turn) (.ask (0=0) (.ask (x.d.ps.n=x.d.ps.n) (.ask (Cap.of 0=Cap.of 0) (.ask (0=0) (.ask (x.scans.n=x.scans.n)
  (.ask (Cap.of 0=Cap.of 0) (.ask (0=0) (.ask (x.hang.n=x.hang.n) (.ask (Cap.of 0=Cap.of 0) (.ask (x.lost=x.lost) (.ask (x.foreign=x.foreign) (.ask (x.d.play.length =
  x.d.play.length) (.ask (x.d.play.slack=x.d.play.slack) (.ask (x.d.play.loose=x.d.play.loose) (.ask (x.d.play.damp.lo=x.d.play.damp.lo) (.ask (x.d.play.damp.hi =
  x.d.play.damp.hi) (.ask (x.d.wide=x.d.wide) (.ask (x.d.high=x.d.high) (.ask (x.d.turn=x.d.turn) (.ask (0=0) (.ask (x.d.ps.n=x.d.ps.n) (.ask (Cap.of 0=Cap.of 0) (.ask (0
  = 0) (.ask (x.scans.n=x.scans.n) (.ask (Cap.of 0=Cap.of 0) (.ask (0=0) (.ask (x.hang.n=x.hang.n) (.ask (Cap.of 0=Cap.of 0) (.ask (x.lost=x.lost) (.ask (x.foreign =
  x.foreign) (.ask (0=0) (.ask (C.length=C.length) (.ask (Cap.of 0=Cap.of 0) (.ask (C.length=C.length) (.ask (KM 2 C.length (fun i=>(QH C i).length) (fun i=>(QH C
  i).length) (fun i j=>QA.enc ((QH C i).getD j ⟨0,0⟩)) fun i j=>QA.enc ((QH C i).getD j ⟨0,0⟩)) (.ask (x.d.ps.n≤x.d.ps.n) (.ask (QC 28 x.d.ps.n (fun i=>QA.enc
  (x.d.ps.get i)) fun i=>QA.enc (x.d.ps.get i)) (.ask (x.scans.n≤x.scans.n) (.ask (QC 28 x.scans.n (fun i=>QA.enc (x.scans.get i)) fun i=>QA.enc (x.scans.get i))
  (.ask (x.hang.n≤x.hang.n) (.ask (QC 4 x.hang.n (fun i=>QA.enc (x.hang.get i)) fun i=>QA.enc (x.hang.get i)) (.asm (True) (.all (fun(g0:Nat→Value) => .leaf (.bool
  false false) ((QKk f' g' has' l many'
  x))))))))))))))))))))))))))))))))))))))))))))))))))))))))))))))))))))))))))))))))))))))))))))))))))))))))))))))))))))))))))))))))))))))))))))))))))))))))))))))))))))))))))))):=by kernel_rfl
abbrev QHE:List Prop:=
  [0=0,f'.length=f'.length,cO=cO,f'.length≤f'.length,QC 2 f'.length (fun i=>QA.enc (f'.getD i ⟨0,0⟩)) fun i=>QA.enc (f'.getD i ⟨0,0⟩),0=0,
  g'.length=g'.length,cO=cO,g'.length≤g'.length,QC 2 g'.length (fun i=>QA.enc (g'.getD i ⟨0,0⟩)) fun i=>QA.enc (g'.getD i ⟨0,0⟩)]
theorem QRn(f' g':List QB):QL 272 [(.bool false false)] ((QKk f' g' has' l many' x)) (Kd (trV x C (QK Try.f25 0).1 (QK Try.f25 0).2 l has many f g has' many' f' g'))=(some ([false=false] ++
  (QEw l)++[KE (.int true .i64 0) (.int true .i64 0) has' has' (fun i => .int false .i64 (QG l i)) fun i => .int false .i64 (QG l i)]++QLR++(V8 x)++Vo ++
  qM++Vo++[(0:Int)=0]++(V8 x)++Wj++[many'=many']++(QHE f' g'))):=by kernel_rfl
theorem QXZ(f' g':List QB):QL 272 [(.bool true true)] ((QKn f' g' has' l many' x)) (Kd (trU x C (QK Try.f25 0).1 (QK Try.f25 0).2 l has many f g has' many' f' g'))=(some ([true=true] ++
  (QEw l)++[KE (.int true .i64 0) (.int true .i64 0) has' has' (fun i => .int false .i64 (QG l i)) fun i => .int false .i64 (QG l i),LoopState.ready=LoopState.ready,
  (none:Option Code)=none,Array.mk [18]=Array.mk [(18:Tmp)],(QK Try.f25 0).1=(QK Try.f25 0).1,(QK Try.f25 0).2=(QK Try.f25 0).2]++(V8 x)++Vo
  ++ qM++Vo++[(0:Int)=0]++(V8 x)++Wj++[many'=many']++(QHE f' g'))):=by kernel_rfl
noncomputable abbrev J1:Code:=(QK Try.f25 0).1
noncomputable abbrev Jt:Code:=(QK Try.f25 0).2
theorem QOc(ac body:Code)(l:List QB)(has:Int→Bool)(many:Int)(f g:List QB)(has':Int→Bool)(many':Int)(f' g':List QB):(trU x C ac body l has many f g has' many' f' g').Ok:=by
 refine⟨(by decide:240≤272),rfl,rfl,?_,rfl,fun _ _=>rfl,fun nid h => ?_⟩
 ·intro q hq;simp only[UC.po,trU,trW,rwL,List.mem_cons,List.not_mem_nil,or_false]at hq;rcases hq with rfl|rfl|rfl|rfl|rfl|rfl|rfl|rfl|rfl<;>refine⟨rfl,rfl,rfl,?_⟩<;>first|exact fun _=>rfl|exact fun h=>absurd (show 272<240 from h) (by decide)|exact fun h=>absurd (show 273<240 from h) (by decide)|exact fun h=>absurd (show 274<240 from h) (by decide)
 ·have e0:=XX 240 272 0 nid (by decide)
  have e1:=XX 240 272 1 nid (by decide)
  have e2:=XX 240 272 2 nid (by decide)
  have l0:=jC (N:=240) (M:=272) (i:=0) (by decide) nid
  have l1:=jC (N:=240) (M:=272) (i:=1) (by decide) nid
  have l2:=jC (N:=240) (M:=272) (i:=2) (by decide) nid
  simp only[UC.po,trU,trW,rwL,qn,trT,JJ,Qw.val,List.map_cons,List.map_nil,Blk.mapId,AV.mapId,AV.mapIdL,Nat.add_zero,Nat.zero_add]at e0 e1 e2 l0 l1 l2 ⊢;rw[e0,e1,e2,l0,l1,l2];rfl
theorem QLv(ac body:Code)(l:List QB)(has:Int→Bool)(many:Int)(f g:List QB)(has':Int→Bool)(many':Int)(f' g':List QB):(trV x C ac body l has many f g has' many' f' g').Ok:=by
 refine⟨(by decide:240≤272),rfl,rfl,?_,rfl,fun _ _=>rfl,fun nid h => ?_⟩
 ·intro q hq;simp only[UC.po,trV,trW,rwL,List.mem_cons,List.not_mem_nil,or_false]at hq;rcases hq with rfl|rfl|rfl|rfl|rfl|rfl|rfl|rfl|rfl<;>refine⟨rfl,rfl,rfl,?_⟩<;>first|exact fun _=>rfl|exact fun h=>absurd (show 272<240 from h) (by decide)|exact fun h=>absurd (show 273<240 from h) (by decide)|exact fun h=>absurd (show 274<240 from h) (by decide)
 ·have e0:=XX 240 272 0 nid (by decide)
  have e1:=XX 240 272 1 nid (by decide)
  have e2:=XX 240 272 2 nid (by decide)
  have l0:=jC (N:=240) (M:=272) (i:=0) (by decide) nid
  have l1:=jC (N:=240) (M:=272) (i:=1) (by decide) nid
  have l2:=jC (N:=240) (M:=272) (i:=2) (by decide) nid
  simp only[UC.po,trV,trW,rwL,qn,trT,JJ,Qw.val,List.map_cons,List.map_nil,Blk.mapId,AV.mapId,AV.mapIdL,Nat.add_zero,Nat.zero_add]at e0 e1 e2 l0 l1 l2 ⊢;rw[e0,e1,e2,l0,l1,l2];rfl
theorem QTp{x:QE}(hx:Ko x)(C:List (List QB))(hpos:0<x.scans.n){l:List QB}(hn:l.length=x.scans.n)(s:TrS)(h:Int→Bool):QO Try.prog 77 (uFC (YY x C J1 Jt l h s (Ja x trY l s h))):=by
 obtain⟨many,f,g⟩:=s;have hs:=hx.s;have hd:=hx.d.n9;have hT:QZ (Zk QY (clU l)):=Qv.add (QHK l (by omega) (by omega))
 have fin:∀(s':TrS),Xo (Ws (trU x C J1 Jt l h many f g h s'.1 s'.2.1 s'.2.2)) (Jy (mkE Try.prog (Zk QY (clU l))) (msN Try.prog (Zk QY (clU l))) Try.f77 (trU x C J1 Jt l h many f g h s'.1 s'.2.1 s'.2.2))→QO Try.prog 77 (uFC (trU x C J1 Jt l h many f g h s'.1 s'.2.1 s'.2.2)):=fun s' hd=>
  JW (E:=mkE Try.prog (Zk QY (clU l))) (QP hT) Try.func77 (by kernel_rfl) (by kernel_rfl) (QOc ..) (fun G h1 _=>zh _ hT G h1) ⟨hd⟩
 have finV:∀(s':TrS),Xo (Ws (trV x C J1 Jt l h many f g h s'.1 s'.2.1 s'.2.2)) (Jy (mkE Try.prog (Zk QY (clU l))) (msN Try.prog (Zk QY (clU l))) Try.f77 (trV x C J1 Jt l h many f g h s'.1 s'.2.1 s'.2.2))→QO Try.prog 77 (uFC (trV x C J1 Jt l h many f g h s'.1 s'.2.1 s'.2.2)):=fun s' hd=>
  JW (E:=mkE Try.prog (Zk QY (clU l))) (QP hT) Try.func77 (by kernel_rfl) (by kernel_rfl) (QLv ..) (fun G h1 _=>zh _ hT G h1) ⟨hd⟩
 have he:=QBH (x:=x) (l:=l) (by omega) (by omega)
 cases hb:YF x l with
 | true=>
  rw[hb]at he;simp only[Ja,hb,YY];refine fin (many,f,g) (Qt (QET QY x C l h many f g) ?_);refine QI (fun _=>QF rfl (QI (fun _ => ?_) (fun q=>Bool.noConfusion (show true=false from he.symm.trans q)))) (fun q=>by rw[hn]at q;simp at q)
  refine⟨rfl,rfl,_,QaB x C l h many f g,?_⟩
  repeat' first|with_reducible refine QN ?_ ?_|exact trivial|with_reducible rfl|exact qlr _|exact qRr|exact QU _ _ _ _|exact Ki _ _ _|refine And.intro ?_ ?_
 | false=>
  rw[hb]at he;cases hq:(i64.wrap (many+1)==100)with
  | true=>
   have hend:Ja x trY l (many,f,g) h = .stop (i64.wrap (many+1),f,g) h:=by
    have:=eq_of_beq hq;simp only[Ja,hb,trY,Z8,WQ,this];rfl
   rw[hend];simp only[YY];refine finV (i64.wrap (many+1),f,g) (Qt (QET QY x C l h many f g) ?_);refine QI (fun _=>QF rfl (QI (fun q=>Bool.noConfusion (show true=false from q.symm.trans he)) (fun _ => ?_))) (fun q=>by rw[hn]at q;simp at q)
   refine QI (fun q=>by rw[eq_of_beq hq]at q;cases q) (fun _=>QI (fun q=>by rw[eq_of_beq hq]at q;cases q) (fun _=>QI (fun _ => ?_) (fun q=>by rw[hq]at q;cases q)))
   refine⟨rfl,rfl,_,QXe x C l h many f g (i64.wrap (many+1)) f g,?_⟩
   repeat' first|with_reducible refine QN ?_ ?_|exact trivial|with_reducible rfl|exact qlr _|exact qRr|exact QU _ _ _ _|exact Ki _ _ _|refine And.intro ?_ ?_
  | false=>
   have hend:Ja x trY l (many,f,g) h = .go (i64.wrap (many+1),Z8 (i64.wrap (many+1)) l f,WQ (i64.wrap (many+1)) l g) h:=by
    simp only[Ja,hb,trY,hq];rfl
   rw[hend];simp only[YY];refine fin (i64.wrap (many+1),Z8 (i64.wrap (many+1)) l f,WQ (i64.wrap (many+1)) l g) (Qt (QET QY x C l h many f g) ?_);refine QI (fun _=>QF rfl (QI (fun q=>Bool.noConfusion (show true=false from q.symm.trans he)) (fun _ => ?_))) (fun q=>by rw[hn]at q;simp at q)
   refine QI (fun q1=>QF (KL.2 ?_) (QI (fun q=>by rw[hq]at q;cases q) (fun _ => ?_))) (fun q1=>QI (fun q2=>QF (KL.2 ?_) (QI (fun q=>by rw[hq]at q;cases q) (fun _ => ?_))) (fun q2=>QI (fun q=>by rw[hq]at q;cases q) (fun _ => ?_)))
   ·repeat' first|with_reducible refine QN ?_ ?_|exact trivial|with_reducible rfl|exact qlr _|exact qRr|exact QU _ _ _ _|refine And.intro ?_ ?_
   ·refine⟨rfl,rfl,_,QX1 x C l h many f g _ _ _,?_⟩;simp only[Z8,WQ,q1]
    repeat' first|with_reducible refine QN ?_ ?_|exact trivial|with_reducible rfl|exact qlr _|exact qRr|exact QU _ _ _ _|exact Ki _ _ _|exact rfl|refine And.intro ?_ ?_
   ·repeat' first|with_reducible refine QN ?_ ?_|exact trivial|with_reducible rfl|exact qlr _|exact qRr|exact QU _ _ _ _|refine And.intro ?_ ?_
   ·refine⟨rfl,rfl,_,QYr x C l h many f g _ _ _,?_⟩;simp only[Z8,WQ,q1,q2]
    repeat' first|with_reducible refine QN ?_ ?_|exact trivial|with_reducible rfl|exact qlr _|exact qRr|exact QU _ _ _ _|exact Ki _ _ _|exact rfl|refine And.intro ?_ ?_
   ·refine⟨rfl,rfl,_,QaC x C l h many f g _ _ _,?_⟩;simp only[Z8,WQ,q1,q2]
    repeat' first|with_reducible refine QN ?_ ?_|exact trivial|with_reducible rfl|exact qlr _|exact qRr|exact QU _ _ _ _|exact Ki _ _ _|exact rfl|refine And.intro ?_ ?_
theorem QUL{x:QE}(hx:Ko x){C:List (List QB)}{ac body:Code}{cs l:List QB}(hl:l.length<1000)(hls:∀ c∈l,Km c)(hcs:∀ c∈cs,Km c)(IH:∀ c∈cs,∀ s h,QO Try.prog 77 (uFC (YY x C ac body (l++[c]) h s (VP x C d l s h c))))(t:TrK):(qG Try.prog x C ac body d cs l t).Sound:=by
 unfold qG kPb;split
 ·rename_i hk;have hk:=qdt hk;have hm:=vN (z:=(⟨0,0⟩:QB)) hk;refine Zs ((Qv.add (Hc x C _ hx (HI (by simp) (by simp;omega) ?_))).add (IH _ hm _ _))
  intro c hc;rcases List.mem_append.1 hc with h|h
  ·exact hls c h
  ·rw[List.mem_singleton.1 h];exact hcs _ hm
 ·exact Zs ((Qv.add (ZA (by kernel_rfl) _)).add (ZA (by kernel_rfl) _))
theorem QNT{x:QE}(hx:Ko x){C:List (List QB)}(hC:Xe x C){ac body:Code}{l:List QB}(hl:l.length+(d+1)=x.scans.n)(hls:∀ c∈l,Km c)(IH:∀ c∈QH C l.length,∀ s h,QO Try.prog 77 (uFC (YY x C ac body (l++[c]) h s (VP x C d l s h c))))(s:TrS)(h:Int→Bool){X:List (Prop×Ex×JSt)}(hX:∀ e J,Ve x C ac body d (QH C l.length) l (0,s,h) e J→∃ y∈X,y.1∧y.2.1=e∧y.2.2=J)(G:Ctx)(hrd:G.rd=none)(hG:G.n=272):
  Q1 (mkE Try.prog Qj) G (trX Try.prog (trJ x C ac body (QH C l.length) l h s.1 s.2.1 s.2.2 0) X) (Qo Try.f77):=by
 have hs:=hx.s;refine JF (body:=QW Try.f77 0) (QP Qv) hrd (by kernel_rfl) ?_
 have hE:=fun t=>QUL hx (C:=C) (ac:=ac) (body:=body) (d:=d) (cs:=QH C l.length) (l:=l) (by omega) hls (hC.s _) IH t
 refine vz (E0:=mkE Try.prog Qj) (E:=qG Try.prog x C ac body d (QH C l.length) l) (H:=fun t=>hnd (qG Try.prog x C ac body d (QH C l.length) l t) 0) (n0:=272) (s0:=(0,s,h)) (fun _=>rfl) hE (by omega) (fun t _=>Qq (hE t) 0 G _ hrd) (fun t _=>(by decide:272≤320)) ?_ (QVa x C ac body d (QH C l.length) l (hC.le _) (by omega)) (Nat.zero_le _) hX
 intro t e J hr;unfold Ve at hr;split at hr
 ·rw[hr.2];exact(by decide:272≤320)
 ·rw[hr.2];exact(by decide:272≤320)
theorem QYq{x:QE}(hx:Ko x){C:List (List QB)}(hC:Xe x C){l:List QB}(hl:l.length+(d+1)=x.scans.n)(hls:∀ c∈l,Km c)(IH:∀ c∈QH C l.length,∀ s h,QO Try.prog 77 (uFC (YY x C J1 Jt (l++[c]) h s (VP x C d l s h c))))(s:TrS)(h:Int→Bool):QO Try.prog 77 (uFC (YY x C J1 Jt l h s (onT x C trY (d+1) l s h))):=by
 have hCn:=hC.n;cases he:onT x C trY (d+1) l s h with
 | go s' h'=>
  have hc:JV (KQ x l (VP x C d l)) (QH C l.length) s h = .go s' h':=he;refine JW (E:=mkE Try.prog Qj) (QP Qv) Try.func77 (by kernel_rfl) (by kernel_rfl) (QOc ..) (QNT hx hC hl hls IH s h (X:=[(True,.exit 0,trE x J1 Jt l h' s'.1 s'.2.1 s'.2.2)]) ?_) ⟨?_⟩
  ·intro e J hr;unfold Ve at hr;simp only[List.drop_zero,hc]at hr;exact⟨_,List.mem_cons_self,trivial,hr.1.symm,hr.2.symm⟩
  ·refine Qt (QSz x C (QH C l.length) l h s.1 s.2.1 s.2.2 h' s'.1 s'.2.1 s'.2.2) ?_;refine QI (fun q=>by simp at q;omega) (fun _=>QF (by simp;omega) (QF (by simp;omega) ?_))
   repeat' first|refine QR (p:=_=_) rfl ?_|refine QR (p:=_≤_) (qlr _) ?_|refine QR (p:=QC _ _ _ _) (qRr) ?_|refine QR (p:=KM _ _ _ _ _ _) (QU _ _ _ _) ?_|refine QR (p:=KE _ _ _ _ _ _) (Ki _ _ _) ?_
   refine KA fun _=>Q6 fun g=>⟨rfl,rfl,_,QXZ x C l h s.1 s.2.1 s.2.2 h' s'.1 s'.2.1 s'.2.2,?_⟩
   repeat' first|with_reducible refine QN ?_ ?_|exact trivial|with_reducible rfl|exact qlr _|exact qRr|exact QU _ _ _ _|exact Ki _ _ _|refine And.intro ?_ ?_
 | stop s' h'=>
  have hc:JV (KQ x l (VP x C d l)) (QH C l.length) s h = .stop s' h':=he;refine JW (E:=mkE Try.prog Qj) (QP Qv) Try.func77 (by kernel_rfl) (by kernel_rfl) (QLv ..) (QNT hx hC hl hls IH s h (X:=[(True,.ret,trF x J1 Jt l h' s'.1 s'.2.1 s'.2.2)]) ?_) ⟨?_⟩
  ·intro e J hr;unfold Ve at hr;simp only[List.drop_zero,hc]at hr;exact⟨_,List.mem_cons_self,trivial,hr.1.symm,hr.2.symm⟩
  ·refine Qt (QTy x C (QH C l.length) l h s.1 s.2.1 s.2.2 h' s'.1 s'.2.1 s'.2.2) ?_;refine QI (fun q=>by simp at q;omega) (fun _=>QF (by simp;omega) (QF (by simp;omega) ?_))
   repeat' first|refine QR (p:=_=_) rfl ?_|refine QR (p:=_≤_) (qlr _) ?_|refine QR (p:=QC _ _ _ _) (qRr) ?_|refine QR (p:=KM _ _ _ _ _ _) (QU _ _ _ _) ?_|refine QR (p:=KE _ _ _ _ _ _) (Ki _ _ _) ?_
   refine KA fun _=>Q6 fun g=>⟨rfl,rfl,_,QRn x C l h s.1 s.2.1 s.2.2 h' s'.1 s'.2.1 s'.2.2,?_⟩
   repeat' first|with_reducible refine QN ?_ ?_|exact trivial|with_reducible rfl|exact qlr _|exact qRr|exact QU _ _ _ _|exact Ki _ _ _|refine And.intro ?_ ?_
theorem QLy{x:QE}(hx:Ko x){C:List (List QB)}(hC:Xe x C)(hpos:0<x.scans.n):∀(d:Nat) (l:List QB) (s:TrS) (h:Int→Bool),l.length+d=x.scans.n→(∀ c∈l,Km c)→QO Try.prog 77 (uFC (YY x C J1 Jt l h s (onT x C trY d l s h)))
 | 0,l,s,h,hn,_=>QTp hx C hpos (by omega) s h
 | d+1,l,s,h,hn,hl=>QYq hx hC (by omega) hl (fun c hc s h=>QLy hx hC hpos d (l++[c]) s h (by simp;omega) (fun y hy=>by
   rcases List.mem_append.1 hy with q|q
   ·exact hl y q
   ·rw[List.mem_singleton.1 q];exact hC.s _ c hc)) s h
end Go.Proofs.Ytbpffdkemeoajaa
