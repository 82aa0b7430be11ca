/- - -/
import Derived.Test.YtbpffdkemeoajaaMvzb
open Go.IntKind (i64)
set_option maxRecDepth 100000
namespace Go.Proofs.Ytbpffdkemeoajaa
open Go.SX
def Yy(pb:List Prop→Bool)(U:UC):Tab:=Qb Q8 56 (Vf pb U)
abbrev trX(P:Program)(J:JSt)(X:List (Prop×Ex×JSt)):Hnd:={ hnd (mkE P Q8) 2 with loop:=fun _=>KF 272 WW J X }
variable {d:Nat}(x:QE)(C:List (List QB))(l:List QB)(has:Int→Bool)(many:Int)(f g:List QB)(has':Int→Bool)(f' g':List QB)(many':Int)
noncomputable abbrev K5:Nat×Blk:=
  (200,.cells 0 38 [.slz 248 0 l.length cO])
noncomputable abbrev K1(l:List QB):Nat×Blk:=
  (176,.mpf i64 (.int true .i64 0) has fun i => .int false .i64 (QL l i))
noncomputable abbrev VC:Nat×Blk:=
  (161,.lp LoopState.ready none (trT x) (Array.mk [18]) (QT Try.f25 0).1 (QT Try.f25 0).2)
noncomputable abbrev Hh:Nat×Blk:=
  (32,.cells 0 3 [vi many])
noncomputable abbrev Jd:Nat×Blk:=
  (16,.cells 0 38 [.slz 256 0 f.length cO])
noncomputable abbrev Jj:Nat×Blk:=
  (24,.cells 0 38 [.slz 264 0 g.length cO])
noncomputable abbrev Kx:Nat×Blk:=
  (248,.rowz true 56 [.int .i64,.int .i64] l.length fun i=>QA.enc (l.getD i ⟨0,0⟩))
abbrev Q4:List CK:=
  [.int .i64,.int .i64,.int .i64,.int .i64,.int .i64,.int .i64,.int .i64,.int .i64,.int .i64,.int .i64,.int .i64,.int .i64,.int .i64,.int .i64,.int .i64,.int .i64,.int
  .i64,.int .i64,.int .i64,.int .i64,.int .i64,.int .i64,.int .i64,.int .i64,.int .i64,.int .i64,.int .i64,.int .i64]
noncomputable abbrev Kw:Nat×Blk:=
  (2,.frz [.int .i64,.int .i64,.int .i64,.int .i64] x.hang.n fun i=>QA.enc (x.hang.get i))
noncomputable abbrev K4:Nat×Blk:=
  (8,.cellsR 0 50 [vi x.d.play.length,vi x.d.play.slack,vi x.d.play.loose,vi x.d.play.damp.lo,.int false .i64
  x.d.play.damp.hi,vi x.d.wide,vi x.d.high,.bool false x.d.turn,.slz 0 0 x.d.ps.n cO,.slz 1 0 x.scans.n cO,.slz 2 0 x.hang.n (Cap.of
  0),vi x.lost,vi x.foreign])
noncomputable abbrev Kz(x:QE):Nat×Blk:=
  (56,.cellsR 0 125 [vi x.d.play.length,vi x.d.play.slack,vi x.d.play.loose,vi x.d.play.damp.lo,.int false .i64
  x.d.play.damp.hi,vi x.d.wide,vi x.d.high,.bool false x.d.turn,.slz 0 0 x.d.ps.n cO,.slz 1 0 x.scans.n cO,.slz 2 0 x.hang.n (Cap.of
  0),vi x.lost,vi x.foreign,.slz 57 0 C.length cO])
noncomputable abbrev Ks:Nat×Blk:=
  (128,.cellsR 0 89 [.ptr 56 0 0])
noncomputable abbrev Jl:Nat×Blk:=
  (256,.rowz true 56 [.int .i64,.int .i64] f.length fun i=>QA.enc (f.getD i ⟨0,0⟩))
noncomputable abbrev Jp:Nat×Blk:=
  (264,.rowz true 56 [.int .i64,.int .i64] g.length fun i=>QA.enc (g.getD i ⟨0,0⟩))
noncomputable abbrev Kv:Nat×Blk:=
  (57,.frz2 false 38 [.int .i64,.int .i64] C.length (fun i=>(QM C i).length) fun i j=>QA.enc ((QM C i).getD j ⟨0,0⟩))
abbrev QE7:List Prop:=
  [0=0,l.length=l.length,cO=cO,l.length≤l.length,QD 2 l.length (fun i=>QA.enc (l.getD i ⟨0,0⟩)) fun i=>QA.enc (l.getD i ⟨0,0⟩)]
noncomputable abbrev Xv:Nat×Blk:=
  (161,.lp LoopState.done (some (Code.exit 0)) (trT x) (Array.mk [18]) (QT Try.f25 0).1 (QT Try.f25 0).2)
noncomputable abbrev JP:Nat×Blk:=
  (32,.cells 0 3 [vi (i64.wrap (many+1))])
noncomputable abbrev QBW:Nat×Blk:=
  (16,.cells 0 38 [.slz 584 0 l.length cO])
noncomputable abbrev QB0:Nat×Blk:=
  (584,.rowz true 56 [.int .i64,.int .i64] l.length fun i=>QA.enc (l.getD i ⟨0,0⟩))
noncomputable abbrev QBT:Nat×Blk:=
  (24,.cells 0 38 [.slz 600 0 l.length cO])
noncomputable abbrev QBH:Nat×Blk:=
  (600,.rowz true 56 [.int .i64,.int .i64] l.length fun i=>QA.enc (l.getD i ⟨0,0⟩))
theorem QET(pb:List Prop→Bool)(x:QE)(C:List (List QB))(l:List QB)(has:Int→Bool)(many:Int)(f g:List QB):(XP (mkE Try.prog (Yy pb (clU l))) (msN Try.prog (Yy pb (clU l))) Try.f77 Gf (Z4 x C (QT Try.f25 0).1 (QT Try.f25 0).2 l has many f g).hp 272 fun v h _=>
  We WW v h) = .br ((l.length:Int)==(x.scans.n:Int)) (.need (isI i64 (.int false .i64 (QL l (-2:Int)))) (.br (decide (i64.wrap ((x.d.ps.n:Int) -
  i64.wrap ((l.length:Int)-toI (.int false .i64 (QL l (-2:Int)))))>x.lost)) (.leaf (.bool true true) ([(K5 l),(K1 has l),(VC x),(Hh many),(Jd f),
  (Jj g),(Kx l),(0,.frz Q4 x.d.ps.n fun i=>QA.enc (x.d.ps.get i)),(1,.frz Q4 x.scans.n fun i=>QA.enc (x.scans.get i)),(Kw x),(K4 x),(Kz C x),Ks,
  (Jl f),(Jp g),(Kv C)])) (.br (i64.wrap (many+1)==1) (.need (pb ((QE7 l))) (.br (i64.wrap (many+1)==100) (.leaf (.bool true false) ([(K5 l),
  (K1 has l),(Xv x),(JP many),(QBW l),(Jj g),(Kx l),(0,.frz Q4 x.d.ps.n fun i=>QA.enc (x.d.ps.get i)),(1,.frz Q4 x.scans.n fun i=>QA.enc
  (x.scans.get i)),(Kw x),(K4 x),(Kz C x),Ks,(QB0 l),(Jp g),(Kv C)])) (.leaf (.bool true true) ([(K5 l),(K1 has l),(VC x),(JP many),(QBW l),
  (Jj g),(Kx l),(0,.frz Q4 x.d.ps.n fun i=>QA.enc (x.d.ps.get i)),(1,.frz Q4 x.scans.n fun i=>QA.enc (x.scans.get i)),(Kw x),(K4 x),(Kz C x),Ks,
  (QB0 l),(Jp g),(Kv C)])))) (.br (i64.wrap (many+1)==2) (.need (pb ((QE7 l))) (.br (i64.wrap (many+1)==100) (.leaf (.bool true false) ([(K5 l),
  (K1 has l),(Xv x),(JP many),(Jd f),(QBT l),(Kx l),(0,.frz Q4 x.d.ps.n fun i=>QA.enc (x.d.ps.get i)),(1,.frz Q4 x.scans.n fun i=>QA.enc
  (x.scans.get i)),(Kw x),(K4 x),(Kz C x),Ks,(Jl f),(QBH l),(Kv C)])) (.leaf (.bool true true) ([(K5 l),(K1 has l),(VC x),(JP many),(Jd f),
  (QBT l),(Kx l),(0,.frz Q4 x.d.ps.n fun i=>QA.enc (x.d.ps.get i)),(1,.frz Q4 x.scans.n fun i=>QA.enc (x.scans.get i)),(Kw x),(K4 x),(Kz C x),Ks,
  (Jl f),(QBH l),(Kv C)])))) (.br (i64.wrap (many+1)==100) (.leaf (.bool true false) ([(K5 l),(K1 has l),(Xv x),(JP many),(Jd f),(Jj g),(Kx
  l),(0,.frz Q4 x.d.ps.n fun i=>QA.enc (x.d.ps.get i)),(1,.frz Q4 x.scans.n fun i=>QA.enc (x.scans.get i)),(Kw x),(K4 x),(Kz C x),Ks,(Jl f),(Jp g),
  (Kv C)])) (.leaf (.bool true true) ([(K5 l),(K1 has l),(VC x),(JP many),(Jd f),(Jj g),(Kx l),(0,.frz Q4 x.d.ps.n fun i=>QA.enc (x.d.ps.get i)),(1,
  .frz Q4 x.scans.n fun i=>QA.enc (x.scans.get i)),(Kw x),(K4 x),(Kz C x),Ks,(Jl f),(Jp g),(Kv C)]))))))) (.need (decide ((0:Int)≤(l.length:Int) ∧
  (l.length : Int) < (C.length : Int)) && decide (C.length ≤ C.length)) (.need (decide (l.length < C.length)) (.fail ("a loop")))) := by kernel_rfl
abbrev QAN(l:List QB):List Prop:=
  [true=true,0=0,l.length=l.length,cO=cO,l.length≤l.length,QD 2 l.length (fun i=>QA.enc (l.getD i ⟨0,0⟩)) fun i=>QA.enc (l.getD i ⟨0,0⟩),
  Kt (.int true .i64 0) (.int true .i64 0) has has (fun i => .int false .i64 (QL l i)) fun i => .int false .i64 (QL l i),LoopState.ready=LoopState.ready,(none:Option
  Code)=none,Array.mk [18]=Array.mk [(18:Tmp)],(QT Try.f25 0).1=(QT Try.f25 0).1,(QT Try.f25 0).2=(QT Try.f25 0).2]
abbrev Vq:List Prop:=
  [x.d.play.length=x.d.play.length,x.d.play.slack=x.d.play.slack,x.d.play.loose=x.d.play.loose,x.d.play.damp.lo=x.d.play.damp.lo,x.d.play.damp.hi=x.d.play.damp.hi,
  x.d.wide=x.d.wide,x.d.high=x.d.high,x.d.turn=x.d.turn,0=0,x.d.ps.n=x.d.ps.n,cO=cO,0=0,x.scans.n=x.scans.n,cO=cO,0=0,x.hang.n =
  x.hang.n,cO=cO,x.lost=x.lost,x.foreign=x.foreign,0=0]
abbrev Vo:List Prop:=
  [0=0,0=0,0=0,0=0]
abbrev Wm:List Prop:=
  [0=0,0=0,0=0,(0:Int)=0]
abbrev Wk:List Prop:=
  [0=0,(0:Int)=0,0=0,0=0,(0:Int)=0,(0:Int)=0,false=false,0=0,0=0,Fn.func (76:FuncId)=Fn.func (76:FuncId),0=0,0=0]
theorem QPo :QK 272 [(.bool true true)] ([(K5 l),(K1 has l),(VC x),(Hh many),(Jd f),(Jj g),(Kx l),(0,.frz Q4 x.d.ps.n fun i=>QA.enc (x.d.ps.get i)),(1,.frz
  Q4 x.scans.n fun i=>QA.enc (x.scans.get i)),(Kw x),(K4 x),(Kz C x),Ks,(Jl f),(Jp g),(Kv C)]) (JC (trU x C (QT Try.f25 0).1 (QT Try.f25 0).2 l
  has many f g has many f g))=(some ((QAN has l)++(Vq x)++Vo++Wm++Vo++[(0:Int)=0]++(Vq x)++Wk++[many=many,0=0,f.length=f.length,
  cO=cO,f.length≤f.length,QD 2 f.length (fun i=>QA.enc (f.getD i ⟨0,0⟩)) fun i=>QA.enc (f.getD i ⟨0,0⟩),0=0,g.length=g.length,cO=Cap.of
  0,g.length≤g.length,QD 2 g.length (fun i=>QA.enc (g.getD i ⟨0,0⟩)) fun i=>QA.enc (g.getD i ⟨0,0⟩)])):=by kernel_rfl
abbrev QCi:List Prop:=
  [g.length=g'.length,cO=cO,g'.length≤g.length,QD 2 g'.length (fun i=>QA.enc (g.getD i ⟨0,0⟩)) fun i=>QA.enc (g'.getD i ⟨0,0⟩)]
theorem QWe(f' g':List QB):QK 272 [(.bool true true)] ([(K5 l),(K1 has l),(VC x),(JP many),(QBW l),(Jj g),(Kx l),(0,.frz Q4 x.d.ps.n fun i=>QA.enc (x.d.ps.get i)),(1,.frz
  Q4 x.scans.n fun i=>QA.enc (x.scans.get i)),(Kw x),(K4 x),(Kz C x),Ks,(QB0 l),(Jp g),(Kv C)]) (JC (trU x C (QT Try.f25 0).1 (QT Try.f25 0).2 l
  has many f g has many' f' g'))=(some ((QAN has l)++(Vq x)++Vo++Wm++Vo++[(0:Int)=0]++(Vq x)++Wk++[i64.wrap (many+1)=many',0 =
  0,l.length=f'.length,cO=cO,f'.length≤l.length,QD 2 f'.length (fun i=>QA.enc (l.getD i ⟨0,0⟩)) fun i=>QA.enc (f'.getD i ⟨0,0⟩),0=0]++(QCi g
  g'))):=by kernel_rfl
abbrev QER:List Prop:=
  [0=0,f.length=f'.length,cO=cO,f'.length≤f.length,QD 2 f'.length (fun i=>QA.enc (f.getD i ⟨0,0⟩)) fun i=>QA.enc (f'.getD i ⟨0,0⟩),0=0]
theorem QQw(f' g':List QB):QK 272 [(.bool true true)] ([(K5 l),(K1 has l),(VC x),(JP many),(Jd f),(QBT l),(Kx l),(0,.frz Q4 x.d.ps.n fun i=>QA.enc (x.d.ps.get i)),(1,.frz
  Q4 x.scans.n fun i=>QA.enc (x.scans.get i)),(Kw x),(K4 x),(Kz C x),Ks,(Jl f),(QBH l),(Kv C)]) (JC (trU x C (QT Try.f25 0).1 (QT Try.f25 0).2 l
  has many f g has many' f' g'))=(some ((QAN has l)++(Vq x)++Vo++Wm++Vo++[(0:Int)=0]++(Vq x)++Wk++[i64.wrap (many+1)=many'] ++
  (QER f f')++[l.length=g'.length,cO=cO,g'.length≤l.length,QD 2 g'.length (fun i=>QA.enc (l.getD i ⟨0,0⟩)) fun i=>QA.enc (g'.getD i ⟨0,0⟩)])):=by kernel_rfl
abbrev QDg:List Prop:=
  [0=0,l.length=l.length,cO=cO,l.length≤l.length,QD 2 l.length (fun i=>QA.enc (l.getD i ⟨0,0⟩)) fun i=>QA.enc (l.getD i ⟨0,0⟩)]
abbrev QMF:List Prop:=
  [LoopState.done=LoopState.done,some (Code.exit 0)=some (Code.exit 0),Array.mk [18]=Array.mk [(18:Tmp)],(QT Try.f25 0).1=(QT Try.f25 0).1,(QT Try.f25 0).2 =
  (QT Try.f25 0).2]
theorem QNX(f' g':List QB):QK 272 [(.bool true false)] ([(K5 l),(K1 has l),(Xv x),(JP many),(Jd f),(Jj g),(Kx l),(0,.frz Q4 x.d.ps.n fun i=>QA.enc (x.d.ps.get i)),(1,.frz
  Q4 x.scans.n fun i=>QA.enc (x.scans.get i)),(Kw x),(K4 x),(Kz C x),Ks,(Jl f),(Jp g),(Kv C)]) (JC (trV x C (QT Try.f25 0).1 (QT Try.f25 0).2 l
  has many f g has many' f' g'))=(some ([false=false]++(QDg l)++[Kt (.int true .i64 0) (.int true .i64 0) has has (fun i => .int false .i64 (QL l i)) fun i => .int
  false .i64 (QL l i)]++QMF++(Vq x)++Vo++Wm++Vo++[(0:Int)=0]++(Vq x)++Wk++[i64.wrap (many+1)=many']++(QER f f')++(QCi g
  g'))):=by kernel_rfl
theorem QU4(f' g':List QB):QK 272 [(.bool true true)] ([(K5 l),(K1 has l),(VC x),(JP many),(Jd f),(Jj g),(Kx l),(0,.frz Q4 x.d.ps.n fun i=>QA.enc (x.d.ps.get i)),(1,.frz
  Q4 x.scans.n fun i=>QA.enc (x.scans.get i)),(Kw x),(K4 x),(Kz C x),Ks,(Jl f),(Jp g),(Kv C)]) (JC (trU x C (QT Try.f25 0).1 (QT Try.f25 0).2 l
  has many f g has many' f' g'))=(some ((QAN has l)++(Vq x)++Vo++Wm++Vo++[(0:Int)=0]++(Vq x)++Wk++[i64.wrap (many+1)=many'] ++
  (QER f f')++(QCi g g'))):=by kernel_rfl
noncomputable abbrev Gc:Nat×Blk:=
  (16,.cells 0 38 [.slz 624 0 (0+l.length) cO])
noncomputable abbrev H2(x:QE):Nat×Blk:=
  (624,.rowz true 56 [.int .i64,.int .i64] (0+l.length) (QX 0 (fun x x_1=>(0:Int)) fun i=>QA.enc (l.getD i ⟨0,0⟩)))
noncomputable abbrev QAB:Nat×Blk:=
  (24,.cells 0 38 [.slz 640 0 (0+l.length) cO])
noncomputable abbrev QAP(x:QE):Nat×Blk:=
  (640,.rowz true 56 [.int .i64,.int .i64] (0+l.length) (QX 0 (fun x x_1=>(0:Int)) fun i=>QA.enc (l.getD i ⟨0,0⟩)))
noncomputable abbrev QIh(has':Int→Bool)(l:List QB)(many':Int)(x:QE):List (Nat×Blk):=
  [(200,.cells 0 38 [.slz 280 0 l.length cO]),(176,.mpf i64 (.int true .i64 0) has' fun i => .int false .i64 (QL l i)),(VC x),(32,.cells 0 3 [.int false
  .i64 many']),(16,.cells 0 38 [.slz 288 0 f'.length cO]),(24,.cells 0 38 [.slz 296 0 g'.length cO]),(280,.rowz true 56 [.int .i64,.int .i64] l.length fun i=>
  QA.enc (l.getD i ⟨0,0⟩)),(288,.rowz true 56 [.int .i64,.int .i64] f'.length fun i=>QA.enc (f'.getD i ⟨0,0⟩)),(296,.rowz true 56 [.int .i64,.int .i64] g'.length fun i
  => QA.enc (g'.getD i ⟨0,0⟩))]
theorem QRO(cs l:List QB)(has:Int→Bool)(many:Int)(f g:List QB)(has':Int→Bool)(many':Int)(f' g':List QB):(XP (mkE Try.prog Q8) (trX Try.prog (trJ x C (QT Try.f25 0).1 (QT Try.f25 0).2 cs l has many f g 0) [(True,.exit 0,trE x (QT Try.f25 0).1 (QT Try.f25 0).2 l
  has' many' f' g')]) Try.f77 Gf (Z4 x C (QT Try.f25 0).1 (QT Try.f25 0).2 l has many f g).hp 272 fun v h _=>We WW v h) = .br ((l.length:Int)==(x.scans.n :
  Int)) (.need (isI i64 (.int false .i64 (QL l (-2:Int)))) (.br (decide (i64.wrap ((x.d.ps.n:Int)-i64.wrap ((l.length:Int)-toI (.int false .i64
  (QL l (-2:Int)))))>x.lost)) (.leaf (.bool true true) ([(K5 l),(K1 has l),(VC x),(Hh many),(Jd f),(Jj g),(Kx l),(0,.frz Q4 x.d.ps.n fun i=>
  QA.enc (x.d.ps.get i)),(1,.frz Q4 x.scans.n fun i=>QA.enc (x.scans.get i)),(Kw x),(K4 x),(Kz C x),Ks,(Jl f),(Jp g),(Kv C)])) (.br (i64.wrap
  (many+1)==1) (.need (decide (0<l.length∧l.length≤l.length)) (.need (true&&(decide (l.length≤l.length)&&decide ((0+l.length+(0+l.length) / 4+192)*16 ≤
  281474976710656∧0+l.length≤9223372036854775807))) (.br (i64.wrap (many+1)==100) (.leaf (.bool true false) ([(K5 l),(K1 has l),(Xv x),(JP many),(Gc
  l),(Jj g),(Kx l),(0,.frz Q4 x.d.ps.n fun i=>QA.enc (x.d.ps.get i)),(1,.frz Q4 x.scans.n fun i=>QA.enc (x.scans.get i)),(Kw x),(K4 x),(Kz C x),Ks,
  (H2 l x),(Jp g),(Kv C)])) (.leaf (.bool true true) ([(K5 l),(K1 has l),(VC x),(JP many),(Gc l),(Jj g),(Kx l),(0,.frz Q4 x.d.ps.n fun i=>
  QA.enc (x.d.ps.get i)),(1,.frz Q4 x.scans.n fun i=>QA.enc (x.scans.get i)),(Kw x),(K4 x),(Kz C x),Ks,(H2 l x),(Jp g),(Kv C)]))))) (.br
  (i64.wrap (many+1)==2) (.need (decide (0<l.length∧l.length≤l.length)) (.need (true&&(decide (l.length≤l.length)&&decide ((0+l.length+(0+l.length) / 4 +
  192)*16≤281474976710656∧0+l.length≤9223372036854775807))) (.br (i64.wrap (many+1)==100) (.leaf (.bool true false) ([(K5 l),(K1 has l),(Xv x),(JP
  many),(Jd f),(QAB l),(Kx l),(0,.frz Q4 x.d.ps.n fun i=>QA.enc (x.d.ps.get i)),(1,.frz Q4 x.scans.n fun i=>QA.enc (x.scans.get i)),(Kw x),(K4 x),
  (Kz C x),Ks,(Jl f),(QAP l x),(Kv C)])) (.leaf (.bool true true) ([(K5 l),(K1 has l),(VC x),(JP many),(Jd f),(QAB l),(Kx l),(0,.frz Q4
  x.d.ps.n fun i=>QA.enc (x.d.ps.get i)),(1,.frz Q4 x.scans.n fun i=>QA.enc (x.scans.get i)),(Kw x),(K4 x),(Kz C x),Ks,(Jl f),(QAP l x),(Kv C)])))))
  (.br (i64.wrap (many+1)==100) (.leaf (.bool true false) ([(K5 l),(K1 has l),(Xv x),(JP many),(Jd f),(Jj g),(Kx l),(0,.frz Q4 x.d.ps.n fun i=>
  QA.enc (x.d.ps.get i)),(1,.frz Q4 x.scans.n fun i=>QA.enc (x.scans.get i)),(Kw x),(K4 x),(Kz C x),Ks,(Jl f),(Jp g),(Kv C)])) (.leaf (.bool true
  true) ([(K5 l),(K1 has l),(VC x),(JP many),(Jd f),(Jj g),(Kx l),(0,.frz Q4 x.d.ps.n fun i=>QA.enc (x.d.ps.get i)),(1,.frz Q4 x.scans.n fun i=>
  QA.enc (x.scans.get i)),(Kw x),(K4 x),(Kz C x),Ks,(Jl f),(Jp g),(Kv C)]))))))) (.need (decide ((0:Int)≤(l.length:Int)∧(l.length:Int)<(C.length :
  Int))&&decide (C.length≤C.length)) (.need (decide (l.length<C.length)) (.ask (0=0) (.ask (0=0) (.ask (0=0) (.ask (0=0) (.ask (0=0) (.ask (0=0) (.ask (0=0) (.ask
  (0=0) (.ask (0=0) (.ask (0=0) (.ask (0=0) (.ask ((QM C l.length).length=cs.length) (.ask (Cap.of 0=Cap.of 0) (.ask ((↑(QM C l.length).length:Int)=(cs.length :
  Int)) (.ask ((0:Int)=0) (.ask (cs.length≤(QM C l.length).length) (.ask (QD 2 cs.length (fun j=>QA.enc ((QM C l.length).getD j ⟨0,0⟩)) fun i=>QA.enc (cs.getD i
  ⟨0,0⟩)) (.ask (0=0) (.ask (l.length=l.length) (.ask (Cap.of 0=Cap.of 0) (.ask (l.length≤l.length) (.ask (QD 2 l.length (fun i=>QA.enc (l.getD i ⟨0,0⟩)) fun i=>
  QA.enc (l.getD i ⟨0,0⟩)) (.ask (Kt (.int true .i64 0) (.int true .i64 0) has has (fun i => .int false .i64 (QL l i)) fun i => .int false .i64 (QL l i)) (.ask
  (LoopState.ready=LoopState.ready) (.ask ((none:Option Code)=none) (.ask (Array.mk [(18:Tmp)]=Array.mk [(18:Tmp)]) (.ask ((QT Try.f25 0).1=(QT Try.f25 0).1)
  (.ask ((QT Try.f25 0).2=(QT Try.f25 0).2) (.ask (x.d.play.length=x.d.play.length) (.ask (x.d.play.slack=x.d.play.slack) (.ask (x.d.play.loose=x.d.play.loose) (.ask
  (x.d.play.damp.lo=x.d.play.damp.lo) (.ask (x.d.play.damp.hi=x.d.play.damp.hi) (.ask (x.d.wide=x.d.wide) (.ask (x.d.high=x.d.high) (.ask (x.d.turn=x.d.turn) (.ask (0=0)
  (.ask (x.d.ps.n=x.d.ps.n) (.ask (Cap.of 0=Cap.of 0) (.ask (0=0) (.ask (x.scans.n=x.scans.n) (.ask (Cap.of 0=Cap.of 0) (.ask (0=0) (.ask (x.hang.n=x.hang.n) (.ask
  (Cap.of 0=Cap.of 0) (.ask (x.lost=x.lost) (.ask (x.foreign=x.foreign) (.ask (0=0) (.ask (0=0) (.ask (0=0) (.ask (0=0) (.ask (0=0) (.ask (0=0) (.ask (0=0) (.ask
  (0=0) (.ask ((0:Int)=0) (.ask (0=0) (.ask (0=0) (.ask (0=0) (.ask (0=0) (.ask ((0:Int)=0) (.ask (x.d.play.length=x.d.play.length) (.ask (x.d.play.slack =
  x.d.play.slack) (.ask (x.d.play.loose=x.d.play.loose) (.ask (x.d.play.damp.lo=x.d.play.damp.lo) (.ask (x.d.play.damp.hi=x.d.play.damp.hi) (.ask (x.d.wide=x.d.wide) (.ask
  (x.d.high=x.d.high) (.ask (x.d.turn=x.d.turn) (.ask (0=0) (.ask (x.d.ps.n=x.d.ps.n) (.ask (Cap.of 0=Cap.of 0) (.ask (0=0) (.ask (x.scans.n=x.scans.n) (.ask (Cap.of 0 =
  Cap.of 0) (.ask (0=0) (.ask (x.hang.n=x.hang.n) (.ask (Cap.of 0=Cap.of 0) (.ask (x.lost=x.lost) (.ask (x.foreign=x.foreign) (.ask (0=0) (.ask (0=0) (.ask ((0:Int) =
  0) (.ask (0=0) (.ask (0=0) (.ask ((0:Int)=0) (.ask ((0:Int)=0) (.ask (false=false) (.ask (0=0) (.ask (0=0) (.ask (Fn.func (76:FuncId)=Fn.func (76:FuncId))
  (.ask (0=0) (.ask (0=0) (.ask (many=many) (.ask (0=0) (.ask (f.length=f.length) (.ask (Cap.of 0=Cap.of 0) (.ask (f.length≤f.length) (.ask (QD 2 f.length (fun i=>
  QA.enc (f.getD i ⟨0,0⟩)) fun i=>QA.enc (f.getD i ⟨0,0⟩)) (.ask (0=0) (.ask (g.length=g.length) (.ask (Cap.of 0=Cap.of 0) (.ask (g.length≤g.length) (.ask (QD 2
  g.length (fun i=>QA.enc (g.getD i ⟨0,0⟩)) fun i=>QA.enc (g.getD i ⟨0,0⟩)) (.ask (Fn.func (77:FuncId)=Fn.func (77:FuncId)) (.ask (0=0) (.ask (0=0) (.ask (0=0)
  (.ask (0=0) (.ask (0=0) (.ask (0=0) (.ask (0=0) (.ask (0=0) (.ask (0=0) (.ask (0=0) (.ask (0=0) (.ask (0=0) (.ask (x.d.play.length=x.d.play.length) (.ask
  (x.d.play.slack=x.d.play.slack) (.ask (x.d.play.loose=x.d.play.loose) (.ask (x.d.play.damp.lo=x.d.play.damp.lo) (.ask (x.d.play.damp.hi=x.d.play.damp.hi) (.ask (x.d.wide =
  x.d.wide) (.ask (x.d.high=x.d.high) (.ask (x.d.turn=x.d.turn) (.ask (0=0) (.ask (x.d.ps.n=x.d.ps.n) (.ask (Cap.of 0=Cap.of 0) (.ask (0=0) (.ask (x.scans.n=x.scans.n)
  (.ask (Cap.of 0=Cap.of 0) (.ask (0=0) (.ask (x.hang.n=x.hang.n) (.ask (Cap.of 0=Cap.of 0) (.ask (x.lost=x.lost) (.ask (x.foreign=x.foreign) (.ask (x.d.play.length =
  x.d.play.length) (.ask (x.d.play.slack=x.d.play.slack) (.ask (x.d.play.loose=x.d.play.loose) (.ask (x.d.play.damp.lo=x.d.play.damp.lo) (.ask (x.d.play.damp.hi =
  x.d.play.damp.hi) (.ask (x.d.wide=x.d.wide) (.ask (x.d.high=x.d.high) (.ask (x.d.turn=x.d.turn) (.ask (0=0) (.ask (x.d.ps.n=x.d.ps.n) (.ask (Cap.of 0=Cap.of 0) (.ask (0
  = 0) (.ask (x.scans.n=x.scans.n) (.ask (Cap.of 0=Cap.of 0) (.ask (0=0) (.ask (x.hang.n=x.hang.n) (.ask (Cap.of 0=Cap.of 0) (.ask (x.lost=x.lost) (.ask (x.foreign =
  x.foreign) (.ask (0=0) (.ask (C.length=C.length) (.ask (Cap.of 0=Cap.of 0) (.ask (C.length=C.length) (.ask (K0 2 C.length (fun i=>(QM C i).length) (fun i=>(QM C
  i).length) (fun i j=>QA.enc ((QM C i).getD j ⟨0,0⟩)) fun i j=>QA.enc ((QM C i).getD j ⟨0,0⟩)) (.ask (x.d.ps.n≤x.d.ps.n) (.ask (QD 28 x.d.ps.n (fun i=>QA.enc
  (x.d.ps.get i)) fun i=>QA.enc (x.d.ps.get i)) (.ask (x.scans.n≤x.scans.n) (.ask (QD 28 x.scans.n (fun i=>QA.enc (x.scans.get i)) fun i=>QA.enc (x.scans.get i))
  (.ask (x.hang.n≤x.hang.n) (.ask (QD 4 x.hang.n (fun i=>QA.enc (x.hang.get i)) fun i=>QA.enc (x.hang.get i)) (.asm (True) (.all (fun(g0:Nat→Value) => .leaf (.bool
  true true) ((QIh f' g' has' l many'
  x))))))))))))))))))))))))))))))))))))))))))))))))))))))))))))))))))))))))))))))))))))))))))))))))))))))))))))))))))))))))))))))))))))))))))))))))))))))))))))))))))))))))))))):=by kernel_rfl
noncomputable abbrev QL5(has':Int→Bool)(l:List QB)(many':Int)(x:QE):List (Nat×Blk):=
  [(200,.cells 0 38 [.slz 280 0 l.length cO]),(176,.mpf i64 (.int true .i64 0) has' fun i => .int false .i64 (QL l i)),(Xv x),(32,.cells 0 3 [.int false
  .i64 many']),(16,.cells 0 38 [.slz 288 0 f'.length cO]),(24,.cells 0 38 [.slz 296 0 g'.length cO]),(280,.rowz true 56 [.int .i64,.int .i64] l.length fun i=>
  QA.enc (l.getD i ⟨0,0⟩)),(288,.rowz true 56 [.int .i64,.int .i64] f'.length fun i=>QA.enc (f'.getD i ⟨0,0⟩)),(296,.rowz true 56 [.int .i64,.int .i64] g'.length fun i
  => QA.enc (g'.getD i ⟨0,0⟩))]
theorem QVy(cs l:List QB)(has:Int→Bool)(many:Int)(f g:List QB)(has':Int→Bool)(many':Int)(f' g':List QB):(XP (mkE Try.prog Q8) (trX Try.prog (trJ x C (QT Try.f25 0).1 (QT Try.f25 0).2 cs l has many f g 0) [(True,.ret,trF x (QT Try.f25 0).1 (QT Try.f25 0).2 l
  has' many' f' g')]) Try.f77 Gf (Z4 x C (QT Try.f25 0).1 (QT Try.f25 0).2 l has many f g).hp 272 fun v h _=>We WW v h) = .br ((l.length:Int)==(x.scans.n :
  Int)) (.need (isI i64 (.int false .i64 (QL l (-2:Int)))) (.br (decide (i64.wrap ((x.d.ps.n:Int)-i64.wrap ((l.length:Int)-toI (.int false .i64
  (QL l (-2:Int)))))>x.lost)) (.leaf (.bool true true) ([(K5 l),(K1 has l),(VC x),(Hh many),(Jd f),(Jj g),(Kx l),(0,.frz Q4 x.d.ps.n fun i=>
  QA.enc (x.d.ps.get i)),(1,.frz Q4 x.scans.n fun i=>QA.enc (x.scans.get i)),(Kw x),(K4 x),(Kz C x),Ks,(Jl f),(Jp g),(Kv C)])) (.br (i64.wrap
  (many+1)==1) (.need (decide (0<l.length∧l.length≤l.length)) (.need (true&&(decide (l.length≤l.length)&&decide ((0+l.length+(0+l.length) / 4+192)*16 ≤
  281474976710656∧0+l.length≤9223372036854775807))) (.br (i64.wrap (many+1)==100) (.leaf (.bool true false) ([(K5 l),(K1 has l),(Xv x),(JP many),(Gc
  l),(Jj g),(Kx l),(0,.frz Q4 x.d.ps.n fun i=>QA.enc (x.d.ps.get i)),(1,.frz Q4 x.scans.n fun i=>QA.enc (x.scans.get i)),(Kw x),(K4 x),(Kz C x),Ks,
  (H2 l x),(Jp g),(Kv C)])) (.leaf (.bool true true) ([(K5 l),(K1 has l),(VC x),(JP many),(Gc l),(Jj g),(Kx l),(0,.frz Q4 x.d.ps.n fun i=>
  QA.enc (x.d.ps.get i)),(1,.frz Q4 x.scans.n fun i=>QA.enc (x.scans.get i)),(Kw x),(K4 x),(Kz C x),Ks,(H2 l x),(Jp g),(Kv C)]))))) (.br
  (i64.wrap (many+1)==2) (.need (decide (0<l.length∧l.length≤l.length)) (.need (true&&(decide (l.length≤l.length)&&decide ((0+l.length+(0+l.length) / 4 +
  192)*16≤281474976710656∧0+l.length≤9223372036854775807))) (.br (i64.wrap (many+1)==100) (.leaf (.bool true false) ([(K5 l),(K1 has l),(Xv x),(JP
  many),(Jd f),(QAB l),(Kx l),(0,.frz Q4 x.d.ps.n fun i=>QA.enc (x.d.ps.get i)),(1,.frz Q4 x.scans.n fun i=>QA.enc (x.scans.get i)),(Kw x),(K4 x),
  (Kz C x),Ks,(Jl f),(QAP l x),(Kv C)])) (.leaf (.bool true true) ([(K5 l),(K1 has l),(VC x),(JP many),(Jd f),(QAB l),(Kx l),(0,.frz Q4
  x.d.ps.n fun i=>QA.enc (x.d.ps.get i)),(1,.frz Q4 x.scans.n fun i=>QA.enc (x.scans.get i)),(Kw x),(K4 x),(Kz C x),Ks,(Jl f),(QAP l x),(Kv C)])))))
  (.br (i64.wrap (many+1)==100) (.leaf (.bool true false) ([(K5 l),(K1 has l),(Xv x),(JP many),(Jd f),(Jj g),(Kx l),(0,.frz Q4 x.d.ps.n fun i=>
  QA.enc (x.d.ps.get i)),(1,.frz Q4 x.scans.n fun i=>QA.enc (x.scans.get i)),(Kw x),(K4 x),(Kz C x),Ks,(Jl f),(Jp g),(Kv C)])) (.leaf (.bool true
  true) ([(K5 l),(K1 has l),(VC x),(JP many),(Jd f),(Jj g),(Kx l),(0,.frz Q4 x.d.ps.n fun i=>QA.enc (x.d.ps.get i)),(1,.frz Q4 x.scans.n fun i=>
  QA.enc (x.scans.get i)),(Kw x),(K4 x),(Kz C x),Ks,(Jl f),(Jp g),(Kv C)]))))))) (.need (decide ((0:Int)≤(l.length:Int)∧(l.length:Int)<(C.length :
  Int))&&decide (C.length≤C.length)) (.need (decide (l.length<C.length)) (.ask (0=0) (.ask (0=0) (.ask (0=0) (.ask (0=0) (.ask (0=0) (.ask (0=0) (.ask (0=0) (.ask
  (0=0) (.ask (0=0) (.ask (0=0) (.ask (0=0) (.ask ((QM C l.length).length=cs.length) (.ask (Cap.of 0=Cap.of 0) (.ask ((↑(QM C l.length).length:Int)=(cs.length :
  Int)) (.ask ((0:Int)=0) (.ask (cs.length≤(QM C l.length).length) (.ask (QD 2 cs.length (fun j=>QA.enc ((QM C l.length).getD j ⟨0,0⟩)) fun i=>QA.enc (cs.getD i
  ⟨0,0⟩)) (.ask (0=0) (.ask (l.length=l.length) (.ask (Cap.of 0=Cap.of 0) (.ask (l.length≤l.length) (.ask (QD 2 l.length (fun i=>QA.enc (l.getD i ⟨0,0⟩)) fun i=>
  QA.enc (l.getD i ⟨0,0⟩)) (.ask (Kt (.int true .i64 0) (.int true .i64 0) has has (fun i => .int false .i64 (QL l i)) fun i => .int false .i64 (QL l i)) (.ask
  (LoopState.ready=LoopState.ready) (.ask ((none:Option Code)=none) (.ask (Array.mk [(18:Tmp)]=Array.mk [(18:Tmp)]) (.ask ((QT Try.f25 0).1=(QT Try.f25 0).1)
  (.ask ((QT Try.f25 0).2=(QT Try.f25 0).2) (.ask (x.d.play.length=x.d.play.length) (.ask (x.d.play.slack=x.d.play.slack) (.ask (x.d.play.loose=x.d.play.loose) (.ask
  (x.d.play.damp.lo=x.d.play.damp.lo) (.ask (x.d.play.damp.hi=x.d.play.damp.hi) (.ask (x.d.wide=x.d.wide) (.ask (x.d.high=x.d.high) (.ask (x.d.turn=x.d.turn) (.ask (0=0)
  (.ask (x.d.ps.n=x.d.ps.n) (.ask (Cap.of 0=Cap.of 0) (.ask (0=0) (.ask (x.scans.n=x.scans.n) (.ask (Cap.of 0=Cap.of 0) (.ask (0=0) (.ask (x.hang.n=x.hang.n) (.ask
  (Cap.of 0=Cap.of 0) (.ask (x.lost=x.lost) (.ask (x.foreign=x.foreign) (.ask (0=0) (.ask (0=0) (.ask (0=0) (.ask (0=0) (.ask (0=0) (.ask (0=0) (.ask (0=0) (.ask
  (0=0) (.ask ((0:Int)=0) (.ask (0=0) (.ask (0=0) (.ask (0=0) (.ask (0=0) (.ask ((0:Int)=0) (.ask (x.d.play.length=x.d.play.length) (.ask (x.d.play.slack =
  x.d.play.slack) (.ask (x.d.play.loose=x.d.play.loose) (.ask (x.d.play.damp.lo=x.d.play.damp.lo) (.ask (x.d.play.damp.hi=x.d.play.damp.hi) (.ask (x.d.wide=x.d.wide) (.ask
  (x.d.high=x.d.high) (.ask (x.d.turn=x.d.turn) (.ask (0=0) (.ask (x.d.ps.n=x.d.ps.n) (.ask (Cap.of 0=Cap.of 0) (.ask (0=0) (.ask (x.scans.n=x.scans.n) (.ask (Cap.of 0 =
  Cap.of 0) (.ask (0=0) (.ask (x.hang.n=x.hang.n) (.ask (Cap.of 0=Cap.of 0) (.ask (x.lost=x.lost) (.ask (x.foreign=x.foreign) (.ask (0=0) (.ask (0=0) (.ask ((0:Int) =
  0) (.ask (0=0) (.ask (0=0) (.ask ((0:Int)=0) (.ask ((0:Int)=0) (.ask (false=false) (.ask (0=0) (.ask (0=0) (.ask (Fn.func (76:FuncId)=Fn.func (76:FuncId))
  (.ask (0=0) (.ask (0=0) (.ask (many=many) (.ask (0=0) (.ask (f.length=f.length) (.ask (Cap.of 0=Cap.of 0) (.ask (f.length≤f.length) (.ask (QD 2 f.length (fun i=>
  QA.enc (f.getD i ⟨0,0⟩)) fun i=>QA.enc (f.getD i ⟨0,0⟩)) (.ask (0=0) (.ask (g.length=g.length) (.ask (Cap.of 0=Cap.of 0) (.ask (g.length≤g.length) (.ask (QD 2
  g.length (fun i=>QA.enc (g.getD i ⟨0,0⟩)) fun i=>QA.enc (g.getD i ⟨0,0⟩)) (.ask (Fn.func (77:FuncId)=Fn.func (77:FuncId)) (.ask (0=0) (.ask (0=0) (.ask (0=0)
  (.ask (0=0) (.ask (0=0) (.ask (0=0) (.ask (0=0) (.ask (0=0) (.ask (0=0) (.ask (0=0) (.ask (0=0) (.ask (0=0) (.ask (x.d.play.length=x.d.play.length) (.ask
  (x.d.play.slack=x.d.play.slack) (.ask (x.d.play.loose=x.d.play.loose) (.ask (x.d.play.damp.lo=x.d.play.damp.lo) (.ask (x.d.play.damp.hi=x.d.play.damp.hi) (.ask (x.d.wide =
  x.d.wide) (.ask (x.d.high=x.d.high) (.ask (x.d.turn=x.d.turn) (.ask (0=0) (.ask (x.d.ps.n=x.d.ps.n) (.ask (Cap.of 0=Cap.of 0) (.ask (0=0) (.ask (x.scans.n=x.scans.n)
  (.ask (Cap.of 0=Cap.of 0) (.ask (0=0) (.ask (x.hang.n=x.hang.n) (.ask (Cap.of 0=Cap.of 0) (.ask (x.lost=x.lost) (.ask (x.foreign=x.foreign) (.ask (x.d.play.length =
  x.d.play.length) (.ask (x.d.play.slack=x.d.play.slack) (.ask (x.d.play.loose=x.d.play.loose) (.ask (x.d.play.damp.lo=x.d.play.damp.lo) (.ask (x.d.play.damp.hi =
  x.d.play.damp.hi) (.ask (x.d.wide=x.d.wide) (.ask (x.d.high=x.d.high) (.ask (x.d.turn=x.d.turn) (.ask (0=0) (.ask (x.d.ps.n=x.d.ps.n) (.ask (Cap.of 0=Cap.of 0) (.ask (0
  = 0) (.ask (x.scans.n=x.scans.n) (.ask (Cap.of 0=Cap.of 0) (.ask (0=0) (.ask (x.hang.n=x.hang.n) (.ask (Cap.of 0=Cap.of 0) (.ask (x.lost=x.lost) (.ask (x.foreign =
  x.foreign) (.ask (0=0) (.ask (C.length=C.length) (.ask (Cap.of 0=Cap.of 0) (.ask (C.length=C.length) (.ask (K0 2 C.length (fun i=>(QM C i).length) (fun i=>(QM C
  i).length) (fun i j=>QA.enc ((QM C i).getD j ⟨0,0⟩)) fun i j=>QA.enc ((QM C i).getD j ⟨0,0⟩)) (.ask (x.d.ps.n≤x.d.ps.n) (.ask (QD 28 x.d.ps.n (fun i=>QA.enc
  (x.d.ps.get i)) fun i=>QA.enc (x.d.ps.get i)) (.ask (x.scans.n≤x.scans.n) (.ask (QD 28 x.scans.n (fun i=>QA.enc (x.scans.get i)) fun i=>QA.enc (x.scans.get i))
  (.ask (x.hang.n≤x.hang.n) (.ask (QD 4 x.hang.n (fun i=>QA.enc (x.hang.get i)) fun i=>QA.enc (x.hang.get i)) (.asm (True) (.all (fun(g0:Nat→Value) => .leaf (.bool
  false false) ((QL5 f' g' has' l many'
  x))))))))))))))))))))))))))))))))))))))))))))))))))))))))))))))))))))))))))))))))))))))))))))))))))))))))))))))))))))))))))))))))))))))))))))))))))))))))))))))))))))))))))))):=by kernel_rfl
abbrev QIu:List Prop:=
  [0=0,f'.length=f'.length,cO=cO,f'.length≤f'.length,QD 2 f'.length (fun i=>QA.enc (f'.getD i ⟨0,0⟩)) fun i=>QA.enc (f'.getD i ⟨0,0⟩),0=0,
  g'.length=g'.length,cO=cO,g'.length≤g'.length,QD 2 g'.length (fun i=>QA.enc (g'.getD i ⟨0,0⟩)) fun i=>QA.enc (g'.getD i ⟨0,0⟩)]
theorem QRT(f' g':List QB):QK 272 [(.bool false false)] ((QL5 f' g' has' l many' x)) (JC (trV x C (QT Try.f25 0).1 (QT Try.f25 0).2 l has many f g has' many' f' g'))=(some ([false=false] ++
  (QDg l)++[Kt (.int true .i64 0) (.int true .i64 0) has' has' (fun i => .int false .i64 (QL l i)) fun i => .int false .i64 (QL l i)]++QMF++(Vq x)++Vo ++
  Wm++Vo++[(0:Int)=0]++(Vq x)++Wk++[many'=many']++(QIu f' g'))):=by kernel_rfl
theorem QWf(f' g':List QB):QK 272 [(.bool true true)] ((QIh f' g' has' l many' x)) (JC (trU x C (QT Try.f25 0).1 (QT Try.f25 0).2 l has many f g has' many' f' g'))=(some ([true=true] ++
  (QDg l)++[Kt (.int true .i64 0) (.int true .i64 0) has' has' (fun i => .int false .i64 (QL l i)) fun i => .int false .i64 (QL l i),LoopState.ready=LoopState.ready,
  (none:Option Code)=none,Array.mk [18]=Array.mk [(18:Tmp)],(QT Try.f25 0).1=(QT Try.f25 0).1,(QT Try.f25 0).2=(QT Try.f25 0).2]++(Vq x)++Vo
  ++ Wm++Vo++[(0:Int)=0]++(Vq x)++Wk++[many'=many']++(QIu f' g'))):=by kernel_rfl
noncomputable abbrev Jw:Code:=(QT Try.f25 0).1
noncomputable abbrev Jx:Code:=(QT Try.f25 0).2
theorem QJd(ac body:Code)(l:List QB)(has:Int→Bool)(many:Int)(f g:List QB)(has':Int→Bool)(many':Int)(f' g':List QB):(trU x C ac body l has many f g has' many' f' g').Ok:=by
 refine⟨(by decide:240≤272),rfl,rfl,?_,rfl,fun _ _=>rfl,fun nid h => ?_⟩
 ·intro q hq;simp only[UC.po,trU,trW,rwL,List.mem_cons,List.not_mem_nil,or_false]at hq;rcases hq with rfl|rfl|rfl|rfl|rfl|rfl|rfl|rfl|rfl<;>refine⟨rfl,rfl,rfl,?_⟩<;>first|exact fun _=>rfl|exact fun h=>absurd (show 272<240 from h) (by decide)|exact fun h=>absurd (show 273<240 from h) (by decide)|exact fun h=>absurd (show 274<240 from h) (by decide)
 ·have e0:=Yd 240 272 0 nid (by decide)
  have e1:=Yd 240 272 1 nid (by decide)
  have e2:=Yd 240 272 2 nid (by decide)
  have l0:=jD (N:=240) (M:=272) (i:=0) (by decide) nid
  have l1:=jD (N:=240) (M:=272) (i:=1) (by decide) nid
  have l2:=jD (N:=240) (M:=272) (i:=2) (by decide) nid
  simp only[UC.po,trU,trW,rwL,Z4,trT,JR,Qz.val,List.map_cons,List.map_nil,Blk.mapId,AV.mapId,AV.mapIdL,Nat.add_zero,Nat.zero_add]at e0 e1 e2 l0 l1 l2 ⊢;rw[e0,e1,e2,l0,l1,l2];rfl
theorem QMr(ac body:Code)(l:List QB)(has:Int→Bool)(many:Int)(f g:List QB)(has':Int→Bool)(many':Int)(f' g':List QB):(trV x C ac body l has many f g has' many' f' g').Ok:=by
 refine⟨(by decide:240≤272),rfl,rfl,?_,rfl,fun _ _=>rfl,fun nid h => ?_⟩
 ·intro q hq;simp only[UC.po,trV,trW,rwL,List.mem_cons,List.not_mem_nil,or_false]at hq;rcases hq with rfl|rfl|rfl|rfl|rfl|rfl|rfl|rfl|rfl<;>refine⟨rfl,rfl,rfl,?_⟩<;>first|exact fun _=>rfl|exact fun h=>absurd (show 272<240 from h) (by decide)|exact fun h=>absurd (show 273<240 from h) (by decide)|exact fun h=>absurd (show 274<240 from h) (by decide)
 ·have e0:=Yd 240 272 0 nid (by decide)
  have e1:=Yd 240 272 1 nid (by decide)
  have e2:=Yd 240 272 2 nid (by decide)
  have l0:=jD (N:=240) (M:=272) (i:=0) (by decide) nid
  have l1:=jD (N:=240) (M:=272) (i:=1) (by decide) nid
  have l2:=jD (N:=240) (M:=272) (i:=2) (by decide) nid
  simp only[UC.po,trV,trW,rwL,Z4,trT,JR,Qz.val,List.map_cons,List.map_nil,Blk.mapId,AV.mapId,AV.mapIdL,Nat.add_zero,Nat.zero_add]at e0 e1 e2 l0 l1 l2 ⊢;rw[e0,e1,e2,l0,l1,l2];rfl
theorem QM6{x:QE}(hx:Je x)(C:List (List QB))(hpos:0<x.scans.n){l:List QB}(hn:l.length=x.scans.n)(s:TrS)(h:Int→Bool):QQ Try.prog 77 (uFC (YZ x C Jw Jx l h s (Vv x trY l s h))):=by
 obtain⟨many,f,g⟩:=s;have hs:=hx.s;have hd:=hx.d.n9;have hT:QV (Yy Qn (clU l)):=KR.add (QPZ l (by omega) (by omega))
 have fin:∀(s':TrS),YI (vF (trU x C Jw Jx l h many f g h s'.1 s'.2.1 s'.2.2)) (Vu (mkE Try.prog (Yy Qn (clU l))) (msN Try.prog (Yy Qn (clU l))) Try.f77 (trU x C Jw Jx l h many f g h s'.1 s'.2.1 s'.2.2))→QQ Try.prog 77 (uFC (trU x C Jw Jx l h many f g h s'.1 s'.2.1 s'.2.2)):=fun s' hd=>
  VX (E:=mkE Try.prog (Yy Qn (clU l))) (QS hT) Try.func77 (by kernel_rfl) (by kernel_rfl) (QJd ..) (fun G h1 _=>QEa _ hT G h1) ⟨hd⟩
 have finV:∀(s':TrS),YI (vF (trV x C Jw Jx l h many f g h s'.1 s'.2.1 s'.2.2)) (Vu (mkE Try.prog (Yy Qn (clU l))) (msN Try.prog (Yy Qn (clU l))) Try.f77 (trV x C Jw Jx l h many f g h s'.1 s'.2.1 s'.2.2))→QQ Try.prog 77 (uFC (trV x C Jw Jx l h many f g h s'.1 s'.2.1 s'.2.2)):=fun s' hd=>
  VX (E:=mkE Try.prog (Yy Qn (clU l))) (QS hT) Try.func77 (by kernel_rfl) (by kernel_rfl) (QMr ..) (fun G h1 _=>QEa _ hT G h1) ⟨hd⟩
 have he:=QMU (x:=x) (l:=l) (by omega) (by omega)
 cases hb:Yl x l with
 | true=>
  rw[hb]at he;simp only[Vv,hb,YZ];refine fin (many,f,g) (KB (QET Qn x C l h many f g) ?_);refine QI (fun _=>QF rfl (QI (fun _ => ?_) (fun q=>Bool.noConfusion (show true=false from he.symm.trans q)))) (fun q=>by rw[hn]at q;simp at q)
  refine⟨rfl,rfl,_,QPo x C l h many f g,?_⟩
  repeat' first|with_reducible refine QO ?_ ?_|exact trivial|with_reducible rfl|exact qlr _|exact qRr|exact Qh _ _ _ _|exact Jf _ _ _|refine And.intro ?_ ?_
 | false=>
  rw[hb]at he;cases hq:(i64.wrap (many+1)==100)with
  | true=>
   have hend:Vv x trY l (many,f,g) h = .stop (i64.wrap (many+1),f,g) h:=by
    have:=eq_of_beq hq;simp only[Vv,hb,trY,ZB,Zg,this];rfl
   rw[hend];simp only[YZ];refine finV (i64.wrap (many+1),f,g) (KB (QET Qn x C l h many f g) ?_);refine QI (fun _=>QF rfl (QI (fun q=>Bool.noConfusion (show true=false from q.symm.trans he)) (fun _ => ?_))) (fun q=>by rw[hn]at q;simp at q)
   refine QI (fun q=>by rw[eq_of_beq hq]at q;cases q) (fun _=>QI (fun q=>by rw[eq_of_beq hq]at q;cases q) (fun _=>QI (fun _ => ?_) (fun q=>by rw[hq]at q;cases q)))
   refine⟨rfl,rfl,_,QNX x C l h many f g (i64.wrap (many+1)) f g,?_⟩
   repeat' first|with_reducible refine QO ?_ ?_|exact trivial|with_reducible rfl|exact qlr _|exact qRr|exact Qh _ _ _ _|exact Jf _ _ _|refine And.intro ?_ ?_
  | false=>
   have hend:Vv x trY l (many,f,g) h = .go (i64.wrap (many+1),ZB (i64.wrap (many+1)) l f,Zg (i64.wrap (many+1)) l g) h:=by
    simp only[Vv,hb,trY,hq];rfl
   rw[hend];simp only[YZ];refine fin (i64.wrap (many+1),ZB (i64.wrap (many+1)) l f,Zg (i64.wrap (many+1)) l g) (KB (QET Qn x C l h many f g) ?_);refine QI (fun _=>QF rfl (QI (fun q=>Bool.noConfusion (show true=false from q.symm.trans he)) (fun _ => ?_))) (fun q=>by rw[hn]at q;simp at q)
   refine QI (fun q1=>QF (JB.2 ?_) (QI (fun q=>by rw[hq]at q;cases q) (fun _ => ?_))) (fun q1=>QI (fun q2=>QF (JB.2 ?_) (QI (fun q=>by rw[hq]at q;cases q) (fun _ => ?_))) (fun q2=>QI (fun q=>by rw[hq]at q;cases q) (fun _ => ?_)))
   ·repeat' first|with_reducible refine QO ?_ ?_|exact trivial|with_reducible rfl|exact qlr _|exact qRr|exact Qh _ _ _ _|refine And.intro ?_ ?_
   ·refine⟨rfl,rfl,_,QWe x C l h many f g _ _ _,?_⟩;simp only[ZB,Zg,q1]
    repeat' first|with_reducible refine QO ?_ ?_|exact trivial|with_reducible rfl|exact qlr _|exact qRr|exact Qh _ _ _ _|exact Jf _ _ _|exact rfl|refine And.intro ?_ ?_
   ·repeat' first|with_reducible refine QO ?_ ?_|exact trivial|with_reducible rfl|exact qlr _|exact qRr|exact Qh _ _ _ _|refine And.intro ?_ ?_
   ·refine⟨rfl,rfl,_,QQw x C l h many f g _ _ _,?_⟩;simp only[ZB,Zg,q1,q2]
    repeat' first|with_reducible refine QO ?_ ?_|exact trivial|with_reducible rfl|exact qlr _|exact qRr|exact Qh _ _ _ _|exact Jf _ _ _|exact rfl|refine And.intro ?_ ?_
   ·refine⟨rfl,rfl,_,QU4 x C l h many f g _ _ _,?_⟩;simp only[ZB,Zg,q1,q2]
    repeat' first|with_reducible refine QO ?_ ?_|exact trivial|with_reducible rfl|exact qlr _|exact qRr|exact Qh _ _ _ _|exact Jf _ _ _|exact rfl|refine And.intro ?_ ?_
theorem QNi{x:QE}(hx:Je x){C:List (List QB)}{ac body:Code}{cs l:List QB}(hl:l.length<1000)(hls:∀ c∈l,Jr c)(hcs:∀ c∈cs,Jr c)(IH:∀ c∈cs,∀ s h,QQ Try.prog 77 (uFC (YZ x C ac body (l++[c]) h s (VR x C d l s h c))))(t:TrK):(WA Try.prog x C ac body d cs l t).Sound:=by
 unfold WA kPb;split
 ·rename_i hk;have hk:=qdt hk;have hm:=Ho (z:=(⟨0,0⟩:QB)) hk;refine QAk ((KR.add (QKp x C _ hx (QH4 (by simp) (by simp;omega) ?_))).add (IH _ hm _ _))
  intro c hc;rcases List.mem_append.1 hc with h|h
  ·exact hls c h
  ·rw[List.mem_singleton.1 h];exact hcs _ hm
 ·exact QAk ((KR.add (vm (by kernel_rfl) _)).add (vm (by kernel_rfl) _))
theorem QHK{x:QE}(hx:Je x){C:List (List QB)}(hC:WK x C){ac body:Code}{l:List QB}(hl:l.length+(d+1)=x.scans.n)(hls:∀ c∈l,Jr c)(IH:∀ c∈QM C l.length,∀ s h,QQ Try.prog 77 (uFC (YZ x C ac body (l++[c]) h s (VR x C d l s h c))))(s:TrS)(h:Int→Bool){X:List (Prop×Ex×JSt)}(hX:∀ e J,Vb x C ac body d (QM C l.length) l (0,s,h) e J→∃ y∈X,y.1∧y.2.1=e∧y.2.2=J)(G:Ctx)(hrd:G.rd=none)(hG:G.n=272):
  KH (mkE Try.prog Q8) G (trX Try.prog (trJ x C ac body (QM C l.length) l h s.1 s.2.1 s.2.2 0) X) (Qr Try.f77):=by
 have hs:=hx.s;refine J6 (body:=Qa Try.f77 0) (QS KR) hrd (by kernel_rfl) ?_
 have hE:=fun t=>QNi hx (C:=C) (ac:=ac) (body:=body) (d:=d) (cs:=QM C l.length) (l:=l) (by omega) hls (hC.s _) IH t
 refine QCK (E0:=mkE Try.prog Q8) (E:=WA Try.prog x C ac body d (QM C l.length) l) (H:=fun t=>hnd (WA Try.prog x C ac body d (QM C l.length) l t) 0) (n0:=272) (s0:=(0,s,h)) (fun _=>rfl) hE (by omega) (fun t _=>Q3 (hE t) 0 G _ hrd) (fun t _=>(by decide:272≤320)) ?_ (QRD x C ac body d (QM C l.length) l (hC.le _) (by omega)) (Nat.zero_le _) hX
 intro t e J hr;unfold Vb at hr;split at hr
 ·rw[hr.2];exact(by decide:272≤320)
 ·rw[hr.2];exact(by decide:272≤320)
theorem QSl{x:QE}(hx:Je x){C:List (List QB)}(hC:WK x C){l:List QB}(hl:l.length+(d+1)=x.scans.n)(hls:∀ c∈l,Jr c)(IH:∀ c∈QM C l.length,∀ s h,QQ Try.prog 77 (uFC (YZ x C Jw Jx (l++[c]) h s (VR x C d l s h c))))(s:TrS)(h:Int→Bool):QQ Try.prog 77 (uFC (YZ x C Jw Jx l h s (onT x C trY (d+1) l s h))):=by
 have hCn:=hC.n;cases he:onT x C trY (d+1) l s h with
 | go s' h'=>
  have hc:Jt (JG x l (VR x C d l)) (QM C l.length) s h = .go s' h':=he;refine VX (E:=mkE Try.prog Q8) (QS KR) Try.func77 (by kernel_rfl) (by kernel_rfl) (QJd ..) (QHK hx hC hl hls IH s h (X:=[(True,.exit 0,trE x Jw Jx l h' s'.1 s'.2.1 s'.2.2)]) ?_) ⟨?_⟩
  ·intro e J hr;unfold Vb at hr;simp only[List.drop_zero,hc]at hr;exact⟨_,List.mem_cons_self,trivial,hr.1.symm,hr.2.symm⟩
  ·refine KB (QRO x C (QM C l.length) l h s.1 s.2.1 s.2.2 h' s'.1 s'.2.1 s'.2.2) ?_;refine QI (fun q=>by simp at q;omega) (fun _=>QF (by simp;omega) (QF (by simp;omega) ?_))
   repeat' first|refine Qc (p:=_=_) rfl ?_|refine Qc (p:=_≤_) (qlr _) ?_|refine Qc (p:=QD _ _ _ _) (qRr) ?_|refine Qc (p:=K0 _ _ _ _ _ _) (Qh _ _ _ _) ?_|refine Qc (p:=Kt _ _ _ _ _ _) (Jf _ _ _) ?_
   refine KY fun _=>KX fun g=>⟨rfl,rfl,_,QWf x C l h s.1 s.2.1 s.2.2 h' s'.1 s'.2.1 s'.2.2,?_⟩
   repeat' first|with_reducible refine QO ?_ ?_|exact trivial|with_reducible rfl|exact qlr _|exact qRr|exact Qh _ _ _ _|exact Jf _ _ _|refine And.intro ?_ ?_
 | stop s' h'=>
  have hc:Jt (JG x l (VR x C d l)) (QM C l.length) s h = .stop s' h':=he;refine VX (E:=mkE Try.prog Q8) (QS KR) Try.func77 (by kernel_rfl) (by kernel_rfl) (QMr ..) (QHK hx hC hl hls IH s h (X:=[(True,.ret,trF x Jw Jx l h' s'.1 s'.2.1 s'.2.2)]) ?_) ⟨?_⟩
  ·intro e J hr;unfold Vb at hr;simp only[List.drop_zero,hc]at hr;exact⟨_,List.mem_cons_self,trivial,hr.1.symm,hr.2.symm⟩
  ·refine KB (QVy x C (QM C l.length) l h s.1 s.2.1 s.2.2 h' s'.1 s'.2.1 s'.2.2) ?_;refine QI (fun q=>by simp at q;omega) (fun _=>QF (by simp;omega) (QF (by simp;omega) ?_))
   repeat' first|refine Qc (p:=_=_) rfl ?_|refine Qc (p:=_≤_) (qlr _) ?_|refine Qc (p:=QD _ _ _ _) (qRr) ?_|refine Qc (p:=K0 _ _ _ _ _ _) (Qh _ _ _ _) ?_|refine Qc (p:=Kt _ _ _ _ _ _) (Jf _ _ _) ?_
   refine KY fun _=>KX fun g=>⟨rfl,rfl,_,QRT x C l h s.1 s.2.1 s.2.2 h' s'.1 s'.2.1 s'.2.2,?_⟩
   repeat' first|with_reducible refine QO ?_ ?_|exact trivial|with_reducible rfl|exact qlr _|exact qRr|exact Qh _ _ _ _|exact Jf _ _ _|refine And.intro ?_ ?_
theorem QKs{x:QE}(hx:Je x){C:List (List QB)}(hC:WK x C)(hpos:0<x.scans.n):∀(d:Nat) (l:List QB) (s:TrS) (h:Int→Bool),l.length+d=x.scans.n→(∀ c∈l,Jr c)→QQ Try.prog 77 (uFC (YZ x C Jw Jx l h s (onT x C trY d l s h)))
 | 0,l,s,h,hn,_=>QM6 hx C hpos (by omega) s h
 | d+1,l,s,h,hn,hl=>QSl hx hC (by omega) hl (fun c hc s h=>QKs hx hC hpos d (l++[c]) s h (by simp;omega) (fun y hy=>by
   rcases List.mem_append.1 hy with q|q
   ·exact hl y q
   ·rw[List.mem_singleton.1 q];exact hC.s _ c hc)) s h
end Go.Proofs.Ytbpffdkemeoajaa
