/- - -/
import Derived.Test.YtbpffdkemeoajaaMfzc
open Go.IntKind (i64)
set_option maxRecDepth 100000
namespace Go.Proofs.Ytbpffdkemeoajaa
open Go.SX
def ZU(pb:List Prop→Bool)(U:UC):Tab:=Qg Qu 56 (VH pb U)
abbrev trX(P:Program)(J:JSt)(X:List (Prop×Ex×JSt)):Hnd:={ hnd (mkE P Qu) 2 with loop:=fun _=>KD 272 qR J X }
variable {d:Nat}(x:QE)(C:List (List QB))(l:List QB)(has:Int→Bool)(many:Int)(f g:List QB)(has':Int→Bool)(f' g':List QB)(many':Int)
noncomputable abbrev K8:Nat×Blk:=
  (200,.cells 0 38 [.slz 248 0 l.length cO])
noncomputable abbrev JA(l:List QB):Nat×Blk:=
  (176,.mpf i64 (.int true .i64 0) has fun i => .int false .i64 (QH l i))
noncomputable abbrev VO:Nat×Blk:=
  (161,.lp LoopState.ready none (trT x) (Array.mk [18]) (QR Try.f25 0).1 (QR Try.f25 0).2)
noncomputable abbrev QBh:Nat×Blk:=
  (32,.cells 0 3 [vi many])
noncomputable abbrev J7:Nat×Blk:=
  (16,.cells 0 38 [.slz 256 0 f.length cO])
noncomputable abbrev J4:Nat×Blk:=
  (24,.cells 0 38 [.slz 264 0 g.length cO])
noncomputable abbrev JE:Nat×Blk:=
  (248,.rowz true 56 [.int .i64,.int .i64] l.length fun i=>QA.enc (l.getD i ⟨0,0⟩))
abbrev Q6:List CK:=
  [.int .i64,.int .i64,.int .i64,.int .i64,.int .i64,.int .i64,.int .i64,.int .i64,.int .i64,.int .i64,.int .i64,.int .i64,.int .i64,.int .i64,.int .i64,.int .i64,.int
  .i64,.int .i64,.int .i64,.int .i64,.int .i64,.int .i64,.int .i64,.int .i64,.int .i64,.int .i64,.int .i64,.int .i64]
noncomputable abbrev K5:Nat×Blk:=
  (2,.frz [.int .i64,.int .i64,.int .i64,.int .i64] x.hang.n fun i=>QA.enc (x.hang.get i))
noncomputable abbrev JF:Nat×Blk:=
  (8,.cellsR 0 50 [vi x.d.play.length,vi x.d.play.slack,vi x.d.play.loose,vi x.d.play.damp.lo,.int false .i64
  x.d.play.damp.hi,vi x.d.wide,vi x.d.high,.bool false x.d.turn,.slz 0 0 x.d.ps.n cO,.slz 1 0 x.scans.n cO,.slz 2 0 x.hang.n (Cap.of
  0),vi x.lost,vi x.foreign])
noncomputable abbrev JC(x:QE):Nat×Blk:=
  (56,.cellsR 0 125 [vi x.d.play.length,vi x.d.play.slack,vi x.d.play.loose,vi x.d.play.damp.lo,.int false .i64
  x.d.play.damp.hi,vi x.d.wide,vi x.d.high,.bool false x.d.turn,.slz 0 0 x.d.ps.n cO,.slz 1 0 x.scans.n cO,.slz 2 0 x.hang.n (Cap.of
  0),vi x.lost,vi x.foreign,.slz 57 0 C.length cO])
noncomputable abbrev K6:Nat×Blk:=
  (128,.cellsR 0 89 [.ptr 56 0 0])
noncomputable abbrev Jz:Nat×Blk:=
  (256,.rowz true 56 [.int .i64,.int .i64] f.length fun i=>QA.enc (f.getD i ⟨0,0⟩))
noncomputable abbrev J5:Nat×Blk:=
  (264,.rowz true 56 [.int .i64,.int .i64] g.length fun i=>QA.enc (g.getD i ⟨0,0⟩))
noncomputable abbrev K9:Nat×Blk:=
  (57,.frz2 false 38 [.int .i64,.int .i64] C.length (fun i=>(QK C i).length) fun i j=>QA.enc ((QK C i).getD j ⟨0,0⟩))
abbrev QNV:List Prop:=
  [0=0,l.length=l.length,cO=cO,l.length≤l.length,QC 2 l.length (fun i=>QA.enc (l.getD i ⟨0,0⟩)) fun i=>QA.enc (l.getD i ⟨0,0⟩)]
noncomputable abbrev YI:Nat×Blk:=
  (161,.lp LoopState.done (some (Code.exit 0)) (trT x) (Array.mk [18]) (QR Try.f25 0).1 (QR Try.f25 0).2)
noncomputable abbrev Jg:Nat×Blk:=
  (32,.cells 0 3 [vi (i64.wrap (many+1))])
noncomputable abbrev QGM:Nat×Blk:=
  (16,.cells 0 38 [.slz 584 0 l.length cO])
noncomputable abbrev QEG:Nat×Blk:=
  (584,.rowz true 56 [.int .i64,.int .i64] l.length fun i=>QA.enc (l.getD i ⟨0,0⟩))
noncomputable abbrev QFO:Nat×Blk:=
  (24,.cells 0 38 [.slz 600 0 l.length cO])
noncomputable abbrev QGQ:Nat×Blk:=
  (600,.rowz true 56 [.int .i64,.int .i64] l.length fun i=>QA.enc (l.getD i ⟨0,0⟩))
theorem QGo(pb:List Prop→Bool)(x:QE)(C:List (List QB))(l:List QB)(has:Int→Bool)(many:Int)(f g:List QB):(Vx (mkE Try.prog (ZU pb (clU l))) (msN Try.prog (ZU pb (clU l))) Try.f77 Ht (W0 x C (QR Try.f25 0).1 (QR Try.f25 0).2 l has many f g).hp 272 fun v h _=>
  ZJ qR v h) = .br ((l.length:Int)==(x.scans.n:Int)) (.need (isI i64 (.int false .i64 (QH l (-2:Int)))) (.br (decide (i64.wrap ((x.d.ps.n:Int) -
  i64.wrap ((l.length:Int)-toI (.int false .i64 (QH l (-2:Int)))))>x.lost)) (.leaf (.bool true true) ([(K8 l),(JA has l),(VO x),(QBh many),(J7 f),
  (J4 g),(JE l),(0,.frz Q6 x.d.ps.n fun i=>QA.enc (x.d.ps.get i)),(1,.frz Q6 x.scans.n fun i=>QA.enc (x.scans.get i)),(K5 x),(JF x),(JC C x),K6,
  (Jz f),(J5 g),(K9 C)])) (.br (i64.wrap (many+1)==1) (.need (pb ((QNV l))) (.br (i64.wrap (many+1)==100) (.leaf (.bool true false) ([(K8 l),
  (JA has l),(YI x),(Jg many),(QGM l),(J4 g),(JE l),(0,.frz Q6 x.d.ps.n fun i=>QA.enc (x.d.ps.get i)),(1,.frz Q6 x.scans.n fun i=>QA.enc
  (x.scans.get i)),(K5 x),(JF x),(JC C x),K6,(QEG l),(J5 g),(K9 C)])) (.leaf (.bool true true) ([(K8 l),(JA has l),(VO x),(Jg many),(QGM l),
  (J4 g),(JE l),(0,.frz Q6 x.d.ps.n fun i=>QA.enc (x.d.ps.get i)),(1,.frz Q6 x.scans.n fun i=>QA.enc (x.scans.get i)),(K5 x),(JF x),(JC C x),K6,
  (QEG l),(J5 g),(K9 C)])))) (.br (i64.wrap (many+1)==2) (.need (pb ((QNV l))) (.br (i64.wrap (many+1)==100) (.leaf (.bool true false) ([(K8 l),
  (JA has l),(YI x),(Jg many),(J7 f),(QFO l),(JE l),(0,.frz Q6 x.d.ps.n fun i=>QA.enc (x.d.ps.get i)),(1,.frz Q6 x.scans.n fun i=>QA.enc
  (x.scans.get i)),(K5 x),(JF x),(JC C x),K6,(Jz f),(QGQ l),(K9 C)])) (.leaf (.bool true true) ([(K8 l),(JA has l),(VO x),(Jg many),(J7 f),
  (QFO l),(JE l),(0,.frz Q6 x.d.ps.n fun i=>QA.enc (x.d.ps.get i)),(1,.frz Q6 x.scans.n fun i=>QA.enc (x.scans.get i)),(K5 x),(JF x),(JC C x),K6,
  (Jz f),(QGQ l),(K9 C)])))) (.br (i64.wrap (many+1)==100) (.leaf (.bool true false) ([(K8 l),(JA has l),(YI x),(Jg many),(J7 f),(J4 g),(JE
  l),(0,.frz Q6 x.d.ps.n fun i=>QA.enc (x.d.ps.get i)),(1,.frz Q6 x.scans.n fun i=>QA.enc (x.scans.get i)),(K5 x),(JF x),(JC C x),K6,(Jz f),(J5 g),
  (K9 C)])) (.leaf (.bool true true) ([(K8 l),(JA has l),(VO x),(Jg many),(J7 f),(J4 g),(JE l),(0,.frz Q6 x.d.ps.n fun i=>QA.enc (x.d.ps.get i)),(1,
  .frz Q6 x.scans.n fun i=>QA.enc (x.scans.get i)),(K5 x),(JF x),(JC C x),K6,(Jz f),(J5 g),(K9 C)]))))))) (.need (decide ((0:Int)≤(l.length:Int) ∧
  (l.length : Int) < (C.length : Int)) && decide (C.length ≤ C.length)) (.need (decide (l.length < C.length)) (.fail ("a loop")))) := by kernel_rfl
abbrev QAT(l:List QB):List Prop:=
  [true=true,0=0,l.length=l.length,cO=cO,l.length≤l.length,QC 2 l.length (fun i=>QA.enc (l.getD i ⟨0,0⟩)) fun i=>QA.enc (l.getD i ⟨0,0⟩),
  Kc (.int true .i64 0) (.int true .i64 0) has has (fun i => .int false .i64 (QH l i)) fun i => .int false .i64 (QH l i),LoopState.ready=LoopState.ready,(none:Option
  Code)=none,Array.mk [18]=Array.mk [(18:Tmp)],(QR Try.f25 0).1=(QR Try.f25 0).1,(QR Try.f25 0).2=(QR Try.f25 0).2]
abbrev V1:List Prop:=
  [x.d.play.length=x.d.play.length,x.d.play.slack=x.d.play.slack,x.d.play.loose=x.d.play.loose,x.d.play.damp.lo=x.d.play.damp.lo,x.d.play.damp.hi=x.d.play.damp.hi,
  x.d.wide=x.d.wide,x.d.high=x.d.high,x.d.turn=x.d.turn,0=0,x.d.ps.n=x.d.ps.n,cO=cO,0=0,x.scans.n=x.scans.n,cO=cO,0=0,x.hang.n =
  x.hang.n,cO=cO,x.lost=x.lost,x.foreign=x.foreign,0=0]
abbrev XO:List Prop:=
  [0=0,0=0,0=0,0=0]
abbrev Wv:List Prop:=
  [0=0,0=0,0=0,(0:Int)=0]
abbrev W4:List Prop:=
  [0=0,(0:Int)=0,0=0,0=0,(0:Int)=0,(0:Int)=0,false=false,0=0,0=0,Fn.func (76:FuncId)=Fn.func (76:FuncId),0=0,0=0]
theorem QQ6 :QL 272 [(.bool true true)] ([(K8 l),(JA has l),(VO x),(QBh many),(J7 f),(J4 g),(JE l),(0,.frz Q6 x.d.ps.n fun i=>QA.enc (x.d.ps.get i)),(1,.frz
  Q6 x.scans.n fun i=>QA.enc (x.scans.get i)),(K5 x),(JF x),(JC C x),K6,(Jz f),(J5 g),(K9 C)]) (Ku (trU x C (QR Try.f25 0).1 (QR Try.f25 0).2 l
  has many f g has many f g))=(some ((QAT has l)++(V1 x)++XO++Wv++XO++[(0:Int)=0]++(V1 x)++W4++[many=many,0=0,f.length=f.length,
  cO=cO,f.length≤f.length,QC 2 f.length (fun i=>QA.enc (f.getD i ⟨0,0⟩)) fun i=>QA.enc (f.getD i ⟨0,0⟩),0=0,g.length=g.length,cO=Cap.of
  0,g.length≤g.length,QC 2 g.length (fun i=>QA.enc (g.getD i ⟨0,0⟩)) fun i=>QA.enc (g.getD i ⟨0,0⟩)])):=by kernel_rfl
abbrev QEd:List Prop:=
  [g.length=g'.length,cO=cO,g'.length≤g.length,QC 2 g'.length (fun i=>QA.enc (g.getD i ⟨0,0⟩)) fun i=>QA.enc (g'.getD i ⟨0,0⟩)]
theorem QUA(f' g':List QB):QL 272 [(.bool true true)] ([(K8 l),(JA has l),(VO x),(Jg many),(QGM l),(J4 g),(JE l),(0,.frz Q6 x.d.ps.n fun i=>QA.enc (x.d.ps.get i)),(1,.frz
  Q6 x.scans.n fun i=>QA.enc (x.scans.get i)),(K5 x),(JF x),(JC C x),K6,(QEG l),(J5 g),(K9 C)]) (Ku (trU x C (QR Try.f25 0).1 (QR Try.f25 0).2 l
  has many f g has many' f' g'))=(some ((QAT has l)++(V1 x)++XO++Wv++XO++[(0:Int)=0]++(V1 x)++W4++[i64.wrap (many+1)=many',0 =
  0,l.length=f'.length,cO=cO,f'.length≤l.length,QC 2 f'.length (fun i=>QA.enc (l.getD i ⟨0,0⟩)) fun i=>QA.enc (f'.getD i ⟨0,0⟩),0=0]++(QEd g
  g'))):=by kernel_rfl
abbrev QFq:List Prop:=
  [0=0,f.length=f'.length,cO=cO,f'.length≤f.length,QC 2 f'.length (fun i=>QA.enc (f.getD i ⟨0,0⟩)) fun i=>QA.enc (f'.getD i ⟨0,0⟩),0=0]
theorem QRs(f' g':List QB):QL 272 [(.bool true true)] ([(K8 l),(JA has l),(VO x),(Jg many),(J7 f),(QFO l),(JE l),(0,.frz Q6 x.d.ps.n fun i=>QA.enc (x.d.ps.get i)),(1,.frz
  Q6 x.scans.n fun i=>QA.enc (x.scans.get i)),(K5 x),(JF x),(JC C x),K6,(Jz f),(QGQ l),(K9 C)]) (Ku (trU x C (QR Try.f25 0).1 (QR Try.f25 0).2 l
  has many f g has many' f' g'))=(some ((QAT has l)++(V1 x)++XO++Wv++XO++[(0:Int)=0]++(V1 x)++W4++[i64.wrap (many+1)=many'] ++
  (QFq f f')++[l.length=g'.length,cO=cO,g'.length≤l.length,QC 2 g'.length (fun i=>QA.enc (l.getD i ⟨0,0⟩)) fun i=>QA.enc (g'.getD i ⟨0,0⟩)])):=by kernel_rfl
abbrev QEa:List Prop:=
  [0=0,l.length=l.length,cO=cO,l.length≤l.length,QC 2 l.length (fun i=>QA.enc (l.getD i ⟨0,0⟩)) fun i=>QA.enc (l.getD i ⟨0,0⟩)]
abbrev QOr:List Prop:=
  [LoopState.done=LoopState.done,some (Code.exit 0)=some (Code.exit 0),Array.mk [18]=Array.mk [(18:Tmp)],(QR Try.f25 0).1=(QR Try.f25 0).1,(QR Try.f25 0).2 =
  (QR Try.f25 0).2]
theorem QYC(f' g':List QB):QL 272 [(.bool true false)] ([(K8 l),(JA has l),(YI x),(Jg many),(J7 f),(J4 g),(JE l),(0,.frz Q6 x.d.ps.n fun i=>QA.enc (x.d.ps.get i)),(1,.frz
  Q6 x.scans.n fun i=>QA.enc (x.scans.get i)),(K5 x),(JF x),(JC C x),K6,(Jz f),(J5 g),(K9 C)]) (Ku (trV x C (QR Try.f25 0).1 (QR Try.f25 0).2 l
  has many f g has many' f' g'))=(some ([false=false]++(QEa l)++[Kc (.int true .i64 0) (.int true .i64 0) has has (fun i => .int false .i64 (QH l i)) fun i => .int
  false .i64 (QH l i)]++QOr++(V1 x)++XO++Wv++XO++[(0:Int)=0]++(V1 x)++W4++[i64.wrap (many+1)=many']++(QFq f f')++(QEd g
  g'))):=by kernel_rfl
theorem QYi(f' g':List QB):QL 272 [(.bool true true)] ([(K8 l),(JA has l),(VO x),(Jg many),(J7 f),(J4 g),(JE l),(0,.frz Q6 x.d.ps.n fun i=>QA.enc (x.d.ps.get i)),(1,.frz
  Q6 x.scans.n fun i=>QA.enc (x.scans.get i)),(K5 x),(JF x),(JC C x),K6,(Jz f),(J5 g),(K9 C)]) (Ku (trU x C (QR Try.f25 0).1 (QR Try.f25 0).2 l
  has many f g has many' f' g'))=(some ((QAT has l)++(V1 x)++XO++Wv++XO++[(0:Int)=0]++(V1 x)++W4++[i64.wrap (many+1)=many'] ++
  (QFq f f')++(QEd g g'))):=by kernel_rfl
noncomputable abbrev QAl:Nat×Blk:=
  (16,.cells 0 38 [.slz 624 0 (0+l.length) cO])
noncomputable abbrev QBd(x:QE):Nat×Blk:=
  (624,.rowz true 56 [.int .i64,.int .i64] (0+l.length) (Qi 0 (fun x x_1=>(0:Int)) fun i=>QA.enc (l.getD i ⟨0,0⟩)))
noncomputable abbrev QA4:Nat×Blk:=
  (24,.cells 0 38 [.slz 640 0 (0+l.length) cO])
noncomputable abbrev QAP(x:QE):Nat×Blk:=
  (640,.rowz true 56 [.int .i64,.int .i64] (0+l.length) (Qi 0 (fun x x_1=>(0:Int)) fun i=>QA.enc (l.getD i ⟨0,0⟩)))
noncomputable abbrev QO4(has':Int→Bool)(l:List QB)(many':Int)(x:QE):List (Nat×Blk):=
  [(200,.cells 0 38 [.slz 280 0 l.length cO]),(176,.mpf i64 (.int true .i64 0) has' fun i => .int false .i64 (QH l i)),(VO x),(32,.cells 0 3 [.int false
  .i64 many']),(16,.cells 0 38 [.slz 288 0 f'.length cO]),(24,.cells 0 38 [.slz 296 0 g'.length cO]),(280,.rowz true 56 [.int .i64,.int .i64] l.length fun i=>
  QA.enc (l.getD i ⟨0,0⟩)),(288,.rowz true 56 [.int .i64,.int .i64] f'.length fun i=>QA.enc (f'.getD i ⟨0,0⟩)),(296,.rowz true 56 [.int .i64,.int .i64] g'.length fun i
  => QA.enc (g'.getD i ⟨0,0⟩))]
theorem QRA(cs l:List QB)(has:Int→Bool)(many:Int)(f g:List QB)(has':Int→Bool)(many':Int)(f' g':List QB):(Vx (mkE Try.prog Qu) (trX Try.prog (trJ x C (QR Try.f25 0).1 (QR Try.f25 0).2 cs l has many f g 0) [(True,.exit 0,trE x (QR Try.f25 0).1 (QR Try.f25 0).2 l
  has' many' f' g')]) Try.f77 Ht (W0 x C (QR Try.f25 0).1 (QR Try.f25 0).2 l has many f g).hp 272 fun v h _=>ZJ qR v h) = .br ((l.length:Int)==(x.scans.n :
  Int)) (.need (isI i64 (.int false .i64 (QH l (-2:Int)))) (.br (decide (i64.wrap ((x.d.ps.n:Int)-i64.wrap ((l.length:Int)-toI (.int false .i64
  (QH l (-2:Int)))))>x.lost)) (.leaf (.bool true true) ([(K8 l),(JA has l),(VO x),(QBh many),(J7 f),(J4 g),(JE l),(0,.frz Q6 x.d.ps.n fun i=>
  QA.enc (x.d.ps.get i)),(1,.frz Q6 x.scans.n fun i=>QA.enc (x.scans.get i)),(K5 x),(JF x),(JC C x),K6,(Jz f),(J5 g),(K9 C)])) (.br (i64.wrap
  (many+1)==1) (.need (decide (0<l.length∧l.length≤l.length)) (.need (true&&(decide (l.length≤l.length)&&decide ((0+l.length+(0+l.length) / 4+192)*16 ≤
  281474976710656∧0+l.length≤9223372036854775807))) (.br (i64.wrap (many+1)==100) (.leaf (.bool true false) ([(K8 l),(JA has l),(YI x),(Jg many),(QAl
  l),(J4 g),(JE l),(0,.frz Q6 x.d.ps.n fun i=>QA.enc (x.d.ps.get i)),(1,.frz Q6 x.scans.n fun i=>QA.enc (x.scans.get i)),(K5 x),(JF x),(JC C x),K6,
  (QBd l x),(J5 g),(K9 C)])) (.leaf (.bool true true) ([(K8 l),(JA has l),(VO x),(Jg many),(QAl l),(J4 g),(JE l),(0,.frz Q6 x.d.ps.n fun i=>
  QA.enc (x.d.ps.get i)),(1,.frz Q6 x.scans.n fun i=>QA.enc (x.scans.get i)),(K5 x),(JF x),(JC C x),K6,(QBd l x),(J5 g),(K9 C)]))))) (.br
  (i64.wrap (many+1)==2) (.need (decide (0<l.length∧l.length≤l.length)) (.need (true&&(decide (l.length≤l.length)&&decide ((0+l.length+(0+l.length) / 4 +
  192)*16≤281474976710656∧0+l.length≤9223372036854775807))) (.br (i64.wrap (many+1)==100) (.leaf (.bool true false) ([(K8 l),(JA has l),(YI x),(Jg
  many),(J7 f),(QA4 l),(JE l),(0,.frz Q6 x.d.ps.n fun i=>QA.enc (x.d.ps.get i)),(1,.frz Q6 x.scans.n fun i=>QA.enc (x.scans.get i)),(K5 x),(JF x),
  (JC C x),K6,(Jz f),(QAP l x),(K9 C)])) (.leaf (.bool true true) ([(K8 l),(JA has l),(VO x),(Jg many),(J7 f),(QA4 l),(JE l),(0,.frz Q6
  x.d.ps.n fun i=>QA.enc (x.d.ps.get i)),(1,.frz Q6 x.scans.n fun i=>QA.enc (x.scans.get i)),(K5 x),(JF x),(JC C x),K6,(Jz f),(QAP l x),(K9 C)])))))
  (.br (i64.wrap (many+1)==100) (.leaf (.bool true false) ([(K8 l),(JA has l),(YI x),(Jg many),(J7 f),(J4 g),(JE l),(0,.frz Q6 x.d.ps.n fun i=>
  QA.enc (x.d.ps.get i)),(1,.frz Q6 x.scans.n fun i=>QA.enc (x.scans.get i)),(K5 x),(JF x),(JC C x),K6,(Jz f),(J5 g),(K9 C)])) (.leaf (.bool true
  true) ([(K8 l),(JA has l),(VO x),(Jg many),(J7 f),(J4 g),(JE l),(0,.frz Q6 x.d.ps.n fun i=>QA.enc (x.d.ps.get i)),(1,.frz Q6 x.scans.n fun i=>
  QA.enc (x.scans.get i)),(K5 x),(JF x),(JC C x),K6,(Jz f),(J5 g),(K9 C)]))))))) (.need (decide ((0:Int)≤(l.length:Int)∧(l.length:Int)<(C.length :
  Int))&&decide (C.length≤C.length)) (.need (decide (l.length<C.length)) (.ask (0=0) (.ask (0=0) (.ask (0=0) (.ask (0=0) (.ask (0=0) (.ask (0=0) (.ask (0=0) (.ask
  (0=0) (.ask (0=0) (.ask (0=0) (.ask (0=0) (.ask ((QK C l.length).length=cs.length) (.ask (Cap.of 0=Cap.of 0) (.ask ((↑(QK C l.length).length:Int)=(cs.length :
  Int)) (.ask ((0:Int)=0) (.ask (cs.length≤(QK C l.length).length) (.ask (QC 2 cs.length (fun j=>QA.enc ((QK C l.length).getD j ⟨0,0⟩)) fun i=>QA.enc (cs.getD i
  ⟨0,0⟩)) (.ask (0=0) (.ask (l.length=l.length) (.ask (Cap.of 0=Cap.of 0) (.ask (l.length≤l.length) (.ask (QC 2 l.length (fun i=>QA.enc (l.getD i ⟨0,0⟩)) fun i=>
  QA.enc (l.getD i ⟨0,0⟩)) (.ask (Kc (.int true .i64 0) (.int true .i64 0) has has (fun i => .int false .i64 (QH l i)) fun i => .int false .i64 (QH l i)) (.ask
  (LoopState.ready=LoopState.ready) (.ask ((none:Option Code)=none) (.ask (Array.mk [(18:Tmp)]=Array.mk [(18:Tmp)]) (.ask ((QR Try.f25 0).1=(QR Try.f25 0).1)
  (.ask ((QR Try.f25 0).2=(QR Try.f25 0).2) (.ask (x.d.play.length=x.d.play.length) (.ask (x.d.play.slack=x.d.play.slack) (.ask (x.d.play.loose=x.d.play.loose) (.ask
  (x.d.play.damp.lo=x.d.play.damp.lo) (.ask (x.d.play.damp.hi=x.d.play.damp.hi) (.ask (x.d.wide=x.d.wide) (.ask (x.d.high=x.d.high) (.ask (x.d.turn=x.d.turn) (.ask (0=0)
  (.ask (x.d.ps.n=x.d.ps.n) (.ask (Cap.of 0=Cap.of 0) (.ask (0=0) (.ask (x.scans.n=x.scans.n) (.ask (Cap.of 0=Cap.of 0) (.ask (0=0) (.ask (x.hang.n=x.hang.n) (.ask
  (Cap.of 0=Cap.of 0) (.ask (x.lost=x.lost) (.ask (x.foreign=x.foreign) (.ask (0=0) (.ask (0=0) (.ask (0=0) (.ask (0=0) (.ask (0=0) (.ask (0=0) (.ask (0=0) (.ask
  (0=0) (.ask ((0:Int)=0) (.ask (0=0) (.ask (0=0) (.ask (0=0) (.ask (0=0) (.ask ((0:Int)=0) (.ask (x.d.play.length=x.d.play.length) (.ask (x.d.play.slack =
  x.d.play.slack) (.ask (x.d.play.loose=x.d.play.loose) (.ask (x.d.play.damp.lo=x.d.play.damp.lo) (.ask (x.d.play.damp.hi=x.d.play.damp.hi) (.ask (x.d.wide=x.d.wide) (.ask
  (x.d.high=x.d.high) (.ask (x.d.turn=x.d.turn) (.ask (0=0) (.ask (x.d.ps.n=x.d.ps.n) (.ask (Cap.of 0=Cap.of 0) (.ask (0=0) (.ask (x.scans.n=x.scans.n) (.ask (Cap.of 0 =
  Cap.of 0) (.ask (0=0) (.ask (x.hang.n=x.hang.n) (.ask (Cap.of 0=Cap.of 0) (.ask (x.lost=x.lost) (.ask (x.foreign=x.foreign) (.ask (0=0) (.ask (0=0) (.ask ((0:Int) =
  0) (.ask (0=0) (.ask (0=0) (.ask ((0:Int)=0) (.ask ((0:Int)=0) (.ask (false=false) (.ask (0=0) (.ask (0=0) (.ask (Fn.func (76:FuncId)=Fn.func (76:FuncId))
  (.ask (0=0) (.ask (0=0) (.ask (many=many) (.ask (0=0) (.ask (f.length=f.length) (.ask (Cap.of 0=Cap.of 0) (.ask (f.length≤f.length) (.ask (QC 2 f.length (fun i=>
  QA.enc (f.getD i ⟨0,0⟩)) fun i=>QA.enc (f.getD i ⟨0,0⟩)) (.ask (0=0) (.ask (g.length=g.length) (.ask (Cap.of 0=Cap.of 0) (.ask (g.length≤g.length) (.ask (QC 2
  g.length (fun i=>QA.enc (g.getD i ⟨0,0⟩)) fun i=>QA.enc (g.getD i ⟨0,0⟩)) (.ask (Fn.func (77:FuncId)=Fn.func (77:FuncId)) (.ask (0=0) (.ask (0=0) (.ask (0=0)
  (.ask (0=0) (.ask (0=0) (.ask (0=0) (.ask (0=0) (.ask (0=0) (.ask (0=0) (.ask (0=0) (.ask (0=0) (.ask (0=0) (.ask (x.d.play.length=x.d.play.length) (.ask
  (x.d.play.slack=x.d.play.slack) (.ask (x.d.play.loose=x.d.play.loose) (.ask (x.d.play.damp.lo=x.d.play.damp.lo) (.ask (x.d.play.damp.hi=x.d.play.damp.hi) (.ask (x.d.wide =
  x.d.wide) (.ask (x.d.high=x.d.high) (.ask (x.d.turn=x.d.turn) (.ask (0=0) (.ask (x.d.ps.n=x.d.ps.n) (.ask (Cap.of 0=Cap.of 0) (.ask (0=0) (.ask (x.scans.n=x.scans.n)
  (.ask (Cap.of 0=Cap.of 0) (.ask (0=0) (.ask (x.hang.n=x.hang.n) (.ask (Cap.of 0=Cap.of 0) (.ask (x.lost=x.lost) (.ask (x.foreign=x.foreign) (.ask (x.d.play.length =
  x.d.play.length) (.ask (x.d.play.slack=x.d.play.slack) (.ask (x.d.play.loose=x.d.play.loose) (.ask (x.d.play.damp.lo=x.d.play.damp.lo) (.ask (x.d.play.damp.hi =
  x.d.play.damp.hi) (.ask (x.d.wide=x.d.wide) (.ask (x.d.high=x.d.high) (.ask (x.d.turn=x.d.turn) (.ask (0=0) (.ask (x.d.ps.n=x.d.ps.n) (.ask (Cap.of 0=Cap.of 0) (.ask (0
  = 0) (.ask (x.scans.n=x.scans.n) (.ask (Cap.of 0=Cap.of 0) (.ask (0=0) (.ask (x.hang.n=x.hang.n) (.ask (Cap.of 0=Cap.of 0) (.ask (x.lost=x.lost) (.ask (x.foreign =
  x.foreign) (.ask (0=0) (.ask (C.length=C.length) (.ask (Cap.of 0=Cap.of 0) (.ask (C.length=C.length) (.ask (Kj 2 C.length (fun i=>(QK C i).length) (fun i=>(QK C
  i).length) (fun i j=>QA.enc ((QK C i).getD j ⟨0,0⟩)) fun i j=>QA.enc ((QK C i).getD j ⟨0,0⟩)) (.ask (x.d.ps.n≤x.d.ps.n) (.ask (QC 28 x.d.ps.n (fun i=>QA.enc
  (x.d.ps.get i)) fun i=>QA.enc (x.d.ps.get i)) (.ask (x.scans.n≤x.scans.n) (.ask (QC 28 x.scans.n (fun i=>QA.enc (x.scans.get i)) fun i=>QA.enc (x.scans.get i))
  (.ask (x.hang.n≤x.hang.n) (.ask (QC 4 x.hang.n (fun i=>QA.enc (x.hang.get i)) fun i=>QA.enc (x.hang.get i)) (.asm (True) (.all (fun(g0:Nat→Value) => .leaf (.bool
  true true) ((QO4 f' g' has' l many'
  x))))))))))))))))))))))))))))))))))))))))))))))))))))))))))))))))))))))))))))))))))))))))))))))))))))))))))))))))))))))))))))))))))))))))))))))))))))))))))))))))))))))))))))):=by kernel_rfl
noncomputable abbrev QLE(has':Int→Bool)(l:List QB)(many':Int)(x:QE):List (Nat×Blk):=
  [(200,.cells 0 38 [.slz 280 0 l.length cO]),(176,.mpf i64 (.int true .i64 0) has' fun i => .int false .i64 (QH l i)),(YI x),(32,.cells 0 3 [.int false
  .i64 many']),(16,.cells 0 38 [.slz 288 0 f'.length cO]),(24,.cells 0 38 [.slz 296 0 g'.length cO]),(280,.rowz true 56 [.int .i64,.int .i64] l.length fun i=>
  QA.enc (l.getD i ⟨0,0⟩)),(288,.rowz true 56 [.int .i64,.int .i64] f'.length fun i=>QA.enc (f'.getD i ⟨0,0⟩)),(296,.rowz true 56 [.int .i64,.int .i64] g'.length fun i
  => QA.enc (g'.getD i ⟨0,0⟩))]
theorem QZm(cs l:List QB)(has:Int→Bool)(many:Int)(f g:List QB)(has':Int→Bool)(many':Int)(f' g':List QB):(Vx (mkE Try.prog Qu) (trX Try.prog (trJ x C (QR Try.f25 0).1 (QR Try.f25 0).2 cs l has many f g 0) [(True,.ret,trF x (QR Try.f25 0).1 (QR Try.f25 0).2 l
  has' many' f' g')]) Try.f77 Ht (W0 x C (QR Try.f25 0).1 (QR Try.f25 0).2 l has many f g).hp 272 fun v h _=>ZJ qR v h) = .br ((l.length:Int)==(x.scans.n :
  Int)) (.need (isI i64 (.int false .i64 (QH l (-2:Int)))) (.br (decide (i64.wrap ((x.d.ps.n:Int)-i64.wrap ((l.length:Int)-toI (.int false .i64
  (QH l (-2:Int)))))>x.lost)) (.leaf (.bool true true) ([(K8 l),(JA has l),(VO x),(QBh many),(J7 f),(J4 g),(JE l),(0,.frz Q6 x.d.ps.n fun i=>
  QA.enc (x.d.ps.get i)),(1,.frz Q6 x.scans.n fun i=>QA.enc (x.scans.get i)),(K5 x),(JF x),(JC C x),K6,(Jz f),(J5 g),(K9 C)])) (.br (i64.wrap
  (many+1)==1) (.need (decide (0<l.length∧l.length≤l.length)) (.need (true&&(decide (l.length≤l.length)&&decide ((0+l.length+(0+l.length) / 4+192)*16 ≤
  281474976710656∧0+l.length≤9223372036854775807))) (.br (i64.wrap (many+1)==100) (.leaf (.bool true false) ([(K8 l),(JA has l),(YI x),(Jg many),(QAl
  l),(J4 g),(JE l),(0,.frz Q6 x.d.ps.n fun i=>QA.enc (x.d.ps.get i)),(1,.frz Q6 x.scans.n fun i=>QA.enc (x.scans.get i)),(K5 x),(JF x),(JC C x),K6,
  (QBd l x),(J5 g),(K9 C)])) (.leaf (.bool true true) ([(K8 l),(JA has l),(VO x),(Jg many),(QAl l),(J4 g),(JE l),(0,.frz Q6 x.d.ps.n fun i=>
  QA.enc (x.d.ps.get i)),(1,.frz Q6 x.scans.n fun i=>QA.enc (x.scans.get i)),(K5 x),(JF x),(JC C x),K6,(QBd l x),(J5 g),(K9 C)]))))) (.br
  (i64.wrap (many+1)==2) (.need (decide (0<l.length∧l.length≤l.length)) (.need (true&&(decide (l.length≤l.length)&&decide ((0+l.length+(0+l.length) / 4 +
  192)*16≤281474976710656∧0+l.length≤9223372036854775807))) (.br (i64.wrap (many+1)==100) (.leaf (.bool true false) ([(K8 l),(JA has l),(YI x),(Jg
  many),(J7 f),(QA4 l),(JE l),(0,.frz Q6 x.d.ps.n fun i=>QA.enc (x.d.ps.get i)),(1,.frz Q6 x.scans.n fun i=>QA.enc (x.scans.get i)),(K5 x),(JF x),
  (JC C x),K6,(Jz f),(QAP l x),(K9 C)])) (.leaf (.bool true true) ([(K8 l),(JA has l),(VO x),(Jg many),(J7 f),(QA4 l),(JE l),(0,.frz Q6
  x.d.ps.n fun i=>QA.enc (x.d.ps.get i)),(1,.frz Q6 x.scans.n fun i=>QA.enc (x.scans.get i)),(K5 x),(JF x),(JC C x),K6,(Jz f),(QAP l x),(K9 C)])))))
  (.br (i64.wrap (many+1)==100) (.leaf (.bool true false) ([(K8 l),(JA has l),(YI x),(Jg many),(J7 f),(J4 g),(JE l),(0,.frz Q6 x.d.ps.n fun i=>
  QA.enc (x.d.ps.get i)),(1,.frz Q6 x.scans.n fun i=>QA.enc (x.scans.get i)),(K5 x),(JF x),(JC C x),K6,(Jz f),(J5 g),(K9 C)])) (.leaf (.bool true
  true) ([(K8 l),(JA has l),(VO x),(Jg many),(J7 f),(J4 g),(JE l),(0,.frz Q6 x.d.ps.n fun i=>QA.enc (x.d.ps.get i)),(1,.frz Q6 x.scans.n fun i=>
  QA.enc (x.scans.get i)),(K5 x),(JF x),(JC C x),K6,(Jz f),(J5 g),(K9 C)]))))))) (.need (decide ((0:Int)≤(l.length:Int)∧(l.length:Int)<(C.length :
  Int))&&decide (C.length≤C.length)) (.need (decide (l.length<C.length)) (.ask (0=0) (.ask (0=0) (.ask (0=0) (.ask (0=0) (.ask (0=0) (.ask (0=0) (.ask (0=0) (.ask
  (0=0) (.ask (0=0) (.ask (0=0) (.ask (0=0) (.ask ((QK C l.length).length=cs.length) (.ask (Cap.of 0=Cap.of 0) (.ask ((↑(QK C l.length).length:Int)=(cs.length :
  Int)) (.ask ((0:Int)=0) (.ask (cs.length≤(QK C l.length).length) (.ask (QC 2 cs.length (fun j=>QA.enc ((QK C l.length).getD j ⟨0,0⟩)) fun i=>QA.enc (cs.getD i
  ⟨0,0⟩)) (.ask (0=0) (.ask (l.length=l.length) (.ask (Cap.of 0=Cap.of 0) (.ask (l.length≤l.length) (.ask (QC 2 l.length (fun i=>QA.enc (l.getD i ⟨0,0⟩)) fun i=>
  QA.enc (l.getD i ⟨0,0⟩)) (.ask (Kc (.int true .i64 0) (.int true .i64 0) has has (fun i => .int false .i64 (QH l i)) fun i => .int false .i64 (QH l i)) (.ask
  (LoopState.ready=LoopState.ready) (.ask ((none:Option Code)=none) (.ask (Array.mk [(18:Tmp)]=Array.mk [(18:Tmp)]) (.ask ((QR Try.f25 0).1=(QR Try.f25 0).1)
  (.ask ((QR Try.f25 0).2=(QR Try.f25 0).2) (.ask (x.d.play.length=x.d.play.length) (.ask (x.d.play.slack=x.d.play.slack) (.ask (x.d.play.loose=x.d.play.loose) (.ask
  (x.d.play.damp.lo=x.d.play.damp.lo) (.ask (x.d.play.damp.hi=x.d.play.damp.hi) (.ask (x.d.wide=x.d.wide) (.ask (x.d.high=x.d.high) (.ask (x.d.turn=x.d.turn) (.ask (0=0)
  (.ask (x.d.ps.n=x.d.ps.n) (.ask (Cap.of 0=Cap.of 0) (.ask (0=0) (.ask (x.scans.n=x.scans.n) (.ask (Cap.of 0=Cap.of 0) (.ask (0=0) (.ask (x.hang.n=x.hang.n) (.ask
  (Cap.of 0=Cap.of 0) (.ask (x.lost=x.lost) (.ask (x.foreign=x.foreign) (.ask (0=0) (.ask (0=0) (.ask (0=0) (.ask (0=0) (.ask (0=0) (.ask (0=0) (.ask (0=0) (.ask
  (0=0) (.ask ((0:Int)=0) (.ask (0=0) (.ask (0=0) (.ask (0=0) (.ask (0=0) (.ask ((0:Int)=0) (.ask (x.d.play.length=x.d.play.length) (.ask (x.d.play.slack =
  x.d.play.slack) (.ask (x.d.play.loose=x.d.play.loose) (.ask (x.d.play.damp.lo=x.d.play.damp.lo) (.ask (x.d.play.damp.hi=x.d.play.damp.hi) (.ask (x.d.wide=x.d.wide) (.ask
  (x.d.high=x.d.high) (.ask (x.d.turn=x.d.turn) (.ask (0=0) (.ask (x.d.ps.n=x.d.ps.n) (.ask (Cap.of 0=Cap.of 0) (.ask (0=0) (.ask (x.scans.n=x.scans.n) (.ask (Cap.of 0 =
  Cap.of 0) (.ask (0=0) (.ask (x.hang.n=x.hang.n) (.ask (Cap.of 0=Cap.of 0) (.ask (x.lost=x.lost) (.ask (x.foreign=x.foreign) (.ask (0=0) (.ask (0=0) (.ask ((0:Int) =
  0) (.ask (0=0) (.ask (0=0) (.ask ((0:Int)=0) (.ask ((0:Int)=0) (.ask (false=false) (.ask (0=0) (.ask (0=0) (.ask (Fn.func (76:FuncId)=Fn.func (76:FuncId))
  (.ask (0=0) (.ask (0=0) (.ask (many=many) (.ask (0=0) (.ask (f.length=f.length) (.ask (Cap.of 0=Cap.of 0) (.ask (f.length≤f.length) (.ask (QC 2 f.length (fun i=>
  QA.enc (f.getD i ⟨0,0⟩)) fun i=>QA.enc (f.getD i ⟨0,0⟩)) (.ask (0=0) (.ask (g.length=g.length) (.ask (Cap.of 0=Cap.of 0) (.ask (g.length≤g.length) (.ask (QC 2
  g.length (fun i=>QA.enc (g.getD i ⟨0,0⟩)) fun i=>QA.enc (g.getD i ⟨0,0⟩)) (.ask (Fn.func (77:FuncId)=Fn.func (77:FuncId)) (.ask (0=0) (.ask (0=0) (.ask (0=0)
  (.ask (0=0) (.ask (0=0) (.ask (0=0) (.ask (0=0) (.ask (0=0) (.ask (0=0) (.ask (0=0) (.ask (0=0) (.ask (0=0) (.ask (x.d.play.length=x.d.play.length) (.ask
  (x.d.play.slack=x.d.play.slack) (.ask (x.d.play.loose=x.d.play.loose) (.ask (x.d.play.damp.lo=x.d.play.damp.lo) (.ask (x.d.play.damp.hi=x.d.play.damp.hi) (.ask (x.d.wide =
  x.d.wide) (.ask (x.d.high=x.d.high) (.ask (x.d.turn=x.d.turn) (.ask (0=0) (.ask (x.d.ps.n=x.d.ps.n) (.ask (Cap.of 0=Cap.of 0) (.ask (0=0) (.ask (x.scans.n=x.scans.n)
  (.ask (Cap.of 0=Cap.of 0) (.ask (0=0) (.ask (x.hang.n=x.hang.n) (.ask (Cap.of 0=Cap.of 0) (.ask (x.lost=x.lost) (.ask (x.foreign=x.foreign) (.ask (x.d.play.length =
  x.d.play.length) (.ask (x.d.play.slack=x.d.play.slack) (.ask (x.d.play.loose=x.d.play.loose) (.ask (x.d.play.damp.lo=x.d.play.damp.lo) (.ask (x.d.play.damp.hi =
  x.d.play.damp.hi) (.ask (x.d.wide=x.d.wide) (.ask (x.d.high=x.d.high) (.ask (x.d.turn=x.d.turn) (.ask (0=0) (.ask (x.d.ps.n=x.d.ps.n) (.ask (Cap.of 0=Cap.of 0) (.ask (0
  = 0) (.ask (x.scans.n=x.scans.n) (.ask (Cap.of 0=Cap.of 0) (.ask (0=0) (.ask (x.hang.n=x.hang.n) (.ask (Cap.of 0=Cap.of 0) (.ask (x.lost=x.lost) (.ask (x.foreign =
  x.foreign) (.ask (0=0) (.ask (C.length=C.length) (.ask (Cap.of 0=Cap.of 0) (.ask (C.length=C.length) (.ask (Kj 2 C.length (fun i=>(QK C i).length) (fun i=>(QK C
  i).length) (fun i j=>QA.enc ((QK C i).getD j ⟨0,0⟩)) fun i j=>QA.enc ((QK C i).getD j ⟨0,0⟩)) (.ask (x.d.ps.n≤x.d.ps.n) (.ask (QC 28 x.d.ps.n (fun i=>QA.enc
  (x.d.ps.get i)) fun i=>QA.enc (x.d.ps.get i)) (.ask (x.scans.n≤x.scans.n) (.ask (QC 28 x.scans.n (fun i=>QA.enc (x.scans.get i)) fun i=>QA.enc (x.scans.get i))
  (.ask (x.hang.n≤x.hang.n) (.ask (QC 4 x.hang.n (fun i=>QA.enc (x.hang.get i)) fun i=>QA.enc (x.hang.get i)) (.asm (True) (.all (fun(g0:Nat→Value) => .leaf (.bool
  false false) ((QLE f' g' has' l many'
  x))))))))))))))))))))))))))))))))))))))))))))))))))))))))))))))))))))))))))))))))))))))))))))))))))))))))))))))))))))))))))))))))))))))))))))))))))))))))))))))))))))))))))))):=by kernel_rfl
abbrev QOj:List Prop:=
  [0=0,f'.length=f'.length,cO=cO,f'.length≤f'.length,QC 2 f'.length (fun i=>QA.enc (f'.getD i ⟨0,0⟩)) fun i=>QA.enc (f'.getD i ⟨0,0⟩),0=0,
  g'.length=g'.length,cO=cO,g'.length≤g'.length,QC 2 g'.length (fun i=>QA.enc (g'.getD i ⟨0,0⟩)) fun i=>QA.enc (g'.getD i ⟨0,0⟩)]
theorem QTl(f' g':List QB):QL 272 [(.bool false false)] ((QLE f' g' has' l many' x)) (Ku (trV x C (QR Try.f25 0).1 (QR Try.f25 0).2 l has many f g has' many' f' g'))=(some ([false=false] ++
  (QEa l)++[Kc (.int true .i64 0) (.int true .i64 0) has' has' (fun i => .int false .i64 (QH l i)) fun i => .int false .i64 (QH l i)]++QOr++(V1 x)++XO ++
  Wv++XO++[(0:Int)=0]++(V1 x)++W4++[many'=many']++(QOj f' g'))):=by kernel_rfl
theorem QX5(f' g':List QB):QL 272 [(.bool true true)] ((QO4 f' g' has' l many' x)) (Ku (trU x C (QR Try.f25 0).1 (QR Try.f25 0).2 l has many f g has' many' f' g'))=(some ([true=true] ++
  (QEa l)++[Kc (.int true .i64 0) (.int true .i64 0) has' has' (fun i => .int false .i64 (QH l i)) fun i => .int false .i64 (QH l i),LoopState.ready=LoopState.ready,
  (none:Option Code)=none,Array.mk [18]=Array.mk [(18:Tmp)],(QR Try.f25 0).1=(QR Try.f25 0).1,(QR Try.f25 0).2=(QR Try.f25 0).2]++(V1 x)++XO
  ++ Wv++XO++[(0:Int)=0]++(V1 x)++W4++[many'=many']++(QOj f' g'))):=by kernel_rfl
noncomputable abbrev VG:Code:=(QR Try.f25 0).1
noncomputable abbrev J9:Code:=(QR Try.f25 0).2
theorem QOl(ac body:Code)(l:List QB)(has:Int→Bool)(many:Int)(f g:List QB)(has':Int→Bool)(many':Int)(f' g':List QB):(trU x C ac body l has many f g has' many' f' g').Ok:=by
 refine⟨(by decide:240≤272),rfl,rfl,?_,rfl,fun _ _=>rfl,fun nid h => ?_⟩
 ·intro q hq;simp only[UC.po,trU,trW,rwL,List.mem_cons,List.not_mem_nil,or_false]at hq;rcases hq with rfl|rfl|rfl|rfl|rfl|rfl|rfl|rfl|rfl<;>refine⟨rfl,rfl,rfl,?_⟩<;>first|exact fun _=>rfl|exact fun h=>absurd (show 272<240 from h) (by decide)|exact fun h=>absurd (show 273<240 from h) (by decide)|exact fun h=>absurd (show 274<240 from h) (by decide)
 ·have e0:=Xw 240 272 0 nid (by decide)
  have e1:=Xw 240 272 1 nid (by decide)
  have e2:=Xw 240 272 2 nid (by decide)
  have l0:=vl (N:=240) (M:=272) (i:=0) (by decide) nid
  have l1:=vl (N:=240) (M:=272) (i:=1) (by decide) nid
  have l2:=vl (N:=240) (M:=272) (i:=2) (by decide) nid
  simp only[UC.po,trU,trW,rwL,W0,trT,JG,Q7.val,List.map_cons,List.map_nil,Blk.mapId,AV.mapId,AV.mapIdL,Nat.add_zero,Nat.zero_add]at e0 e1 e2 l0 l1 l2 ⊢;rw[e0,e1,e2,l0,l1,l2];rfl
theorem QMT(ac body:Code)(l:List QB)(has:Int→Bool)(many:Int)(f g:List QB)(has':Int→Bool)(many':Int)(f' g':List QB):(trV x C ac body l has many f g has' many' f' g').Ok:=by
 refine⟨(by decide:240≤272),rfl,rfl,?_,rfl,fun _ _=>rfl,fun nid h => ?_⟩
 ·intro q hq;simp only[UC.po,trV,trW,rwL,List.mem_cons,List.not_mem_nil,or_false]at hq;rcases hq with rfl|rfl|rfl|rfl|rfl|rfl|rfl|rfl|rfl<;>refine⟨rfl,rfl,rfl,?_⟩<;>first|exact fun _=>rfl|exact fun h=>absurd (show 272<240 from h) (by decide)|exact fun h=>absurd (show 273<240 from h) (by decide)|exact fun h=>absurd (show 274<240 from h) (by decide)
 ·have e0:=Xw 240 272 0 nid (by decide)
  have e1:=Xw 240 272 1 nid (by decide)
  have e2:=Xw 240 272 2 nid (by decide)
  have l0:=vl (N:=240) (M:=272) (i:=0) (by decide) nid
  have l1:=vl (N:=240) (M:=272) (i:=1) (by decide) nid
  have l2:=vl (N:=240) (M:=272) (i:=2) (by decide) nid
  simp only[UC.po,trV,trW,rwL,W0,trT,JG,Q7.val,List.map_cons,List.map_nil,Blk.mapId,AV.mapId,AV.mapIdL,Nat.add_zero,Nat.zero_add]at e0 e1 e2 l0 l1 l2 ⊢;rw[e0,e1,e2,l0,l1,l2];rfl
theorem QYh{x:QE}(hx:JL x)(C:List (List QB))(hpos:0<x.scans.n){l:List QB}(hn:l.length=x.scans.n)(s:TrS)(h:Int→Bool):QP Try.prog 77 (uFC (Y5 x C VG J9 l h s (VF x trY l s h))):=by
 obtain⟨many,f,g⟩:=s;have hs:=hx.s;have hd:=hx.d.n9;have hT:QZ (ZU Qf (clU l)):=KB.add (QLu l (by omega) (by omega))
 have fin:∀(s':TrS),X6 (jf (trU x C VG J9 l h many f g h s'.1 s'.2.1 s'.2.2)) (VY (mkE Try.prog (ZU Qf (clU l))) (msN Try.prog (ZU Qf (clU l))) Try.f77 (trU x C VG J9 l h many f g h s'.1 s'.2.1 s'.2.2))→QP Try.prog 77 (uFC (trU x C VG J9 l h many f g h s'.1 s'.2.1 s'.2.2)):=fun s' hd=>
  Ju (E:=mkE Try.prog (ZU Qf (clU l))) (QT hT) Try.func77 (by kernel_rfl) (by kernel_rfl) (QOl ..) (fun G h1 _=>QA5 _ hT G h1) ⟨hd⟩
 have finV:∀(s':TrS),X6 (jf (trV x C VG J9 l h many f g h s'.1 s'.2.1 s'.2.2)) (VY (mkE Try.prog (ZU Qf (clU l))) (msN Try.prog (ZU Qf (clU l))) Try.f77 (trV x C VG J9 l h many f g h s'.1 s'.2.1 s'.2.2))→QP Try.prog 77 (uFC (trV x C VG J9 l h many f g h s'.1 s'.2.1 s'.2.2)):=fun s' hd=>
  Ju (E:=mkE Try.prog (ZU Qf (clU l))) (QT hT) Try.func77 (by kernel_rfl) (by kernel_rfl) (QMT ..) (fun G h1 _=>QA5 _ hT G h1) ⟨hd⟩
 have he:=QF8 (x:=x) (l:=l) (by omega) (by omega)
 cases hb:YW x l with
 | true=>
  rw[hb]at he;simp only[VF,hb,Y5];refine fin (many,f,g) (Q2 (QGo Qf x C l h many f g) ?_);refine QG (fun _=>QF rfl (QG (fun _ => ?_) (fun q=>Bool.noConfusion (show true=false from he.symm.trans q)))) (fun q=>by rw[hn]at q;simp at q)
  refine⟨rfl,rfl,_,QQ6 x C l h many f g,?_⟩
  repeat' first|with_reducible refine QQ ?_ ?_|exact trivial|with_reducible rfl|exact qlr _|exact qRr|exact QY _ _ _ _|exact JI _ _ _|refine And.intro ?_ ?_
 | false=>
  rw[hb]at he;cases hq:(i64.wrap (many+1)==100)with
  | true=>
   have hend:VF x trY l (many,f,g) h = .stop (i64.wrap (many+1),f,g) h:=by
    have:=eq_of_beq hq;simp only[VF,hb,trY,WJ,WN,this];rfl
   rw[hend];simp only[Y5];refine finV (i64.wrap (many+1),f,g) (Q2 (QGo Qf x C l h many f g) ?_);refine QG (fun _=>QF rfl (QG (fun q=>Bool.noConfusion (show true=false from q.symm.trans he)) (fun _ => ?_))) (fun q=>by rw[hn]at q;simp at q)
   refine QG (fun q=>by rw[eq_of_beq hq]at q;cases q) (fun _=>QG (fun q=>by rw[eq_of_beq hq]at q;cases q) (fun _=>QG (fun _ => ?_) (fun q=>by rw[hq]at q;cases q)))
   refine⟨rfl,rfl,_,QYC x C l h many f g (i64.wrap (many+1)) f g,?_⟩
   repeat' first|with_reducible refine QQ ?_ ?_|exact trivial|with_reducible rfl|exact qlr _|exact qRr|exact QY _ _ _ _|exact JI _ _ _|refine And.intro ?_ ?_
  | false=>
   have hend:VF x trY l (many,f,g) h = .go (i64.wrap (many+1),WJ (i64.wrap (many+1)) l f,WN (i64.wrap (many+1)) l g) h:=by
    simp only[VF,hb,trY,hq];rfl
   rw[hend];simp only[Y5];refine fin (i64.wrap (many+1),WJ (i64.wrap (many+1)) l f,WN (i64.wrap (many+1)) l g) (Q2 (QGo Qf x C l h many f g) ?_);refine QG (fun _=>QF rfl (QG (fun q=>Bool.noConfusion (show true=false from q.symm.trans he)) (fun _ => ?_))) (fun q=>by rw[hn]at q;simp at q)
   refine QG (fun q1=>QF (Ke.2 ?_) (QG (fun q=>by rw[hq]at q;cases q) (fun _ => ?_))) (fun q1=>QG (fun q2=>QF (Ke.2 ?_) (QG (fun q=>by rw[hq]at q;cases q) (fun _ => ?_))) (fun q2=>QG (fun q=>by rw[hq]at q;cases q) (fun _ => ?_)))
   ·repeat' first|with_reducible refine QQ ?_ ?_|exact trivial|with_reducible rfl|exact qlr _|exact qRr|exact QY _ _ _ _|refine And.intro ?_ ?_
   ·refine⟨rfl,rfl,_,QUA x C l h many f g _ _ _,?_⟩;simp only[WJ,WN,q1]
    repeat' first|with_reducible refine QQ ?_ ?_|exact trivial|with_reducible rfl|exact qlr _|exact qRr|exact QY _ _ _ _|exact JI _ _ _|exact rfl|refine And.intro ?_ ?_
   ·repeat' first|with_reducible refine QQ ?_ ?_|exact trivial|with_reducible rfl|exact qlr _|exact qRr|exact QY _ _ _ _|refine And.intro ?_ ?_
   ·refine⟨rfl,rfl,_,QRs x C l h many f g _ _ _,?_⟩;simp only[WJ,WN,q1,q2]
    repeat' first|with_reducible refine QQ ?_ ?_|exact trivial|with_reducible rfl|exact qlr _|exact qRr|exact QY _ _ _ _|exact JI _ _ _|exact rfl|refine And.intro ?_ ?_
   ·refine⟨rfl,rfl,_,QYi x C l h many f g _ _ _,?_⟩;simp only[WJ,WN,q1,q2]
    repeat' first|with_reducible refine QQ ?_ ?_|exact trivial|with_reducible rfl|exact qlr _|exact qRr|exact QY _ _ _ _|exact JI _ _ _|exact rfl|refine And.intro ?_ ?_
theorem QX6{x:QE}(hx:JL x){C:List (List QB)}{ac body:Code}{cs l:List QB}(hl:l.length<1000)(hls:∀ c∈l,JQ c)(hcs:∀ c∈cs,JQ c)(IH:∀ c∈cs,∀ s h,QP Try.prog 77 (uFC (Y5 x C ac body (l++[c]) h s (Vh x C d l s h c))))(t:TrK):(jC Try.prog x C ac body d cs l t).Sound:=by
 unfold jC kPb;split
 ·rename_i hk;have hk:=qdt hk;have hm:=G6 (z:=(⟨0,0⟩:QB)) hk;refine jr ((KB.add (QDM x C _ hx (QFp (by simp) (by simp;omega) ?_))).add (IH _ hm _ _))
  intro c hc;rcases List.mem_append.1 hc with h|h
  ·exact hls c h
  ·rw[List.mem_singleton.1 h];exact hcs _ hm
 ·exact jr ((KB.add (qe (by kernel_rfl) _)).add (qe (by kernel_rfl) _))
theorem QLJ{x:QE}(hx:JL x){C:List (List QB)}(hC:Yh x C){ac body:Code}{l:List QB}(hl:l.length+(d+1)=x.scans.n)(hls:∀ c∈l,JQ c)(IH:∀ c∈QK C l.length,∀ s h,QP Try.prog 77 (uFC (Y5 x C ac body (l++[c]) h s (Vh x C d l s h c))))(s:TrS)(h:Int→Bool){X:List (Prop×Ex×JSt)}(hX:∀ e J,Vs x C ac body d (QK C l.length) l (0,s,h) e J→∃ y∈X,y.1∧y.2.1=e∧y.2.2=J)(G:Ctx)(hrd:G.rd=none)(hG:G.n=272):
  KC (mkE Try.prog Qu) G (trX Try.prog (trJ x C ac body (QK C l.length) l h s.1 s.2.1 s.2.2 0) X) (Qs Try.f77):=by
 have hs:=hx.s;refine Jj (body:=QX Try.f77 0) (QT KB) hrd (by kernel_rfl) ?_
 have hE:=fun t=>QX6 hx (C:=C) (ac:=ac) (body:=body) (d:=d) (cs:=QK C l.length) (l:=l) (by omega) hls (hC.s _) IH t
 refine QCs (E0:=mkE Try.prog Qu) (E:=jC Try.prog x C ac body d (QK C l.length) l) (H:=fun t=>hnd (jC Try.prog x C ac body d (QK C l.length) l t) 0) (n0:=272) (s0:=(0,s,h)) (fun _=>rfl) hE (by omega) (fun t _=>Qy (hE t) 0 G _ hrd) (fun t _=>(by decide:272≤320)) ?_ (QXe x C ac body d (QK C l.length) l (hC.le _) (by omega)) (Nat.zero_le _) hX
 intro t e J hr;unfold Vs at hr;split at hr
 ·rw[hr.2];exact(by decide:272≤320)
 ·rw[hr.2];exact(by decide:272≤320)
theorem QVV{x:QE}(hx:JL x){C:List (List QB)}(hC:Yh x C){l:List QB}(hl:l.length+(d+1)=x.scans.n)(hls:∀ c∈l,JQ c)(IH:∀ c∈QK C l.length,∀ s h,QP Try.prog 77 (uFC (Y5 x C VG J9 (l++[c]) h s (Vh x C d l s h c))))(s:TrS)(h:Int→Bool):QP Try.prog 77 (uFC (Y5 x C VG J9 l h s (onT x C trY (d+1) l s h))):=by
 have hCn:=hC.n;cases he:onT x C trY (d+1) l s h with
 | go s' h'=>
  have hc:Jl (Kl x l (Vh x C d l)) (QK C l.length) s h = .go s' h':=he;refine Ju (E:=mkE Try.prog Qu) (QT KB) Try.func77 (by kernel_rfl) (by kernel_rfl) (QOl ..) (QLJ hx hC hl hls IH s h (X:=[(True,.exit 0,trE x VG J9 l h' s'.1 s'.2.1 s'.2.2)]) ?_) ⟨?_⟩
  ·intro e J hr;unfold Vs at hr;simp only[List.drop_zero,hc]at hr;exact⟨_,List.mem_cons_self,trivial,hr.1.symm,hr.2.symm⟩
  ·refine Q2 (QRA x C (QK C l.length) l h s.1 s.2.1 s.2.2 h' s'.1 s'.2.1 s'.2.2) ?_;refine QG (fun q=>by simp at q;omega) (fun _=>QF (by simp;omega) (QF (by simp;omega) ?_))
   repeat' first|refine Qa (p:=_=_) rfl ?_|refine Qa (p:=_≤_) (qlr _) ?_|refine Qa (p:=QC _ _ _ _) (qRr) ?_|refine Qa (p:=Kj _ _ _ _ _ _) (QY _ _ _ _) ?_|refine Qa (p:=Kc _ _ _ _ _ _) (JI _ _ _) ?_
   refine KJ fun _=>KF fun g=>⟨rfl,rfl,_,QX5 x C l h s.1 s.2.1 s.2.2 h' s'.1 s'.2.1 s'.2.2,?_⟩
   repeat' first|with_reducible refine QQ ?_ ?_|exact trivial|with_reducible rfl|exact qlr _|exact qRr|exact QY _ _ _ _|exact JI _ _ _|refine And.intro ?_ ?_
 | stop s' h'=>
  have hc:Jl (Kl x l (Vh x C d l)) (QK C l.length) s h = .stop s' h':=he;refine Ju (E:=mkE Try.prog Qu) (QT KB) Try.func77 (by kernel_rfl) (by kernel_rfl) (QMT ..) (QLJ hx hC hl hls IH s h (X:=[(True,.ret,trF x VG J9 l h' s'.1 s'.2.1 s'.2.2)]) ?_) ⟨?_⟩
  ·intro e J hr;unfold Vs at hr;simp only[List.drop_zero,hc]at hr;exact⟨_,List.mem_cons_self,trivial,hr.1.symm,hr.2.symm⟩
  ·refine Q2 (QZm x C (QK C l.length) l h s.1 s.2.1 s.2.2 h' s'.1 s'.2.1 s'.2.2) ?_;refine QG (fun q=>by simp at q;omega) (fun _=>QF (by simp;omega) (QF (by simp;omega) ?_))
   repeat' first|refine Qa (p:=_=_) rfl ?_|refine Qa (p:=_≤_) (qlr _) ?_|refine Qa (p:=QC _ _ _ _) (qRr) ?_|refine Qa (p:=Kj _ _ _ _ _ _) (QY _ _ _ _) ?_|refine Qa (p:=Kc _ _ _ _ _ _) (JI _ _ _) ?_
   refine KJ fun _=>KF fun g=>⟨rfl,rfl,_,QTl x C l h s.1 s.2.1 s.2.2 h' s'.1 s'.2.1 s'.2.2,?_⟩
   repeat' first|with_reducible refine QQ ?_ ?_|exact trivial|with_reducible rfl|exact qlr _|exact qRr|exact QY _ _ _ _|exact JI _ _ _|refine And.intro ?_ ?_
theorem QJs{x:QE}(hx:JL x){C:List (List QB)}(hC:Yh x C)(hpos:0<x.scans.n):∀(d:Nat) (l:List QB) (s:TrS) (h:Int→Bool),l.length+d=x.scans.n→(∀ c∈l,JQ c)→QP Try.prog 77 (uFC (Y5 x C VG J9 l h s (onT x C trY d l s h)))
 | 0,l,s,h,hn,_=>QYh hx C hpos (by omega) s h
 | d+1,l,s,h,hn,hl=>QVV hx hC (by omega) hl (fun c hc s h=>QJs hx hC hpos d (l++[c]) s h (by simp;omega) (fun y hy=>by
   rcases List.mem_append.1 hy with q|q
   ·exact hl y q
   ·rw[List.mem_singleton.1 q];exact hC.s _ c hc)) s h
end Go.Proofs.Ytbpffdkemeoajaa
