/- - -/
import Derived.Test.YtbpffdkemeoajaaMozb
open Go.IntKind (i64)
set_option maxRecDepth 100000
namespace Go.Proofs.Ytbpffdkemeoajaa
open Go.SX
def QTV(b:Nat)(f:List QC)(moved turned:Int):List (Nat×Blk):=[(120,.cells 0 38 [.slz b 0 f.length (.of 0)]),rwL b f,(112,.cells 0 92 [.int false .i64 moved]),(104,.cells 0 92 [.int false .i64 turned])]
def WK(f:List QC)(moved turned:Int)(k:Nat):JSt:=⟨53,[(6,.ptr 104 0 0),(7,.ptr 112 0 0),(8,.ptr 120 0 0),(29,.int false .i64 f.length),(30,.int false .i64 k)],QTV 464 f moved turned,472⟩
def QC5(f:List QC):JSt:=⟨53,[(8,.ptr 120 0 0)],[(120,.cells 0 38 [.slz 464 0 f.length (.of 0)]),rwL 464 f],472⟩
def QIH:Ex→List Nat
 | .normal=>[6,7,8,29,30]
 | .exit _=>[8]
 | .ret=>[]
def qM(f:List QC)(e:Int):AV := .tup [.slz 0 0 f.length (.of 0),.int false .i64 e]
noncomputable abbrev Hc(f:List QC)(k:Nat):List AV:=
  [.nilp,.ptr 53 0 0,.ptr 104 0 0,.ptr 112 0 0,.ptr 120 0 0,vi (f.length:Int),vi (i64.wrap ((k:Int)+1))]
variable (pb:List Prop→Bool)(f:Nat→Int)(x:QB)(e:Int)(n k:Nat)(moved turned:Int)(k':Nat)
noncomputable abbrev Hk:Nat×Blk:=
  (104,.cells 0 92 [vi turned])
noncomputable abbrev HV:Nat×Blk:=
  (112,.cells 0 92 [vi moved])
noncomputable abbrev vg(f:List QC):Nat×Blk:=
  (120,.cells 0 38 [.slz 464 0 f.length cO])
noncomputable abbrev H3:List AV:=
  [vj (-1),vj 0]
noncomputable abbrev QFv(f:List QC)(k:Nat)(moved:Int)(turned:Int):List (Nat×Blk):=
  [(Hk turned),(HV moved),(vg f),(464,.rowz true 56 [.int .i64,.int .i64] f.length fun i=>bif decide (i=k)then Qy H3 0 (bif decide (k=k)then Qy [.int true
  .i64 0] 1 (QA.enc (f.getD k ⟨0,0⟩))else QA.enc (f.getD k ⟨0,0⟩))else bif decide (i=k)then Qy [vj 0] 1 (QA.enc (f.getD k ⟨0,0⟩))else QA.enc (f.getD i
  ⟨0,0⟩))]
noncomputable abbrev QI3(f:List QC)(k:Nat)(moved:Int)(turned:Int):List (Nat×Blk):=
  [(Hk turned),(HV moved),(vg f),(464,.rowz true 56 [.int .i64,.int .i64] f.length fun i=>bif decide (i=k)then Qy H3 0 (QA.enc (f.getD k ⟨0,0⟩))else QA.enc
  (f.getD i ⟨0,0⟩))]
theorem QRZ(f:List QC)(moved turned:Int)(k:Nat)(g:Nat→Value):exec (mkE Try.prog Qu) (hnd (mkE Try.prog Qu) 3) (QV Try.f33 0) (JSt.inst (WK f moved turned k) g) (KH [] QIH) = .br (decide ((k:Int)<(f.length:Int)))
  (.need (decide ((0:Int)≤(k:Int))) (.br (i64.wrap (↑(BitVec.ofInt 64 (turned.fdiv ((2:Int)^min k 64)) &&& BitVec.ofInt 64 (1:Int)).toNat:Int)==1) (.need
  (decide ((0:Int)≤(k:Int)∧(k:Int)<(f.length:Int))&&decide (f.length≤f.length)) (.need (decide (k<f.length)) (.need (decide ((0:Int)≤(k:Int))) (.br
  (i64.wrap (↑(BitVec.ofInt 64 (moved.fdiv ((2:Int)^min k 64)) &&& BitVec.ofInt 64 (1:Int)).toNat:Int)==1) (.need (decide ((0:Int)≤(k:Int)∧(k:Int) <
  (f.length:Int))&&decide (f.length≤f.length)) (.need (decide (k<f.length)) (.leaf (.tup (Hc f k)) ((QFv f k moved turned))))) (.leaf (.tup (Hc f k)) ([(Hk turned),
  (HV moved),(vg f),(464,.rowz true 56 [.int .i64,.int .i64] f.length fun i=>bif decide (i=k)then Qy [vj 0] 1 (QA.enc (f.getD k ⟨0,0⟩))else QA.enc
  (f.getD i ⟨0,0⟩))])))))) (.need (decide ((0:Int)≤(k:Int))) (.br (i64.wrap (↑(BitVec.ofInt 64 (moved.fdiv ((2:Int)^min k 64)) &&& BitVec.ofInt 64 (1:Int)).toNat
  : Int)==1) (.need (decide ((0:Int)≤(k:Int)∧(k:Int)<(f.length:Int))&&decide (f.length≤f.length)) (.need (decide (k<f.length)) (.leaf (.tup (Hc f k)) ((QI3 f
  k moved turned))))) (.leaf (.tup (Hc f k)) ([(Hk turned),(HV moved),(vg f),(464,.rowz true 56 [.int .i64,.int .i64] f.length fun i=>QA.enc (f.getD i ⟨0,0⟩))]))))))
  (.leaf (.tup [.ptr 0 0 0,.ptr 53 0 0,.ptr 120 0 0]) ([(vg f),(464,.rowz true 56 [.int .i64,.int .i64] f.length fun i=>QA.enc (f.getD i ⟨0,0⟩))])):=by kernel_rfl
theorem QVX:Ka (mkE Try.prog (Jl pb (opE x e))) (hnd (mkE Try.prog (Jl pb (opE x e))) 1) Try.f33 (QY.vals 0 ((x,()):QB×Unit)) (QY.blks 0 ((x,()):QB×Unit)) 8 =
  QD.need (pb ([x.d.play.length = x.d.play.length, x.d.play.slack = x.d.play.slack, x.d.play.loose = x.d.play.loose, x.d.play.damp.lo = x.d.play.damp.lo, x.d.play.damp.hi = x.d.play.damp.hi, x.d.wide = x.d.wide, x.d.high = x.d.high, x.d.turn = x.d.turn, (0 : Nat) = (0 : Nat), x.d.ps.n = x.d.ps.n, Cap.of (0 : Nat) = Cap.of (0 : Nat), (0 : Nat) = (0 : Nat), x.scans.n = x.scans.n, Cap.of (0 : Nat) = Cap.of (0 : Nat), (0 : Nat) = (0 : Nat), x.hang.n = x.hang.n, Cap.of (0 : Nat) = Cap.of (0 : Nat), x.lost = x.lost, x.foreign = x.foreign, x.d.ps.n ≤ x.d.ps.n, QE (28 : Nat) x.d.ps.n (fun i => QA.enc (x.d.ps.get i)) fun i => QA.enc (x.d.ps.get i), x.scans.n ≤ x.scans.n, QE (28 : Nat) x.scans.n (fun i => QA.enc (x.scans.get i)) fun i => QA.enc (x.scans.get i), x.hang.n ≤ x.hang.n, QE (4 : Nat) x.hang.n (fun i => QA.enc (x.hang.get i)) fun i => QA.enc (x.hang.get i)])) (QD.br (e != (0 : Int)) (QD.leaf (AV.tup [AV.nils, AV.int false i64 e]) ([])) (QD.fail ("a call without a contract"))) := by kernel_rfl
theorem QVR(d:Puz)(s:Nat→QK)(hang:Rw Jn)(lo fo:Int):Ka (mkE Try.prog (Jl pb (opO ⟨d,⟨0,s⟩,hang,lo,fo⟩ []))) (hnd (mkE Try.prog (Jl pb (opO ⟨d,⟨0,s⟩,hang,lo,fo⟩ []))) 8) Try.f33 (QY.vals 0 ((⟨d,⟨0,s⟩,hang,lo,fo⟩,()):QB×Unit)) (QY.blks 0 ((⟨d,⟨0,s⟩,hang,lo,fo⟩,()):QB×Unit)) 8 =
  QD.need (pb ([d.play.length = d.play.length, d.play.slack = d.play.slack, d.play.loose = d.play.loose, d.play.damp.lo = d.play.damp.lo, d.play.damp.hi = d.play.damp.hi, d.wide = d.wide, d.high = d.high, d.turn = d.turn, (0 : Nat) = (0 : Nat), d.ps.n = d.ps.n, Cap.of (0 : Nat) = Cap.of (0 : Nat), (0 : Nat) = (0 : Nat), (0 : Nat) = (0 : Nat), Cap.of (0 : Nat) = Cap.of (0 : Nat), (0 : Nat) = (0 : Nat), hang.n = hang.n, Cap.of (0 : Nat) = Cap.of (0 : Nat), lo = lo, fo = fo, d.ps.n ≤ d.ps.n, QE (28 : Nat) d.ps.n (fun i => QA.enc (d.ps.get i)) fun i => QA.enc (d.ps.get i), (0 : Nat) ≤ (0 : Nat), QE (28 : Nat) (0 : Nat) (fun i => QA.enc ((Rw.mk (0 : Nat) s).get i)) fun i => QA.enc ((Rw.mk (0 : Nat) s).get i), hang.n ≤ hang.n, QE (4 : Nat) hang.n (fun i => QA.enc (hang.get i)) fun i => QA.enc (hang.get i)])) (QD.br (true) (QD.br (decide (i64.wrap ((↑d.ps.n : Int) - (0 : Int)) > lo)) (QD.leaf (AV.tup [AV.nils, AV.int true i64 (6 : Int)]) ([])) (QD.leaf (AV.tup [AV.nils, AV.int true i64 (0 : Int)]) ([]))) (QD.need (false) (QD.fail ("scan.go:188")))) := by kernel_rfl
def zE(C:List (List QC))(U:UC):Tab:=Qh (Jl pb (opO x C)) 77 (J1 pb U)
abbrev QDz(P:Program)(T:Tab)(f f2:List QC)(moved turned:Int):Hnd:={ hnd (mkE P T) 8 with loop:=fun _=>KD 8 [] (WK f moved turned (0:Nat)) [(True,.exit 0,QC5 f2)] }
theorem QTn(C:List (List QC))(has':Int→Bool)(many' n':Int)(f':List QC)(moved' turned':Int)(f2:List QC):Ka (mkE Try.prog (zE pb x C (tdU x C (Qj Try.f53 0).1 (Qj Try.f53 0).2 [] noH 0 0 [] 0 0 has' many' n' f' moved' turned'))) (QDz Try.prog (zE pb x C (tdU x C
  (Qj Try.f53 0).1 (Qj Try.f53 0).2 [] noH 0 0 [] 0 0 has' many' n' f' moved' turned')) f' f2 moved' turned') Try.f33 (QY.vals 0 ((x,()):QB×Unit)) (QY.blks 0 ((x,
  ()):QB×Unit)) 8 = .need (pb ([x.d.play.length=x.d.play.length,x.d.play.slack=x.d.play.slack,x.d.play.loose=x.d.play.loose,x.d.play.damp.lo=x.d.play.damp.lo,
  x.d.play.damp.hi=x.d.play.damp.hi,x.d.wide=x.d.wide,x.d.high=x.d.high,x.d.turn=x.d.turn,0=0,x.d.ps.n=x.d.ps.n,cO=cO,0=0,x.scans.n=x.scans.n,
  cO=cO,0=0,x.hang.n=x.hang.n,cO=cO,x.lost=x.lost,x.foreign=x.foreign,x.d.ps.n≤x.d.ps.n,QE 28 x.d.ps.n (fun i=>QA.enc (x.d.ps.get
  i)) fun i=>QA.enc (x.d.ps.get i),x.scans.n≤x.scans.n,QE 28 x.scans.n (fun i=>QA.enc (x.scans.get i)) fun i=>QA.enc (x.scans.get i),x.hang.n≤x.hang.n,QE 4
  x.hang.n (fun i=>QA.enc (x.hang.get i)) fun i=>QA.enc (x.hang.get i)])) (.need (pb ([0=0,0=0,0=0,0=0,0=0,0=0,0=0,0=0,0=0,0=0,0=0,0=0,([]
  : List MapEntry)=[],zu (.int true .i64 0) noH fun i => .int false .i64 (QP [] i),LoopState.ready=LoopState.ready,(none:Option Code)=none,Array.mk [12]=Array.mk
  [12],(Qj Try.f53 0).1=(Qj Try.f53 0).1,(Qj Try.f53 0).2=(Qj Try.f53 0).2,0=0,0=0,(0:Int)=0,Fn.func 62=Fn.func 62,0=0,0=0,0=0,0=0,0 =
  0,0=0,0=0,0=0,0=0,0=0,(0:Int)=0,false=false,0=0,0=0,0=0,0=0,Fn.func 76=Fn.func 76,0=0,0=0,(0:Int)=0,(0:Int)=0,0=0,0=0,(0
  : Int)=0,(0:Int)=0,Fn.func 77=Fn.func 77,0=0,0=0,0=0,0=0,0=0,0=0,0=0,0=0,0=0,0=0,0=0,0=0,Fn.func 62=Fn.func 62,0=0,0=0,0=0,
  0=0,0=0,0=0,x.d.play.length=x.d.play.length,x.d.play.slack=x.d.play.slack,x.d.play.loose=x.d.play.loose,x.d.play.damp.lo=x.d.play.damp.lo,x.d.play.damp.hi =
  x.d.play.damp.hi,x.d.wide=x.d.wide,x.d.high=x.d.high,x.d.turn=x.d.turn,0=0,x.d.ps.n=x.d.ps.n,cO=cO,0=0,x.scans.n=x.scans.n,cO=cO,
  0=0,x.hang.n=x.hang.n,cO=cO,x.lost=x.lost,x.foreign=x.foreign,0=0,C.length=C.length,cO=cO,C.length=C.length,Kv 2 C.length
  (fun i=>(QN C i).length) (fun i=>(QN C i).length) (fun i j=>QA.enc ((QN C i).getD j ⟨0,0⟩)) fun i j=>QA.enc ((QN C i).getD j ⟨0,0⟩),x.d.ps.n≤x.d.ps.n,
  QE 28 x.d.ps.n (fun i=>QA.enc (x.d.ps.get i)) fun i=>QA.enc (x.d.ps.get i),x.scans.n≤x.scans.n,QE 28 x.scans.n (fun i=>QA.enc (x.scans.get i)) fun i=>
  QA.enc (x.scans.get i),x.hang.n≤x.hang.n,QE 4 x.hang.n (fun i=>QA.enc (x.hang.get i)) fun i=>QA.enc (x.hang.get i)])) (.br (!decide (many'>0)) (.leaf (.tup
  [.nils,vj 6]) ([])) (.ask (0=0) (.ask (0=0) (.ask (0=0) (.ask (0=0) (.ask (0=0) (.ask (0=0) (.ask ((f'.length:Int)=(f'.length:Int)) (.ask ((0:Int) =
  0) (.ask (0=0) (.ask (f'.length=f'.length) (.ask (cO=cO) (.ask (f'.length≤f'.length) (.ask (QE 2 f'.length (fun i=>QA.enc (f'.getD i ⟨0,0⟩)) fun i=>
  QA.enc (f'.getD i ⟨0,0⟩)) (.ask (moved'=moved') (.ask (turned'=turned') (.asm (True) (.all (fun(g0:Nat→Value) => .leaf (.tup [.slz 464 0 f2.length cO,.int true
  .i64 0]) ([(464,.rowz true 56 [.int .i64,.int .i64] f2.length fun i=>QA.enc (f2.getD i ⟨0,0⟩))]))))))))))))))))))))):=by kernel_rfl
noncomputable abbrev QGG(f:List QC)(k:Nat):List AV:=
  [.ptr 104 0 0,.ptr 112 0 0,.ptr 120 0 0,vi (f.length:Int),vi (i64.wrap ((k:Int)+1))]
abbrev QHr:List Prop:=
  [0=0,0=0,0=0,0=0]
abbrev QK7(f:List QC)(f':List QC)(k:Nat)(k':Nat):List Prop:=
  [0=0,0=0,(f.length:Int)=(f'.length:Int),i64.wrap ((k:Int)+1)=(k':Int),0=0,f.length=f'.length,cO=cO,f'.length≤f.length]
theorem QN0(f f':List QC)(moved turned:Int)(k k':Nat):QM 8 (QGG f k) ((QFv f k moved turned)) (WK f' moved turned k')=(some (QHr++(QK7 f f' k k')++[QE 2 f'.length (fun i=>bif decide (i=k)then Qy H3 0 (bif
  decide (k=k)then Qy [vj 0] 1 (QA.enc (f.getD k ⟨0,0⟩))else QA.enc (f.getD k ⟨0,0⟩))else bif decide (i=k)then Qy [vj 0] 1 (QA.enc (f.getD
  k ⟨0,0⟩))else QA.enc (f.getD i ⟨0,0⟩)) fun i=>QA.enc (f'.getD i ⟨0,0⟩),moved=moved,turned=turned])):=by kernel_rfl
theorem QVN(f f':List QC)(moved turned:Int)(k k':Nat):QM 8 [AV.ptr (104:Nat) (0:Nat) (0:Nat),AV.ptr (112:Nat) (0:Nat) (0:Nat),AV.ptr (120:Nat) (0:Nat) (0:Nat),AV.int false i64 (↑f.length:Int),AV.int false i64 (i64.wrap ((↑k:Int)+(1:Int)))] ([((104:Nat),Blk.cells (0:Nat) (92:Nat) [AV.int false i64 turned]),((112:Nat),Blk.cells (0:Nat) (92:Nat) [AV.int false i64 moved]),((120:Nat),Blk.cells (0:Nat) (38:Nat) [AV.slz (464:Nat) (0:Nat) f.length (Cap.of (0:Nat))]),((464:Nat),Blk.rowz true (56:Nat) [CK.int i64,CK.int i64] f.length fun i=>bif decide (i=k)then Qy [AV.int true i64 (0:Int)] (1:Nat) (QA.enc (f.getD k (QC.mk (0:Int) (0:Int))))else QA.enc (f.getD i (QC.mk (0:Int) (0:Int))))]) (WK f' moved turned k')=(
  some [(0:Nat)=(0:Nat),(0:Nat)=(0:Nat),(0:Nat)=(0:Nat),(0:Nat)=(0:Nat),(0:Nat)=(0:Nat),(0:Nat)=(0:Nat),(↑f.length:Int)=(↑f'.length :
  Int),i64.wrap ((↑k:Int)+(1:Int))=(↑k':Int),(0:Nat)=(0:Nat),f.length=f'.length,Cap.of (0:Nat)=Cap.of (0:Nat),f'.length≤f.length,QE (2 :
  Nat) f'.length (fun i=>bif decide (i=k)then Qy [AV.int true i64 (0:Int)] (1:Nat) (QA.enc (f.getD k (QC.mk (0:Int) (0:Int))))else QA.enc (f.getD i
  (QC.mk (0:Int) (0:Int)))) fun i=>QA.enc (f'.getD i (QC.mk (0:Int) (0:Int))),moved=moved,turned=turned]):=by kernel_rfl
theorem QQh(f f':List QC)(moved turned:Int)(k k':Nat):QM 8 (QGG f k) ((QI3 f k moved turned)) (WK f' moved turned k')=(some (QHr++(QK7 f f' k k')++[QE 2 f'.length (fun i=>bif decide (i=k)then Qy H3 0
  (QA.enc (f.getD k ⟨0,0⟩))else QA.enc (f.getD i ⟨0,0⟩)) fun i=>QA.enc (f'.getD i ⟨0,0⟩),moved=moved,turned=turned])):=by kernel_rfl
theorem QP9(f f':List QC)(moved turned:Int)(k k':Nat):QM 8 [AV.ptr (104:Nat) (0:Nat) (0:Nat),AV.ptr (112:Nat) (0:Nat) (0:Nat),AV.ptr (120:Nat) (0:Nat) (0:Nat),AV.int false i64 (↑f.length:Int),AV.int false i64 (i64.wrap ((↑k:Int)+(1:Int)))] ([((104:Nat),Blk.cells (0:Nat) (92:Nat) [AV.int false i64 turned]),((112:Nat),Blk.cells (0:Nat) (92:Nat) [AV.int false i64 moved]),((120:Nat),Blk.cells (0:Nat) (38:Nat) [AV.slz (464:Nat) (0:Nat) f.length (Cap.of (0:Nat))]),((464:Nat),Blk.rowz true (56:Nat) [CK.int i64,CK.int i64] f.length fun i=>QA.enc (f.getD i (QC.mk (0:Int) (0:Int))))]) (WK f' moved turned k')=(
  some [(0:Nat)=(0:Nat),(0:Nat)=(0:Nat),(0:Nat)=(0:Nat),(0:Nat)=(0:Nat),(0:Nat)=(0:Nat),(0:Nat)=(0:Nat),(↑f.length:Int)=(↑f'.length :
  Int),i64.wrap ((↑k:Int)+(1:Int))=(↑k':Int),(0:Nat)=(0:Nat),f.length=f'.length,Cap.of (0:Nat)=Cap.of (0:Nat),f'.length≤f.length,QE (2 :
  Nat) f'.length (fun i=>QA.enc (f.getD i (QC.mk (0:Int) (0:Int)))) fun i=>QA.enc (f'.getD i (QC.mk (0:Int) (0:Int))),moved=moved,turned=turned]):=by kernel_rfl
theorem QRR(f f':List QC):QM 8 [AV.ptr (120:Nat) (0:Nat) (0:Nat)] ([((120:Nat),Blk.cells (0:Nat) (38:Nat) [AV.slz (464:Nat) (0:Nat) f.length (Cap.of (0:Nat))]),((464:Nat),Blk.rowz true (56:Nat) [CK.int i64,CK.int i64] f.length fun i=>QA.enc (f.getD i (QC.mk (0:Int) (0:Int))))]) (QC5 f')=(
  some [(0:Nat)=(0:Nat),(0:Nat)=(0:Nat),(0:Nat)=(0:Nat),f.length=f'.length,Cap.of (0:Nat)=Cap.of (0:Nat),f'.length≤f.length,QE (2:Nat)
  f'.length (fun i=>QA.enc (f.getD i (QC.mk (0:Int) (0:Int)))) fun i=>QA.enc (f'.getD i (QC.mk (0:Int) (0:Int)))]):=by kernel_rfl
theorem QRu(f:List QC)(e':Int):QM 8 [(AV.tup [AV.nils,AV.int false i64 e])] ([]) (Kr 8 (qM f e') [KQ 56 0 f ⟨0,0⟩])=(
  some [f.length=(0:Nat),e=e',f.length=(0:Nat)]):=by kernel_rfl
theorem QTd(f:List QC)(e':Int):QM 8 [(AV.tup [AV.nils,AV.int true i64 (6:Int)])] ([]) (Kr 8 (qM f e') [KQ 56 0 f ⟨0,0⟩])=(
  some [f.length=(0:Nat),(6:Int)=e',f.length=(0:Nat)]):=by kernel_rfl
theorem QPL(f:List QC)(e':Int):QM 8 [(AV.tup [AV.nils,AV.int true i64 (0:Int)])] ([]) (Kr 8 (qM f e') [KQ 56 0 f ⟨0,0⟩])=(
  some [f.length=(0:Nat),(0:Int)=e',f.length=(0:Nat)]):=by kernel_rfl
theorem QRc(f:List QC)(e':Int):QM 8 [(AV.tup [AV.nils,AV.int true i64 (6:Int)])] ([]) (Kr 8 (qM f e') [KQ 56 0 f ⟨0,0⟩])=(
  some [f.length=(0:Nat),(6:Int)=e',f.length=(0:Nat)]):=by kernel_rfl
theorem QTi(f2:List QC)(f:List QC)(e':Int):QM 8 [(AV.tup [AV.slz (464:Nat) (0:Nat) f2.length (Cap.of (0:Nat)),AV.int true i64 (0:Int)])] ([((464:Nat),Blk.rowz true (56:Nat) [CK.int i64,CK.int i64] f2.length fun i=>QA.enc (f2.getD i (QC.mk (0:Int) (0:Int))))]) (Kr 8 (qM f e') [KQ 56 0 f ⟨0,0⟩])=(
  some [(0:Nat)=(0:Nat),f2.length=f.length,Cap.of (0:Nat)=Cap.of (0:Nat),(0:Int)=e',f.length≤f2.length,QE (2:Nat) f.length (fun i=>QA.enc (f2.getD i
  (QC.mk (0:Int) (0:Int)))) fun i=>QA.enc (f.getD i (QC.mk (0:Int) (0:Int)))]):=by kernel_rfl
def bitV(s:Int)(k:Nat):Bool:=i64.wrap (((BitVec.ofInt 64 (s.fdiv (2^min k 64)) &&& BitVec.ofInt 64 1).toNat:Nat):Int)==1
def XB(m t:Int)(k:Nat)(c:QC):QC:=match bitV m k with
 | true=>⟨-1,0⟩
 | false=>match bitV t k with
  | true=>⟨c.cell,0⟩
  | false=>c
def KZ(f:List QC)(m t:Int):Nat→List QC
 | 0=>f
 | k+1=>(KZ f m t k).set k (XB m t k ((KZ f m t k).getD k ⟨0,0⟩))
theorem Wk(f:List QC)(m t:Int):∀ k,(KZ f m t k).length=f.length
 | 0=>rfl
 | k+1=>by rw[KZ,List.length_set];exact Wk f m t k
theorem QAK{L:List QC}{k:Nat}(h:k<L.length){c:QC}(G:Nat→Nat→Int)(h1:∀ i,i≠k→eqF 2 0 (G i) (QA.enc (L.getD i ⟨0,0⟩)))(h2:eqF 2 0 (G k) (QA.enc c)):QE 2 (L.set k c).length G (fun i=>QA.enc ((L.set k c).getD i ⟨0,0⟩)):=by
 intro i hi;show eqF 2 0 (G i) (QA.enc ((L.set k c).getD i ⟨0,0⟩))
 by_cases e:i=k
 ·subst e;rw[List.getD_eq_getElem?_getD,List.getElem?_set_self h];exact h2
 ·rw[List.getD_eq_getElem?_getD,List.getElem?_set_ne (fun q=>e q.symm),←List.getD_eq_getElem?_getD];exact h1 i e
theorem QQf(f:List QC)(moved turned:Int)(hf:f.length≤1000):Kz (fun k=>WK (KZ f moved turned k) moved turned k) (fun k=>k≤f.length) (fun k=>f.length-k) (fun _ e J=>e = .exit 0∧J=QC5 (KZ f moved turned f.length)) 8 QIH [] (mkE Try.prog Qu) (fun _=>hnd (mkE Try.prog Qu) 3) (QV Try.f33 0):=by
 refine⟨fun k g hk=>Q5 (QRZ (KZ f moved turned k) moved turned k g) ?_⟩;have hl:=Wk f moved turned k;have hl2:=Wk f moved turned (k+1);refine QI (fun h => ?_) (fun h => ?_)
 ·have h:k<f.length:=by have:=qdt h;rw[hl]at this;omega
  have hw:=Ks h hf;refine QG (by simp) (QI (fun ht=>QG (by rw[hl];simp;omega) (QG (by rw[hl];simp;omega) (QG (by simp) (QI (fun hm=>QG (by rw[hl];simp;omega) (QG (by rw[hl];simp;omega) ?_)) (fun hm => ?_))))) (fun ht=>QG (by simp) (QI (fun hm=>QG (by rw[hl];simp;omega) (QG (by rw[hl];simp;omega) ?_)) (fun hm => ?_))))
  ·refine⟨k+1,h,by show f.length-(k+1)<f.length-k;omega,fun _ _ h=>h,rfl,rfl,_,QN0 (KZ f moved turned k) (KZ f moved turned (k+1)) moved turned k (k+1),?_⟩
   have e1:XB moved turned k ((KZ f moved turned k).getD k ⟨0,0⟩)=⟨-1,0⟩:=by simp only[XB,bitV,ht,hm]
   repeat' first|with_reducible refine QR ?_ ?_|exact trivial|with_reducible rfl|exact qlr _|exact qRr|exact Qo _ _ _ _|exact hw|exact hl.trans hl2.symm|exact hl2.trans hl.symm|exact congrArg (fun n:Nat=>(n:Int)) (hl.trans hl2.symm)|exact hl2.symm|exact Nat.le_of_eq (hl2.trans hl.symm)|exact QAK (by rw[hl];exact h) _ (fun i hi=>by simp only[decide_eq_false hi,cond_false];exact YB _ _ _) (by rw[e1];simp only[decide_true,cond_true];exact⟨rfl,rfl,trivial⟩)|refine And.intro ?_ ?_
  ·refine⟨k+1,h,by show f.length-(k+1)<f.length-k;omega,fun _ _ h=>h,rfl,rfl,_,QVN (KZ f moved turned k) (KZ f moved turned (k+1)) moved turned k (k+1),?_⟩
   have e1:XB moved turned k ((KZ f moved turned k).getD k ⟨0,0⟩)=⟨((KZ f moved turned k).getD k ⟨0,0⟩).cell,0⟩:=by simp only[XB,bitV,ht,hm]
   repeat' first|with_reducible refine QR ?_ ?_|exact trivial|with_reducible rfl|exact qlr _|exact qRr|exact Qo _ _ _ _|exact hw|exact hl.trans hl2.symm|exact hl2.trans hl.symm|exact congrArg (fun n:Nat=>(n:Int)) (hl.trans hl2.symm)|exact hl2.symm|exact Nat.le_of_eq (hl2.trans hl.symm)|exact QAK (by rw[hl];exact h) _ (fun i hi=>by simp only[decide_eq_false hi,cond_false];exact YB _ _ _) (by rw[e1];simp only[decide_true,cond_true];exact⟨rfl,rfl,trivial⟩)|refine And.intro ?_ ?_
  ·refine⟨k+1,h,by show f.length-(k+1)<f.length-k;omega,fun _ _ h=>h,rfl,rfl,_,QQh (KZ f moved turned k) (KZ f moved turned (k+1)) moved turned k (k+1),?_⟩
   have e1:XB moved turned k ((KZ f moved turned k).getD k ⟨0,0⟩)=⟨-1,0⟩:=by simp only[XB,bitV,ht,hm]
   repeat' first|with_reducible refine QR ?_ ?_|exact trivial|with_reducible rfl|exact qlr _|exact qRr|exact Qo _ _ _ _|exact hw|exact hl.trans hl2.symm|exact hl2.trans hl.symm|exact congrArg (fun n:Nat=>(n:Int)) (hl.trans hl2.symm)|exact hl2.symm|exact Nat.le_of_eq (hl2.trans hl.symm)|exact QAK (by rw[hl];exact h) _ (fun i hi=>by simp only[decide_eq_false hi,cond_false];exact YB _ _ _) (by rw[e1];simp only[decide_true,cond_true];exact⟨rfl,rfl,trivial⟩)|refine And.intro ?_ ?_
  ·refine⟨k+1,h,by show f.length-(k+1)<f.length-k;omega,fun _ _ h=>h,rfl,rfl,_,QP9 (KZ f moved turned k) (KZ f moved turned (k+1)) moved turned k (k+1),?_⟩
   have e1:XB moved turned k ((KZ f moved turned k).getD k ⟨0,0⟩)=(KZ f moved turned k).getD k ⟨0,0⟩:=by simp only[XB,bitV,ht,hm]
   repeat' first|with_reducible refine QR ?_ ?_|exact trivial|with_reducible rfl|exact qlr _|exact qRr|exact Qo _ _ _ _|exact hw|exact hl.trans hl2.symm|exact hl2.trans hl.symm|exact congrArg (fun n:Nat=>(n:Int)) (hl.trans hl2.symm)|exact hl2.symm|exact Nat.le_of_eq (hl2.trans hl.symm)|exact QAK (by rw[hl];exact h) _ (fun i hi=>YB _ _ _) (by rw[e1];exact YB _ _ _)|refine And.intro ?_ ?_
 ·have:k=f.length:=by have:=of_decide_eq_false h;rw[hl]at this;omega
  subst this;refine⟨_,⟨rfl,rfl⟩,rfl,rfl,_,QRR (KZ f moved turned f.length) (KZ f moved turned f.length),?_⟩
  repeat' first|with_reducible refine QR ?_ ?_|exact trivial|with_reducible rfl|exact qlr _|exact qRr|exact Qo _ _ _ _|refine And.intro ?_ ?_
theorem QVI{T:Tab}(hT:QW T)(f:List QC)(moved turned:Int)(hf:f.length≤1000)(G:Ctx)(hrd:G.rd=none)(hG:G.n=8):Q9 (mkE Try.prog T) G (QDz Try.prog T f (KZ f moved turned f.length) moved turned) (Qr Try.f33):=by
 refine JM (body:=QV Try.f33 0) (QT hT) hrd (by kernel_rfl) ?_
 refine ZM (E:=mkE Try.prog Qu) rfl (JE (n0:=8) (QT KL) (by omega) (fun s hs=>Q0 (QT KL) 3 G _ hrd) (fun s hs=>(by decide:8≤472)) ?_ (QQf f moved turned hf) (s0:=0) (Nat.zero_le _) ?_)
 ·rintro s e J ⟨_,rfl⟩;exact(by decide:8≤472)
 ·rintro e J ⟨rfl,rfl⟩;exact⟨_,List.mem_cons_self,trivial,rfl,rfl⟩
def tdS:Res TdS:=onT x (Qz x x.scans.n) tdY x.scans.n [] (0,0,[],0,0) noH
def QL:List QC×Int:=match x.ok with
 | false=>([],1)
 | true=>match K4 x with
  | true=>([],11)
  | false=>match tdS x with
   | .stop s _ | .go s _=>match decide (s.1>0)with
    | false=>([],6)
    | true=>(KZ s.2.2.1 s.2.2.2.1 s.2.2.2.2 s.2.2.1.length,0)
def Vg:WF (QB×Unit):=fun|(x,_)=>(decide (x.d.ps.n≤1000∧x.scans.n≤1000∧x.hang.n≤1000),qM (QL x).1 (QL x).2,[KQ 56 0 (QL x).1 ⟨0,0⟩])
def QG2:FC:=wFC Vg
theorem QCb:WOk (Vg (x,())).2.1 (Vg (x,())).2.2:=⟨rfl,by simp[Vg,KQ,Blk.own,Blk.all],rfl⟩
theorem QEy(ht:QQ Try.prog 49 (uFC (opE x e)))(he:e≠0)(hv:QL x=([],e)):QQ Try.prog 33 (wFC (Vl Vg (x,()))):=by
 have hT:QW (Jl Qt (opE x e)):=KL.add ht;refine qm (c:=Qr Try.f33) (E:=mkE Try.prog (Jl Qt (opE x e))) (H:=hnd (mkE Try.prog (Jl Qt (opE x e))) 1) (QT hT) Try.func33 (by kernel_rfl) (by kernel_rfl) (N:=8) (by decide) (x,()) (fun G h1 _=>Q0 (QT hT) 1 G _ h1) (QCb x) ?_
 refine Q5 (QVX Qt x e) ?_;refine QG (JA.2 ?_) (QI (fun _ => ?_) (fun h=>by simp at h;exact absurd h he))
 ·repeat' first|with_reducible refine QR ?_ ?_|exact trivial|with_reducible rfl|exact qlr _|exact qRr|exact Qo _ _ _ _|refine And.intro ?_ ?_
 ·simp only[Vg,hv];refine⟨rfl,rfl,_,QRu e [] e,?_⟩
  repeat' first|with_reducible refine QR ?_ ?_|exact trivial|with_reducible rfl|exact qlr _|exact qRr|exact Qo _ _ _ _|exact rfl|refine And.intro ?_ ?_
theorem QRv{x:QB}:∀(d:Nat) (l:List QC) (s:TdS) (h:Int→Bool) {s':TdS} {h':Int→Bool},l.length+d=x.scans.n→(s.2.2.1.length=0∨s.2.2.1.length=x.scans.n)→onT x (Qz x x.scans.n) tdY d l s h = .go s' h'→s'.2.2.1.length=0∨s'.2.2.1.length=x.scans.n:=fun d l s h {s' h'} hn hg he=>QAU (G:=fun s:TdS=>s.2.2.1.length=0∨s.2.2.1.length=x.scans.n) (fun s l hg hl=>by
  show(Q6 s.2.1 l s.2.2.1).length=0∨(Q6 s.2.1 l s.2.2.1).length=x.scans.n;unfold Q6;split
  ·exact .inr hl
  ·exact hg) d l s h hn hg he
theorem QPe(hs:ZQ x)(hx:x.ok=true)(hr:K4 x=false)(hpos:0<x.scans.n):QQ Try.prog 33 (wFC (Vl Vg (x,()))):=by
 have hg:=VI hx;have hss:=hs.s;have hC:=QJH (x:=x) hg.d.n9;have hon:=QM0 hg hC hpos x.scans.n [] (0,0,[],0,0) noH (by simp) (fun c hc=>by cases hc) (fun q=>by cases q)
 obtain⟨s,h,he⟩:=Zm (C:=Qz x x.scans.n) (x:=x) (Y:=tdY) (fun _ _=>rfl) x.scans.n [] (0,0,[],0,0) noH;rw[he]at hon
 have hlen:s.2.2.1.length≤1000:=by
  rcases QRv (x:=x) x.scans.n [] (0,0,[],0,0) noH (by simp) (.inl rfl) he with q|q<;>omega
 have hT:QW (zE Qt x (Qz x x.scans.n) (tdU x (Qz x x.scans.n) XW Xe [] noH 0 0 [] 0 0 h s.1 s.2.1 s.2.2.1 s.2.2.2.1 s.2.2.2.2)):=(KL.add (QCI x hs hx hr)).add hon
 have hv:QL x=match decide (s.1>0)with
   | false=>([],6)
   | true=>(KZ s.2.2.1 s.2.2.2.1 s.2.2.2.2 s.2.2.1.length,0):=by
  simp only[QL,hx,hr,tdS,he]
 refine qm (c:=Qr Try.f33) (E:=mkE Try.prog (zE Qt x (Qz x x.scans.n) (tdU x (Qz x x.scans.n) XW Xe [] noH 0 0 [] 0 0 h s.1 s.2.1 s.2.2.1 s.2.2.2.1 s.2.2.2.2))) (H:=QDz Try.prog (zE Qt x (Qz x x.scans.n) (tdU x (Qz x x.scans.n) XW Xe [] noH 0 0 [] 0 0 h s.1 s.2.1 s.2.2.1 s.2.2.2.1 s.2.2.2.2)) s.2.2.1 (KZ s.2.2.1 s.2.2.2.1 s.2.2.2.2 s.2.2.1.length) s.2.2.2.1 s.2.2.2.2) (QT hT) Try.func33 (by kernel_rfl) (by kernel_rfl) (N:=8) (by decide) (x,()) (fun G h1 h2=>QVI hT _ _ _ hlen G h1 h2) (QCb x) ?_
 refine Q5 (QTn Qt x (Qz x x.scans.n) h s.1 s.2.1 s.2.2.1 s.2.2.2.1 s.2.2.2.2 (KZ s.2.2.1 s.2.2.2.1 s.2.2.2.2 s.2.2.1.length)) ?_;refine QG (JA.2 ?_) (QG (JA.2 ?_) (QI (fun q => ?_) (fun q => ?_)))
 ·repeat' first|with_reducible refine QR ?_ ?_|exact trivial|with_reducible rfl|exact qlr _|exact qRr|exact Qo _ _ _ _|refine And.intro ?_ ?_
 ·repeat' first|with_reducible refine QR ?_ ?_|exact trivial|with_reducible rfl|exact qlr _|exact qRr|exact Qo _ _ _ _|exact QGJ _|exact rfl|refine And.intro ?_ ?_
 ·have q:decide (s.1>0)=false:=by simpa using q
  simp only[Vg,hv,q];refine⟨rfl,rfl,_,QRc [] 6,?_⟩
  repeat' first|with_reducible refine QR ?_ ?_|exact trivial|with_reducible rfl|exact qlr _|exact qRr|exact Qo _ _ _ _|exact rfl|refine And.intro ?_ ?_
 ·have q:decide (s.1>0)=true:=by simpa using q
  repeat' first|refine QU (p:=_=_) rfl ?_|refine QU (p:=_≤_) (qlr _) ?_|refine QU (p:=QE _ _ _ _) (qRr) ?_
  refine KB fun _=>KE fun g => ?_;simp only[Vg,hv,q];refine⟨rfl,rfl,_,QTi _ _ 0,?_⟩
  repeat' first|with_reducible refine QR ?_ ?_|exact trivial|with_reducible rfl|exact qlr _|exact qRr|exact Qo _ _ _ _|exact rfl|refine And.intro ?_ ?_
theorem QUJ(d:Puz)(sc:Nat→QK)(hang:Rw Jn)(lo fo:Int)(hs:ZQ ⟨d,⟨0,sc⟩,hang,lo,fo⟩)(hx:(QB.mk d ⟨0,sc⟩ hang lo fo).ok=true)(hr:K4 ⟨d,⟨0,sc⟩,hang,lo,fo⟩=false):QQ Try.prog 33 (wFC (Vl Vg (⟨d,⟨0,sc⟩,hang,lo,fo⟩,()))):=by
 have hd:=hs.d;have hd:d.ps.n≤1000:=hd;have hT:QW (Jl Qt (opO ⟨d,⟨0,sc⟩,hang,lo,fo⟩ [])):=KL.add (QCI ⟨d,⟨0,sc⟩,hang,lo,fo⟩ hs hx hr);have hw:i64.wrap ((d.ps.n:Int)-0)=d.ps.n:=(w64 (by omega) (by omega)).trans (by omega)
 have hv:QL ⟨d,⟨0,sc⟩,hang,lo,fo⟩=match decide ((d.ps.n:Int)>lo)with
   | true=>([],6)
   | false=>([],0):=by
  simp only[QL,hx,hr,tdS,onT,Xc,YQ];simp only[show(d.ps.n:Int)-((([]:List QC).length:Int)-QP [] (-2))=d.ps.n by simp[QP]]
  cases decide ((d.ps.n:Int)>lo)<;>rfl
 refine qm (c:=Qr Try.f33) (E:=mkE Try.prog (Jl Qt (opO ⟨d,⟨0,sc⟩,hang,lo,fo⟩ []))) (H:=hnd (mkE Try.prog (Jl Qt (opO ⟨d,⟨0,sc⟩,hang,lo,fo⟩ []))) 8) (QT hT) Try.func33 (by kernel_rfl) (by kernel_rfl) (N:=8) (by decide) (⟨d,⟨0,sc⟩,hang,lo,fo⟩,()) (fun G h1 _=>Q0 (QT hT) 8 G _ h1) (QCb _) ?_
 refine Q5 (QVR Qt d sc hang lo fo) ?_;refine QG (JA.2 ?_) (QI (fun _=>QI (fun q => ?_) (fun q => ?_)) (fun q=>by cases q))
 ·repeat' first|with_reducible refine QR ?_ ?_|exact trivial|with_reducible rfl|exact qlr _|exact qRr|exact Qo _ _ _ _|refine And.intro ?_ ?_
 ·rw[hw]at q;simp only[Vg,hv,q];refine⟨rfl,rfl,_,QTd [] 6,?_⟩
  repeat' first|with_reducible refine QR ?_ ?_|exact trivial|with_reducible rfl|exact qlr _|exact qRr|exact Qo _ _ _ _|exact rfl|refine And.intro ?_ ?_
 ·rw[hw]at q;simp only[Vg,hv,q];refine⟨rfl,rfl,_,QPL [] 0,?_⟩
  repeat' first|with_reducible refine QR ?_ ?_|exact trivial|with_reducible rfl|exact qlr _|exact qRr|exact Qo _ _ _ _|exact rfl|refine And.intro ?_ ?_
theorem QS1(hx:(Vg (x,())).1=true):QQ Try.prog 33 (wFC (Vl Vg (x,()))):=by
 obtain⟨h1,h2,h3⟩:=qdt hx;have hs:ZQ x:=⟨h1,h2,h3⟩;cases ho:x.ok with
 | false=>exact QEy x 1 (QFk x hs ho) (by decide) (by simp only[QL,ho])
 | true=>cases hr:K4 x with
  | true=>exact QEy x 11 (QFo x hs ho hr) (by decide) (by simp only[QL,ho,hr])
  | false=>
   by_cases hp:0<x.scans.n
   ·exact QPe x hs ho hr hp
   ·obtain⟨d,⟨n,sc⟩,hang,lo,fo⟩:=x;obtain rfl:n=0:=by simp only at hp;omega
    exact QUJ d sc hang lo fo hs ho hr
theorem QOr:QQ Try.prog 33 QG2:=QC0 (by kernel_rfl) fun|(x,()),hx=>QS1 x hx
def QGy(b:Nat)(f:Nat→Int)(k:Nat):Nat×Blk:=(b,.rowz true 3 [.int .i64] k fun i _=>f i)
def VJ:JSt:=⟨42,[(2,.slz 440 0 k (.of 0)),(6,.ptr 368 0 0),(27,.int false .i64 n),(28,.int false .i64 k)],[(368,.cells 1 95 (Z8 f)),QGy 440 f k],448⟩
def QCD:JSt:=⟨42,[(2,.slz 440 0 n (.of 0)),(6,.ptr 368 0 0)],[(368,.cells 1 95 (Z8 f)),QGy 440 f n],448⟩
def QMt:Ex→List Nat
 | .normal=>[2,6,27,28]
 | .exit _=>[2,6]
 | .ret=>[]
def HT(f:List Int)(a e:Int):AV := .tup [.slz 0 0 f.length (.of 0),.int false .i64 a,.int false .i64 e]
noncomputable abbrev V8(n:Nat):List AV:=
  [.nilp,.ptr 42 0 0,.slz 520 0 (k+1) cO,.ptr 368 0 0,vi (n:Int),vi (i64.wrap ((k:Int)+1))]
noncomputable abbrev K2:Nat×Blk:=
  (368,.cells 1 95 [vi (f 0),vi (f 1),vi (f 2),vi (f 3),vi (f 4),vi (f 5),vi (f 6),
  .int false .i64 (f 7),vi (f 8),vi (f 9),vi (f 10),vi (f 11),vi (f 12)])
noncomputable abbrev QJj:List (Nat×Blk):=
  [(520,.rowz true 3 [.int .i64] (k+1) (Qd k (fun i x=>f i) (QS [[vi (f 10)]] 0))),(K2 f)]
noncomputable abbrev QIF:List (Nat×Blk):=
  [(520,.rowz true 3 [.int .i64] (k+1) (Qd k (fun i x=>f i) (QS [[vi (f 11)]] 0))),(K2 f)]
theorem QQ8(g:Nat→Value):exec (mkF Try.prog Qu) (hnd (mkF Try.prog Qu) 3) (QV Try.f20 0) (JSt.inst (VJ f n k) g) (KH [] QMt) = .br (decide ((k:Int)<(n:Int))) (.need (decide ((0 :
  Int)≤(k:Int)∧(k:Int)<12)) (.br (decide ((k:Int)=0)) (.need (decide (k≤k)&&(true&&decide ((k+1+(k+1) / 4+192)*8≤281474976710656∧k+1 ≤
  9223372036854775807))) (.leaf (.tup (V8 k n)) ([(520,.rowz true 3 [.int .i64] (k+1) (Qd k (fun i x=>f i) (QS [[vi (f 0)]] 0))),(K2 f)]))) (.br (decide
  ((k:Int)=1)) (.need (decide (k≤k)&&(true&&decide ((k+1+(k+1) / 4+192)*8≤281474976710656∧k+1≤9223372036854775807))) (.leaf (.tup (V8 k n)) ([(520,.rowz
  true 3 [.int .i64] (k+1) (Qd k (fun i x=>f i) (QS [[vi (f 1)]] 0))),(K2 f)]))) (.br (decide ((k:Int)=2)) (.need (decide (k≤k)&&(true&&decide ((k +
  1+(k+1) / 4+192)*8≤281474976710656∧k+1≤9223372036854775807))) (.leaf (.tup (V8 k n)) ([(520,.rowz true 3 [.int .i64] (k+1) (Qd k (fun i x=>f i) (QS
  [[vi (f 2)]] 0))),(K2 f)]))) (.br (decide ((k:Int)=3)) (.need (decide (k≤k)&&(true&&decide ((k+1+(k+1) / 4+192)*8≤281474976710656∧k+1 ≤
  9223372036854775807))) (.leaf (.tup (V8 k n)) ([(520,.rowz true 3 [.int .i64] (k+1) (Qd k (fun i x=>f i) (QS [[vi (f 3)]] 0))),(K2 f)]))) (.br (decide
  ((k:Int)=4)) (.need (decide (k≤k)&&(true&&decide ((k+1+(k+1) / 4+192)*8≤281474976710656∧k+1≤9223372036854775807))) (.leaf (.tup (V8 k n)) ([(520,.rowz
  true 3 [.int .i64] (k+1) (Qd k (fun i x=>f i) (QS [[vi (f 4)]] 0))),(K2 f)]))) (.br (decide ((k:Int)=5)) (.need (decide (k≤k)&&(true&&decide ((k +
  1+(k+1) / 4+192)*8≤281474976710656∧k+1≤9223372036854775807))) (.leaf (.tup (V8 k n)) ([(520,.rowz true 3 [.int .i64] (k+1) (Qd k (fun i x=>f i) (QS
  [[vi (f 5)]] 0))),(K2 f)]))) (.br (decide ((k:Int)=6)) (.need (decide (k≤k)&&(true&&decide ((k+1+(k+1) / 4+192)*8≤281474976710656∧k+1 ≤
  9223372036854775807))) (.leaf (.tup (V8 k n)) ([(520,.rowz true 3 [.int .i64] (k+1) (Qd k (fun i x=>f i) (QS [[vi (f 6)]] 0))),(K2 f)]))) (.br (decide
  ((k:Int)=7)) (.need (decide (k≤k)&&(true&&decide ((k+1+(k+1) / 4+192)*8≤281474976710656∧k+1≤9223372036854775807))) (.leaf (.tup (V8 k n)) ([(520,.rowz
  true 3 [.int .i64] (k+1) (Qd k (fun i x=>f i) (QS [[vi (f 7)]] 0))),(K2 f)]))) (.br (decide ((k:Int)=8)) (.need (decide (k≤k)&&(true&&decide ((k +
  1+(k+1) / 4+192)*8≤281474976710656∧k+1≤9223372036854775807))) (.leaf (.tup (V8 k n)) ([(520,.rowz true 3 [.int .i64] (k+1) (Qd k (fun i x=>f i) (QS
  [[vi (f 8)]] 0))),(K2 f)]))) (.br (decide ((k:Int)=9)) (.need (decide (k≤k)&&(true&&decide ((k+1+(k+1) / 4+192)*8≤281474976710656∧k+1 ≤
  9223372036854775807))) (.leaf (.tup (V8 k n)) ([(520,.rowz true 3 [.int .i64] (k+1) (Qd k (fun i x=>f i) (QS [[vi (f 9)]] 0))),(K2 f)]))) (.br (decide
  ((k:Int)=10)) (.need (decide (k≤k)&&(true&&decide ((k+1+(k+1) / 4+192)*8≤281474976710656∧k+1≤9223372036854775807))) (.leaf (.tup (V8 k n)) ((QJj f
  k)))) (.need (decide (k≤k)&&(true&&decide ((k+1+(k+1) / 4+192)*8≤281474976710656∧k+1≤9223372036854775807))) (.leaf (.tup (V8 k n)) ((QIF f
  k)))))))))))))))) (.leaf (.tup [.ptr 0 0 0,.ptr 42 0 0,.slz 440 0 k cO,.ptr 368 0 0]) ([(440,.rowz true 3 [.int .i64] k fun i x=>f i),(K2 f)])):=by kernel_rfl
theorem QP8:Ka (mkE Try.prog (Jl pb (opE x e))) (hnd (mkE Try.prog (Jl pb (opE x e))) 1) Try.f20 (QY.vals 0 ((x,()):QB×Unit)) (QY.blks 0 ((x,()):QB×Unit)) 8 =
  QD.need (pb ([x.d.play.length = x.d.play.length, x.d.play.slack = x.d.play.slack, x.d.play.loose = x.d.play.loose, x.d.play.damp.lo = x.d.play.damp.lo, x.d.play.damp.hi = x.d.play.damp.hi, x.d.wide = x.d.wide, x.d.high = x.d.high, x.d.turn = x.d.turn, (0 : Nat) = (0 : Nat), x.d.ps.n = x.d.ps.n, Cap.of (0 : Nat) = Cap.of (0 : Nat), (0 : Nat) = (0 : Nat), x.scans.n = x.scans.n, Cap.of (0 : Nat) = Cap.of (0 : Nat), (0 : Nat) = (0 : Nat), x.hang.n = x.hang.n, Cap.of (0 : Nat) = Cap.of (0 : Nat), x.lost = x.lost, x.foreign = x.foreign, x.d.ps.n ≤ x.d.ps.n, QE (28 : Nat) x.d.ps.n (fun i => QA.enc (x.d.ps.get i)) fun i => QA.enc (x.d.ps.get i), x.scans.n ≤ x.scans.n, QE (28 : Nat) x.scans.n (fun i => QA.enc (x.scans.get i)) fun i => QA.enc (x.scans.get i), x.hang.n ≤ x.hang.n, QE (4 : Nat) x.hang.n (fun i => QA.enc (x.hang.get i)) fun i => QA.enc (x.hang.get i)])) (QD.br (e != (0 : Int)) (QD.leaf (AV.tup [AV.nils, AV.int true i64 (0 : Int), AV.int false i64 e]) ([])) (QD.fail ("a call without a contract"))) := by kernel_rfl
def vM(C:List (List QC))(U:UC):Tab:=Qh (Jl pb (opO x C)) 77 (J1 pb U)
abbrev QBl(P:Program)(T:Tab)(f:Nat→Int)(n:Nat):Hnd:={ hnd (mkE P T) 8 with loop:=fun _=>KD 8 [] (VJ f n (0:Nat)) [(True,.exit 0,QCD f n)] }
theorem QQ1(x:QB)(C:List (List QC))(has':Int→Bool)(many':Int)(f':Nat→Int):Ka (mkE Try.prog (vM pb x C (plU x C (Qj Try.f50 0).1 (Qj Try.f50 0).2 [] noH 0 (fun _=>0) has' many' f'))) (QBl Try.prog (vM pb x C (plU x C (Qj Try.f50
  0).1 (Qj Try.f50 0).2 [] noH 0 (fun _=>0) has' many' f')) f' x.scans.n) Try.f20 (QY.vals 0 ((x,()):QB×Unit)) (QY.blks 0 ((x,()):QB×Unit)) 8 = .need (pb
  ([x.d.play.length=x.d.play.length,x.d.play.slack=x.d.play.slack,x.d.play.loose=x.d.play.loose,x.d.play.damp.lo=x.d.play.damp.lo,x.d.play.damp.hi=x.d.play.damp.hi,
  x.d.wide=x.d.wide,x.d.high=x.d.high,x.d.turn=x.d.turn,0=0,x.d.ps.n=x.d.ps.n,cO=cO,0=0,x.scans.n=x.scans.n,cO=cO,0=0,x.hang.n =
  x.hang.n,cO=cO,x.lost=x.lost,x.foreign=x.foreign,x.d.ps.n≤x.d.ps.n,QE 28 x.d.ps.n (fun i=>QA.enc (x.d.ps.get i)) fun i=>QA.enc (x.d.ps.get i),
  x.scans.n≤x.scans.n,QE 28 x.scans.n (fun i=>QA.enc (x.scans.get i)) fun i=>QA.enc (x.scans.get i),x.hang.n≤x.hang.n,QE 4 x.hang.n (fun i=>QA.enc
  (x.hang.get i)) fun i=>QA.enc (x.hang.get i)])) (.need (pb ([0=0,0=0,0=0,0=0,0=0,0=0,0=0,0=0,0=0,0=0,0=0,0=0,([]:List MapEntry)=[],
  zu (.int true .i64 0) noH fun i => .int false .i64 (QP [] i),LoopState.ready=LoopState.ready,(none:Option Code)=none,Array.mk [12]=Array.mk [12],(Qj Try.f50
  0).1=(Qj Try.f50 0).1,(Qj Try.f50 0).2=(Qj Try.f50 0).2,0=0,0=0,(0:Int)=0,(0:Int)=0,(0:Int)=0,(0:Int)=0,(0:Int)=0,(0:Int)=0,(0
  : Int)=0,(0:Int)=0,(0:Int)=0,(0:Int)=0,(0:Int)=0,(0:Int)=0,(0:Int)=0,Fn.func 51=Fn.func 51,0=0,0=0,0=0,0=0,0=0,0=0,false =
  false,0=0,0=0,0=0,0=0,Fn.func 76=Fn.func 76,0=0,0=0,(0:Int)=0,(0:Int)=0,(0:Int)=0,(0:Int)=0,(0:Int)=0,(0:Int)=0,(0:Int)=0,(0
  : Int)=0,(0:Int)=0,(0:Int)=0,(0:Int)=0,(0:Int)=0,(0:Int)=0,(0:Int)=0,Fn.func 77=Fn.func 77,0=0,0=0,0=0,0=0,0=0,0=0,0=0,0 =
  0,0=0,0=0,0=0,0=0,Fn.func 51=Fn.func 51,x.d.play.length=x.d.play.length,x.d.play.slack=x.d.play.slack,x.d.play.loose=x.d.play.loose,x.d.play.damp.lo =
  x.d.play.damp.lo,x.d.play.damp.hi=x.d.play.damp.hi,x.d.wide=x.d.wide,x.d.high=x.d.high,x.d.turn=x.d.turn,0=0,x.d.ps.n=x.d.ps.n,cO=cO,0=0,
  x.scans.n=x.scans.n,cO=cO,0=0,x.hang.n=x.hang.n,cO=cO,x.lost=x.lost,x.foreign=x.foreign,0=0,C.length=C.length,cO=cO,
  C.length=C.length,Kv 2 C.length (fun i=>(QN C i).length) (fun i=>(QN C i).length) (fun i j=>QA.enc ((QN C i).getD j ⟨0,0⟩)) fun i j=>QA.enc ((QN C
  i).getD j ⟨0,0⟩),x.d.ps.n≤x.d.ps.n,QE 28 x.d.ps.n (fun i=>QA.enc (x.d.ps.get i)) fun i=>QA.enc (x.d.ps.get i),x.scans.n≤x.scans.n,QE 28 x.scans.n (fun i=>
  QA.enc (x.scans.get i)) fun i=>QA.enc (x.scans.get i),x.hang.n≤x.hang.n,QE 4 x.hang.n (fun i=>QA.enc (x.hang.get i)) fun i=>QA.enc (x.hang.get i)])) (.br
  (!decide (many'>0)) (.leaf (.tup [.nils,vj 0,vj 6]) ([])) (.ask (0=0) (.ask (0=0) (.ask (0=0) (.ask ((x.scans.n:Int)=(x.scans.n:Int)) (.ask
  ((0:Int)=0) (.ask (f' 0=f' 0) (.ask (f' 1=f' 1) (.ask (f' 2=f' 2) (.ask (f' 3=f' 3) (.ask (f' 4=f' 4) (.ask (f' 5=f' 5) (.ask (f' 6=f' 6) (.ask (f' 7=f' 7) (.ask
  (f' 8=f' 8) (.ask (f' 9=f' 9) (.ask (f' 10=f' 10) (.ask (f' 11=f' 11) (.ask (f' 12=f' 12) (.ask (0=0) (.asm (True) (.all (fun(g0:Nat→Value) => .leaf (.tup [.slz 440
  0 x.scans.n cO,vi (f' 12),vj 0]) ([(440,.rowz true 3 [.int .i64] x.scans.n fun i x=>f' i)]))))))))))))))))))))))))):=by kernel_rfl
noncomputable abbrev V6(n:Nat):List AV:=
  [.slz 520 0 (k+1) cO,.ptr 368 0 0,vi (n:Int),vi (i64.wrap ((k:Int)+1))]
abbrev XO(n:Nat):List Prop:=
  [0=0,k+1=k',cO=cO,0=0,0=0,(n:Int)=(n:Int),i64.wrap ((k:Int)+1)=(k':Int),f 0=f 0,f 1=f 1,f 2=f 2,f 3=f 3,f 4=f 4,f
  5=f 5,f 6=f 6,f 7=f 7,f 8=f 8,f 9=f 9,f 10=f 10,f 11=f 11,f 12=f 12]
theorem QVZ :QM 8 (V6 k n) ([(520,.rowz true 3 [.int .i64] (k+1) (Qd k (fun i x=>f i) (QS [[vi (f 0)]] 0))),(K2 f)]) (VJ f n k')=(some ((XO f k k' n)++[k'
  ≤ k+1,QE 1 k' (Qd k (fun i x=>f i) (QS [[vi (f 0)]] 0)) fun i x=>f i])):=by kernel_rfl
theorem QRq :QM 8 (V6 k n) ([(520,.rowz true 3 [.int .i64] (k+1) (Qd k (fun i x=>f i) (QS [[vi (f 1)]] 0))),(K2 f)]) (VJ f n k')=(some ((XO f k k' n)++[k'
  ≤ k+1,QE 1 k' (Qd k (fun i x=>f i) (QS [[vi (f 1)]] 0)) fun i x=>f i])):=by kernel_rfl
theorem QPR :QM 8 (V6 k n) ([(520,.rowz true 3 [.int .i64] (k+1) (Qd k (fun i x=>f i) (QS [[vi (f 2)]] 0))),(K2 f)]) (VJ f n k')=(some ((XO f k k' n)++[k'
  ≤ k+1,QE 1 k' (Qd k (fun i x=>f i) (QS [[vi (f 2)]] 0)) fun i x=>f i])):=by kernel_rfl
theorem QSY :QM 8 (V6 k n) ([(520,.rowz true 3 [.int .i64] (k+1) (Qd k (fun i x=>f i) (QS [[vi (f 3)]] 0))),(K2 f)]) (VJ f n k')=(some ((XO f k k' n)++[k'
  ≤ k+1,QE 1 k' (Qd k (fun i x=>f i) (QS [[vi (f 3)]] 0)) fun i x=>f i])):=by kernel_rfl
theorem QNj :QM 8 (V6 k n) ([(520,.rowz true 3 [.int .i64] (k+1) (Qd k (fun i x=>f i) (QS [[vi (f 4)]] 0))),(K2 f)]) (VJ f n k')=(some ((XO f k k' n)++[k'
  ≤ k+1,QE 1 k' (Qd k (fun i x=>f i) (QS [[vi (f 4)]] 0)) fun i x=>f i])):=by kernel_rfl
theorem QTk :QM 8 (V6 k n) ([(520,.rowz true 3 [.int .i64] (k+1) (Qd k (fun i x=>f i) (QS [[vi (f 5)]] 0))),(K2 f)]) (VJ f n k')=(some ((XO f k k' n)++[k'
  ≤ k+1,QE 1 k' (Qd k (fun i x=>f i) (QS [[vi (f 5)]] 0)) fun i x=>f i])):=by kernel_rfl
theorem QRd :QM 8 (V6 k n) ([(520,.rowz true 3 [.int .i64] (k+1) (Qd k (fun i x=>f i) (QS [[vi (f 6)]] 0))),(K2 f)]) (VJ f n k')=(some ((XO f k k' n)++[k'
  ≤ k+1,QE 1 k' (Qd k (fun i x=>f i) (QS [[vi (f 6)]] 0)) fun i x=>f i])):=by kernel_rfl
theorem QSH :QM 8 (V6 k n) ([(520,.rowz true 3 [.int .i64] (k+1) (Qd k (fun i x=>f i) (QS [[vi (f 7)]] 0))),(K2 f)]) (VJ f n k')=(some ((XO f k k' n)++[k'
  ≤ k+1,QE 1 k' (Qd k (fun i x=>f i) (QS [[vi (f 7)]] 0)) fun i x=>f i])):=by kernel_rfl
theorem QQQ :QM 8 (V6 k n) ([(520,.rowz true 3 [.int .i64] (k+1) (Qd k (fun i x=>f i) (QS [[vi (f 8)]] 0))),(K2 f)]) (VJ f n k')=(some ((XO f k k' n)++[k'
  ≤ k+1,QE 1 k' (Qd k (fun i x=>f i) (QS [[vi (f 8)]] 0)) fun i x=>f i])):=by kernel_rfl
theorem QXK :QM 8 (V6 k n) ([(520,.rowz true 3 [.int .i64] (k+1) (Qd k (fun i x=>f i) (QS [[vi (f 9)]] 0))),(K2 f)]) (VJ f n k')=(some ((XO f k k' n)++[k'
  ≤ k+1,QE 1 k' (Qd k (fun i x=>f i) (QS [[vi (f 9)]] 0)) fun i x=>f i])):=by kernel_rfl
theorem QNw :QM 8 (V6 k n) ((QJj f k)) (VJ f n k')=(some ((XO f k k' n)++[k'≤k+1,QE 1 k' (Qd k (fun i x=>f i) (QS [[vi (f 10)]] 0)) fun i x=>f i])):=by kernel_rfl
theorem QQ0 :QM 8 (V6 k n) ((QIF f k)) (VJ f n k')=(some ((XO f k k' n)++[k'≤k+1,QE 1 k' (Qd k (fun i x=>f i) (QS [[vi (f 11)]] 0)) fun i x=>f i])):=by kernel_rfl
theorem QTT:QM 8 [AV.slz (440:Nat) (0:Nat) k (Cap.of (0:Nat)),AV.ptr (368:Nat) (0:Nat) (0:Nat)] ([((440:Nat),Blk.rowz true (3:Nat) [CK.int i64] k fun i x=>f i),((368:Nat),Blk.cells (1:Nat) (95:Nat) [AV.int false i64 (f (0:Nat)),AV.int false i64 (f (1:Nat)),AV.int false i64 (f (2:Nat)),AV.int false i64 (f (3:Nat)),AV.int false i64 (f (4:Nat)),AV.int false i64 (f (5:Nat)),AV.int false i64 (f (6:Nat)),AV.int false i64 (f (7:Nat)),AV.int false i64 (f (8:Nat)),AV.int false i64 (f (9:Nat)),AV.int false i64 (f (10:Nat)),AV.int false i64 (f (11:Nat)),AV.int false i64 (f (12:Nat))])]) (QCD f n)=(
  some [(0:Nat)=(0:Nat),k=n,Cap.of (0:Nat)=Cap.of (0:Nat),(0:Nat)=(0:Nat),(0:Nat)=(0:Nat),f (0:Nat)=f (0:Nat),f (1:Nat)=f (1:Nat),f (2 :
  Nat)=f (2:Nat),f (3:Nat)=f (3:Nat),f (4:Nat)=f (4:Nat),f (5:Nat)=f (5:Nat),f (6:Nat)=f (6:Nat),f (7:Nat)=f (7:Nat),f (8:Nat)=f (8:Nat),
  f (9:Nat)=f (9:Nat),f (10:Nat)=f (10:Nat),f (11:Nat)=f (11:Nat),f (12:Nat)=f (12:Nat),n≤k,QE (1:Nat) n (fun i x=>f i) fun i x=>f i]):=by kernel_rfl
theorem QNO(f:List Int)(a e':Int):QM 8 [(AV.tup [AV.nils,AV.int true i64 (0:Int),AV.int false i64 e])] ([]) (Kr 8 (HT f a e') [KQ 3 0 f 0])=(
  some [f.length=(0:Nat),(0:Int)=a,e=e',f.length=(0:Nat)]):=by kernel_rfl
theorem QSE(f:List Int)(a e':Int):QM 8 [(AV.tup [AV.nils,AV.int true i64 (0:Int),AV.int true i64 (6:Int)])] ([]) (Kr 8 (HT f a e') [KQ 3 0 f 0])=(
  some [f.length=(0:Nat),(0:Int)=a,(6:Int)=e',f.length=(0:Nat)]):=by kernel_rfl
theorem QWz(x:QB)(f':Nat→Int)(f:List Int)(a e':Int):QM 8 [(AV.tup [AV.slz (440:Nat) (0:Nat) x.scans.n (Cap.of (0:Nat)),AV.int false i64 (f' (12:Nat)),AV.int true i64 (0:Int)])] ([((440:Nat),Blk.rowz true (3:Nat) [CK.int i64] x.scans.n fun i x=>f' i)]) (Kr 8 (HT f a e') [KQ 3 0 f 0])=(
  some [(0:Nat)=(0:Nat),x.scans.n=f.length,Cap.of (0:Nat)=Cap.of (0:Nat),f' (12:Nat)=a,(0:Int)=e',f.length≤x.scans.n,QE (1:Nat) f.length (fun i x
  => f' i) fun i=>QA.enc (f.getD i (0:Int))]):=by kernel_rfl
theorem XJ:QE 1 (k+1) (Qd k (fun i _=>f i) (QS [[.int false .i64 (f k)]] 0)) (fun i _=>f i):=by
 intro i hi;show eqF 1 0 (Qd k (fun i _=>f i) (QS [[.int false .i64 (f k)]] 0) i) (fun _=>f i)
 by_cases h:i<k
 ·have e2:Qd k (fun i _=>f i) (QS [[.int false .i64 (f k)]] 0) i=fun _=>f i:=by funext j;rw[XP,if_pos h]
  rw[e2];exact YB _ _ _
 ·have q:i=k:=by omega
  subst q;have e2:Qd i (fun i _=>f i) (QS [[.int false .i64 (f i)]] 0) i=QS [[.int false .i64 (f i)]] 0 0:=by funext j;rw[XP,if_neg h,Nat.sub_self]
  rw[e2];exact⟨rfl,trivial⟩
theorem QXC(hn:n≤12):Kz (fun k=>VJ f n k) (fun k=>k≤n) (fun k=>n-k) (fun _ e J=>e = .exit 0∧J=QCD f n) 8 QMt [] (mkF Try.prog Qu) (fun _=>hnd (mkF Try.prog Qu) 3) (QV Try.f20 0):=by
 refine⟨fun k g hk=>Q5 (QQ8 f n k g) ?_⟩;refine QI (fun h => ?_) (fun h => ?_)
 ·have h:k<n:=by have:=qdt h;omega
  have hw:=Ks h (by omega:n≤1000)
  refine QG (by simp;omega) ?_
  refine QI (fun q => ?_) (fun q => ?_)
  ·refine QG (by simp;omega) ⟨k+1,h,by show n-(k+1)<n-k;omega,fun _ _ h=>h,rfl,rfl,_,QVZ f n k (k+1),?_⟩
   obtain rfl:k=0:=by have:=qdt q;omega
   repeat' first|with_reducible refine QR ?_ ?_|exact trivial|with_reducible rfl|exact qlr _|exact qRr|exact Qo _ _ _ _|exact hw|exact XJ f 0|refine And.intro ?_ ?_
  have q0:¬ (k:Int)=0:=of_decide_eq_false q;clear q;refine QI (fun q => ?_) (fun q => ?_)
  ·refine QG (by simp;omega) ⟨k+1,h,by show n-(k+1)<n-k;omega,fun _ _ h=>h,rfl,rfl,_,QRq f n k (k+1),?_⟩
   obtain rfl:k=1:=by have:=qdt q;omega
   repeat' first|with_reducible refine QR ?_ ?_|exact trivial|with_reducible rfl|exact qlr _|exact qRr|exact Qo _ _ _ _|exact hw|exact XJ f 1|refine And.intro ?_ ?_
  have q1:¬ (k:Int)=1:=of_decide_eq_false q;clear q;refine QI (fun q => ?_) (fun q => ?_)
  ·refine QG (by simp;omega) ⟨k+1,h,by show n-(k+1)<n-k;omega,fun _ _ h=>h,rfl,rfl,_,QPR f n k (k+1),?_⟩
   obtain rfl:k=2:=by have:=qdt q;omega
   repeat' first|with_reducible refine QR ?_ ?_|exact trivial|with_reducible rfl|exact qlr _|exact qRr|exact Qo _ _ _ _|exact hw|exact XJ f 2|refine And.intro ?_ ?_
  have q2:¬ (k:Int)=2:=of_decide_eq_false q;clear q;refine QI (fun q => ?_) (fun q => ?_)
  ·refine QG (by simp;omega) ⟨k+1,h,by show n-(k+1)<n-k;omega,fun _ _ h=>h,rfl,rfl,_,QSY f n k (k+1),?_⟩
   obtain rfl:k=3:=by have:=qdt q;omega
   repeat' first|with_reducible refine QR ?_ ?_|exact trivial|with_reducible rfl|exact qlr _|exact qRr|exact Qo _ _ _ _|exact hw|exact XJ f 3|refine And.intro ?_ ?_
  have q3:¬ (k:Int)=3:=of_decide_eq_false q;clear q;refine QI (fun q => ?_) (fun q => ?_)
  ·refine QG (by simp;omega) ⟨k+1,h,by show n-(k+1)<n-k;omega,fun _ _ h=>h,rfl,rfl,_,QNj f n k (k+1),?_⟩
   obtain rfl:k=4:=by have:=qdt q;omega
   repeat' first|with_reducible refine QR ?_ ?_|exact trivial|with_reducible rfl|exact qlr _|exact qRr|exact Qo _ _ _ _|exact hw|exact XJ f 4|refine And.intro ?_ ?_
  have q4:¬ (k:Int)=4:=of_decide_eq_false q;clear q;refine QI (fun q => ?_) (fun q => ?_)
  ·refine QG (by simp;omega) ⟨k+1,h,by show n-(k+1)<n-k;omega,fun _ _ h=>h,rfl,rfl,_,QTk f n k (k+1),?_⟩
   obtain rfl:k=5:=by have:=qdt q;omega
   repeat' first|with_reducible refine QR ?_ ?_|exact trivial|with_reducible rfl|exact qlr _|exact qRr|exact Qo _ _ _ _|exact hw|exact XJ f 5|refine And.intro ?_ ?_
  have q5:¬ (k:Int)=5:=of_decide_eq_false q;clear q;refine QI (fun q => ?_) (fun q => ?_)
  ·refine QG (by simp;omega) ⟨k+1,h,by show n-(k+1)<n-k;omega,fun _ _ h=>h,rfl,rfl,_,QRd f n k (k+1),?_⟩
   obtain rfl:k=6:=by have:=qdt q;omega
   repeat' first|with_reducible refine QR ?_ ?_|exact trivial|with_reducible rfl|exact qlr _|exact qRr|exact Qo _ _ _ _|exact hw|exact XJ f 6|refine And.intro ?_ ?_
  have q6:¬ (k:Int)=6:=of_decide_eq_false q;clear q;refine QI (fun q => ?_) (fun q => ?_)
  ·refine QG (by simp;omega) ⟨k+1,h,by show n-(k+1)<n-k;omega,fun _ _ h=>h,rfl,rfl,_,QSH f n k (k+1),?_⟩
   obtain rfl:k=7:=by have:=qdt q;omega
   repeat' first|with_reducible refine QR ?_ ?_|exact trivial|with_reducible rfl|exact qlr _|exact qRr|exact Qo _ _ _ _|exact hw|exact XJ f 7|refine And.intro ?_ ?_
  have q7:¬ (k:Int)=7:=of_decide_eq_false q;clear q;refine QI (fun q => ?_) (fun q => ?_)
  ·refine QG (by simp;omega) ⟨k+1,h,by show n-(k+1)<n-k;omega,fun _ _ h=>h,rfl,rfl,_,QQQ f n k (k+1),?_⟩
   obtain rfl:k=8:=by have:=qdt q;omega
   repeat' first|with_reducible refine QR ?_ ?_|exact trivial|with_reducible rfl|exact qlr _|exact qRr|exact Qo _ _ _ _|exact hw|exact XJ f 8|refine And.intro ?_ ?_
  have q8:¬ (k:Int)=8:=of_decide_eq_false q;clear q;refine QI (fun q => ?_) (fun q => ?_)
  ·refine QG (by simp;omega) ⟨k+1,h,by show n-(k+1)<n-k;omega,fun _ _ h=>h,rfl,rfl,_,QXK f n k (k+1),?_⟩
   obtain rfl:k=9:=by have:=qdt q;omega
   repeat' first|with_reducible refine QR ?_ ?_|exact trivial|with_reducible rfl|exact qlr _|exact qRr|exact Qo _ _ _ _|exact hw|exact XJ f 9|refine And.intro ?_ ?_
  have q9:¬ (k:Int)=9:=of_decide_eq_false q;clear q;refine QI (fun q => ?_) (fun q => ?_)
  ·refine QG (by simp;omega) ⟨k+1,h,by show n-(k+1)<n-k;omega,fun _ _ h=>h,rfl,rfl,_,QNw f n k (k+1),?_⟩
   obtain rfl:k=10:=by have:=qdt q;omega
   repeat' first|with_reducible refine QR ?_ ?_|exact trivial|with_reducible rfl|exact qlr _|exact qRr|exact Qo _ _ _ _|exact hw|exact XJ f 10|refine And.intro ?_ ?_
  have q10:¬ (k:Int)=10:=of_decide_eq_false q;clear q;refine QG (by simp;omega) ⟨k+1,h,by show n-(k+1)<n-k;omega,fun _ _ h=>h,rfl,rfl,_,QQ0 f n k (k+1),?_⟩
  obtain rfl:k=11:=by omega
  repeat' first|with_reducible refine QR ?_ ?_|exact trivial|with_reducible rfl|exact qlr _|exact qRr|exact Qo _ _ _ _|exact hw|exact XJ f 11|refine And.intro ?_ ?_
 ·have:k=n:=by have:=of_decide_eq_false h;omega
  subst this;refine⟨_,⟨rfl,rfl⟩,rfl,rfl,_,QTT f k k,?_⟩
  repeat' first|with_reducible refine QR ?_ ?_|exact trivial|with_reducible rfl|exact qlr _|exact qRr|exact Qo _ _ _ _|refine And.intro ?_ ?_
theorem QRB{T:Tab}(hT:QW T)(f:Nat→Int)(n:Nat)(hn:n≤12)(G:Ctx)(hrd:G.rd=none)(hG:G.n=8):Q9 (mkE Try.prog T) G (QBl Try.prog T f n) (Qr Try.f20):=by
 refine JM (body:=QV Try.f20 0) (QT hT) hrd (by kernel_rfl) ?_
 refine ZM (E:=mkF Try.prog Qu) rfl (JE (n0:=8) (ZR KL) (by omega) (fun s hs=>Q0 (ZR KL) 3 G _ hrd) (fun s hs=>(by decide:8≤448)) ?_ (QXC f n hn) (s0:=0) (Nat.zero_le _) ?_)
 ·rintro s e J ⟨_,rfl⟩;exact(by decide:8≤448)
 ·rintro e J ⟨rfl,rfl⟩;exact⟨_,List.mem_cons_self,trivial,rfl,rfl⟩
def QDp:Res PlS:=onT x (Qz x x.scans.n) plY x.scans.n [] (0,fun _=>0) noH
def QF:List Int×Int×Int:=match x.ok with
 | false=>([],0,1)
 | true=>match K4 x with
  | true=>([],0,11)
  | false=>match QDp x with
   | .stop s _ | .go s _=>match decide (s.1>0)with
    | false=>([],0,6)
    | true=>((List.range x.scans.n).map s.2,s.2 12,0)
def XZ:WF (QB×Unit):=fun|(x,_)=>(decide (x.d.ps.n≤1000∧x.scans.n≤1000∧x.hang.n≤1000),HT (QF x).1 (QF x).2.1 (QF x).2.2,[KQ 3 0 (QF x).1 0])
def QLg:FC:=wFC XZ
theorem QMs:WOk (XZ (x,())).2.1 (XZ (x,())).2.2:=⟨rfl,by simp[XZ,KQ,Blk.own,Blk.all],rfl⟩
theorem QMi(ht:QQ Try.prog 49 (uFC (opE x e)))(he:e≠0)(hv:QF x=([],0,e)):QQ Try.prog 20 (wFC (Vl XZ (x,()))):=by
 have hT:QW (Jl Qt (opE x e)):=KL.add ht;refine qm (c:=Qr Try.f20) (E:=mkE Try.prog (Jl Qt (opE x e))) (H:=hnd (mkE Try.prog (Jl Qt (opE x e))) 1) (QT hT) Try.func20 (by kernel_rfl) (by kernel_rfl) (N:=8) (by decide) (x,()) (fun G h1 _=>Q0 (QT hT) 1 G _ h1) (QMs x) ?_
 refine Q5 (QP8 Qt x e) ?_;refine QG (JA.2 ?_) (QI (fun _ => ?_) (fun h=>by simp at h;exact absurd h he))
 ·repeat' first|with_reducible refine QR ?_ ?_|exact trivial|with_reducible rfl|exact qlr _|exact qRr|exact Qo _ _ _ _|refine And.intro ?_ ?_
 ·simp only[XZ,hv];refine⟨rfl,rfl,_,QNO e [] 0 e,?_⟩
  repeat' first|with_reducible refine QR ?_ ?_|exact trivial|with_reducible rfl|exact qlr _|exact qRr|exact Qo _ _ _ _|exact rfl|refine And.intro ?_ ?_
theorem QNZ:QE 1 ((List.range n).map f).length (fun i _=>f i) (fun i=>QA.enc (((List.range n).map f).getD i (0:Int))):=by
 intro i hi;show eqF 1 0 (fun _=>f i) (QA.enc (((List.range n).map f).getD i (0:Int)));have hi:i<n:=by simpa using hi
 have:((List.range n).map f).getD i (0:Int)=f i:=by simp[List.getD_eq_getElem?_getD,hi]
 rw[this];exact⟨rfl,trivial⟩
theorem QQ4(hs:ZQ x)(hx:x.ok=true)(hr:K4 x=false):QQ Try.prog 20 (wFC (Vl XZ (x,()))):=by
 have hg:=VI hx;have hss:=hg.s;have hC:=QJH (x:=x) hg.d.n9;have hon:=QLe hg hC x.scans.n [] (0,fun _=>0) noH (by simp) (fun c hc=>by cases hc) trivial
 obtain⟨s,h,he⟩:=Zm (C:=Qz x x.scans.n) (x:=x) (Y:=plY) (fun _ _=>rfl) x.scans.n [] (0,fun _=>0) noH;rw[he]at hon;have hT:QW (vM Qt x (Qz x x.scans.n) (plU x (Qz x x.scans.n) Xp Xd [] noH 0 (fun _=>0) h s.1 s.2)):=(KL.add (QCI x hs hx hr)).add hon
 have hv:QF x=match decide (s.1>0)with
   | false=>([],0,6)
   | true=>((List.range x.scans.n).map s.2,s.2 12,0):=by
  simp only[QF,hx,hr,QDp,he]
 refine qm (c:=Qr Try.f20) (E:=mkE Try.prog (vM Qt x (Qz x x.scans.n) (plU x (Qz x x.scans.n) Xp Xd [] noH 0 (fun _=>0) h s.1 s.2))) (H:=QBl Try.prog (vM Qt x (Qz x x.scans.n) (plU x (Qz x x.scans.n) Xp Xd [] noH 0 (fun _=>0) h s.1 s.2)) s.2 x.scans.n) (QT hT) Try.func20 (by kernel_rfl) (by kernel_rfl) (N:=8) (by decide) (x,()) (fun G h1 h2=>QRB hT _ _ hss G h1 h2) (QMs x) ?_
 refine Q5 (QQ1 Qt x (Qz x x.scans.n) h s.1 s.2) ?_;refine QG (JA.2 ?_) (QG (JA.2 ?_) (QI (fun q => ?_) (fun q => ?_)))
 ·repeat' first|with_reducible refine QR ?_ ?_|exact trivial|with_reducible rfl|exact qlr _|exact qRr|exact Qo _ _ _ _|refine And.intro ?_ ?_
 ·repeat' first|with_reducible refine QR ?_ ?_|exact trivial|with_reducible rfl|exact qlr _|exact qRr|exact Qo _ _ _ _|exact QGJ _|exact rfl|refine And.intro ?_ ?_
 ·have q:decide (s.1>0)=false:=by simpa using q
  simp only[XZ,hv,q];refine⟨rfl,rfl,_,QSE [] 0 6,?_⟩
  repeat' first|with_reducible refine QR ?_ ?_|exact trivial|with_reducible rfl|exact qlr _|exact qRr|exact Qo _ _ _ _|exact rfl|refine And.intro ?_ ?_
 ·have q:decide (s.1>0)=true:=by simpa using q
  repeat' first|refine QU (p:=_=_) rfl ?_|refine QU (p:=_≤_) (qlr _) ?_|refine QU (p:=_≤_) (Nat.zero_le _) ?_|refine QU (p:=QE _ _ _ _) (qRr) ?_|refine QU (p:=QE _ _ _ _) (fun i hi=>absurd hi (Nat.not_lt_zero i)) ?_
  refine KB fun _=>KE fun g => ?_;simp only[XZ,hv,q];refine⟨rfl,rfl,_,QWz x s.2 _ _ 0,?_⟩
  repeat' first|with_reducible refine QR ?_ ?_|exact trivial|with_reducible rfl|exact qlr _|exact qRr|exact Qo _ _ _ _|exact(by simp:x.scans.n=((List.range x.scans.n).map s.2).length)|exact(by simp:((List.range x.scans.n).map s.2).length≤x.scans.n)|exact QNZ _ _|exact rfl|refine And.intro ?_ ?_
theorem QNF(hx:(XZ (x,())).1=true):QQ Try.prog 20 (wFC (Vl XZ (x,()))):=by
 obtain⟨h1,h2,h3⟩:=qdt hx;have hs:ZQ x:=⟨h1,h2,h3⟩;cases ho:x.ok with
 | false=>exact QMi x 1 (QFk x hs ho) (by decide) (by simp only[QF,ho])
 | true=>cases hr:K4 x with
  | true=>exact QMi x 11 (QFo x hs ho hr) (by decide) (by simp only[QF,ho,hr])
  | false=>exact QQ4 x hs ho hr
theorem QUM:QQ Try.prog 20 QLg:=QC0 (by kernel_rfl) fun|(x,()),hx=>QNF x hx
end Go.Proofs.Ytbpffdkemeoajaa
