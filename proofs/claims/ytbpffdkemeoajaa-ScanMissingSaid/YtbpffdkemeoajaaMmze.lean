/- Told: its contract (layer 7). -/
import Derived.Test.YtbpffdkemeoajaaMmzd
import Derived.Test.YtbpffdkemeoajaaMmu
import Derived.Test.YtbpffdkemeoajaaMmp
set_option maxRecDepth 100000
namespace Go.Proofs.Ytbpffdkemeoajaa
open Go.SX
def QNA (b:Nat) (f:List QA) (moved turned:Int):List (Nat×Blk):=[(120,.cells 0 38 [.slz b 0 f.length (.of 0)]),rwL b f,(112,.cells 0 92 [.int false .i64 moved]),(104,.cells 0 92 [.int false .i64 turned])]
def Zj (f:List QA) (moved turned:Int) (k:Nat):JSt:=⟨53,[(6,.ptr 104 0 0),(7,.ptr 112 0 0),(8,.ptr 120 0 0),(29,.int false .i64 f.length),(30,.int false .i64 k)],QNA 464 f moved turned,472⟩
def QBu (f:List QA):JSt:=⟨53,[(8,.ptr 120 0 0)],[(120,.cells 0 38 [.slz 464 0 f.length (.of 0)]),rwL 464 f],472⟩
def QKW:Ex→List Nat
 | .normal=>[6,7,8,29,30]
 | .exit _=>[8]
 | .ret=>[]
def qG (f:List QA) (e:Int):AV := .tup [.slz 0 0 f.length (.of 0),.int false .i64 e]
noncomputable abbrev Hr (f:List QA) (k:Nat):List AV:=
  [.nilp,.ptr 53 0 0,.ptr 104 0 0,.ptr 112 0 0,.ptr 120 0 0,.int false .i64 (↑f.length:Int),.int false .i64 (IntKind.i64.wrap ((↑k:Int) + (1:Int)))]
noncomputable abbrev Gk (turned:Int):Nat×Blk:=
  (104,.cells 0 92 [.int false .i64 turned])
noncomputable abbrev Hk (moved:Int):Nat×Blk:=
  (112,.cells 0 92 [.int false .i64 moved])
noncomputable abbrev vd (f:List QA):Nat×Blk:=
  (120,.cells 0 38 [.slz 464 0 f.length (Cap.of 0)])
noncomputable abbrev QAA:List AV:=
  [.int true .i64 (-1:Int),.int true .i64 (0:Int)]
noncomputable abbrev QGF (f:List QA) (k:Nat) (moved:Int) (turned:Int):List (Nat×Blk):=
  [(Gk turned),(Hk moved),(vd f),(464,.rowz true 56 [.int .i64,.int .i64] f.length fun i=>bif decide (i=k) then JC QAA 0 (bif decide (k=k) then JC [.int true
  .i64 (0:Int)] 1 (QB.enc (f.getD k (QA.mk (0:Int) (0:Int)))) else QB.enc (f.getD k (QA.mk (0:Int) (0:Int)))) else bif decide (i=k) then JC [.int true .i64 (0 :
  Int)] 1 (QB.enc (f.getD k (QA.mk (0:Int) (0:Int)))) else QB.enc (f.getD i (QA.mk (0:Int) (0:Int))))]
noncomputable abbrev QEE (f:List QA) (k:Nat) (moved:Int) (turned:Int):List (Nat×Blk):=
  [(Gk turned),(Hk moved),(vd f),(464,.rowz true 56 [.int .i64,.int .i64] f.length fun i=>bif decide (i=k) then JC QAA 0 (QB.enc (f.getD k (QA.mk (0:Int) (0 :
  Int)))) else QB.enc (f.getD i (QA.mk (0:Int) (0:Int))))]
theorem QTy (f:List QA) (moved turned:Int) (k:Nat) (g:Nat→Value) :exec (mkE Try.prog Qu) (hnd (mkE Try.prog Qu) 3) (Qf Try.f33 0) (JSt.inst (Zj f moved turned k) g) (KT [] QKW) = .br (decide ((↑k:Int) < (↑f.length:Int)))
  (.need (decide ((0:Int)≤(↑k:Int))) (.br (IntKind.i64.wrap (↑(BitVec.ofInt 64 (turned.fdiv ((2:Int) ^ min k 64)) &&& BitVec.ofInt 64 (1:Int)).toNat:Int) == (1:Int))
  (.need (decide ((0:Int)≤(↑k:Int)∧(↑k:Int) < (↑f.length:Int))&&decide (f.length≤f.length)) (.need (decide (k < f.length)) (.need (decide ((0:Int)≤(↑k:Int)))
  (.br (IntKind.i64.wrap (↑(BitVec.ofInt 64 (moved.fdiv ((2:Int) ^ min k 64)) &&& BitVec.ofInt 64 (1:Int)).toNat:Int) == (1:Int)) (.need (decide ((0:Int)≤(↑k:Int)∧(↑k
  : Int) < (↑f.length:Int))&&decide (f.length≤f.length)) (.need (decide (k < f.length)) (.leaf (.tup (Hr f k)) ((QGF f k moved turned))))) (.leaf (.tup (Hr f k)) ([(Gk
  turned),(Hk moved),(vd f),(464,.rowz true 56 [.int .i64,.int .i64] f.length fun i=>bif decide (i=k) then JC [.int true .i64 (0:Int)] 1 (QB.enc (f.getD k (QA.mk
  (0:Int) (0:Int)))) else QB.enc (f.getD i (QA.mk (0:Int) (0:Int))))])))))) (.need (decide ((0:Int)≤(↑k:Int))) (.br (IntKind.i64.wrap (↑(BitVec.ofInt 64 (moved.fdiv
  ((2:Int) ^ min k 64)) &&& BitVec.ofInt 64 (1:Int)).toNat:Int) == (1:Int)) (.need (decide ((0:Int)≤(↑k:Int)∧(↑k:Int) < (↑f.length:Int))&&decide (f.length ≤
  f.length)) (.need (decide (k < f.length)) (.leaf (.tup (Hr f k)) ((QEE f k moved turned))))) (.leaf (.tup (Hr f k)) ([(Gk turned),(Hk moved),(vd f),(464,.rowz true 56
  [.int .i64,.int .i64] f.length fun i=>QB.enc (f.getD i (QA.mk (0:Int) (0:Int))))])))))) (.leaf (.tup [.ptr 0 0 0,.ptr 53 0 0,.ptr 120 0 0]) ([(vd f),(464,.rowz true
  56 [.int .i64,.int .i64] f.length fun i=>QB.enc (f.getD i (QA.mk (0:Int) (0:Int))))])):=by kernel_rfl
theorem QSF (pb:List Prop→Bool) (x:QE) (e:Int):KY (mkE Try.prog (JX pb (opE x e))) (hnd (mkE Try.prog (JX pb (opE x e))) 1) Try.f33 (QS.vals 0 ((x,()):QE×Unit)) (QS.blks 0 ((x,()):QE×Unit)) 8 =
  QC.need (pb ([x.d.play.length = x.d.play.length, x.d.play.slack = x.d.play.slack, x.d.play.loose = x.d.play.loose, x.d.play.damp.lo = x.d.play.damp.lo, x.d.play.damp.hi = x.d.play.damp.hi, x.d.wide = x.d.wide, x.d.high = x.d.high, x.d.turn = x.d.turn, (0 : Nat) = (0 : Nat), x.d.ps.n = x.d.ps.n, Cap.of (0 : Nat) = Cap.of (0 : Nat), (0 : Nat) = (0 : Nat), x.scans.n = x.scans.n, Cap.of (0 : Nat) = Cap.of (0 : Nat), (0 : Nat) = (0 : Nat), x.hang.n = x.hang.n, Cap.of (0 : Nat) = Cap.of (0 : Nat), x.lost = x.lost, x.foreign = x.foreign, x.d.ps.n ≤ x.d.ps.n, QD (28 : Nat) x.d.ps.n (fun i => QB.enc (x.d.ps.get i)) fun i => QB.enc (x.d.ps.get i), x.scans.n ≤ x.scans.n, QD (28 : Nat) x.scans.n (fun i => QB.enc (x.scans.get i)) fun i => QB.enc (x.scans.get i), x.hang.n ≤ x.hang.n, QD (4 : Nat) x.hang.n (fun i => QB.enc (x.hang.get i)) fun i => QB.enc (x.hang.get i)])) (QC.br (e != (0 : Int)) (QC.leaf (AV.tup [AV.nils, AV.int false IntKind.i64 e]) ([])) (QC.fail ("a call without a contract"))) := by kernel_rfl
theorem QRw (pb:List Prop→Bool) (d:Puz) (s:Nat→QP) (hang:Rw Jn) (lo fo:Int):KY (mkE Try.prog (JX pb (opO ⟨d,⟨0,s⟩,hang,lo,fo⟩ []))) (hnd (mkE Try.prog (JX pb (opO ⟨d,⟨0,s⟩,hang,lo,fo⟩ []))) 8) Try.f33 (QS.vals 0 ((⟨d,⟨0,s⟩,hang,lo,fo⟩,()):QE×Unit)) (QS.blks 0 ((⟨d,⟨0,s⟩,hang,lo,fo⟩,()):QE×Unit)) 8 =
  QC.need (pb ([d.play.length = d.play.length, d.play.slack = d.play.slack, d.play.loose = d.play.loose, d.play.damp.lo = d.play.damp.lo, d.play.damp.hi = d.play.damp.hi, d.wide = d.wide, d.high = d.high, d.turn = d.turn, (0 : Nat) = (0 : Nat), d.ps.n = d.ps.n, Cap.of (0 : Nat) = Cap.of (0 : Nat), (0 : Nat) = (0 : Nat), (0 : Nat) = (0 : Nat), Cap.of (0 : Nat) = Cap.of (0 : Nat), (0 : Nat) = (0 : Nat), hang.n = hang.n, Cap.of (0 : Nat) = Cap.of (0 : Nat), lo = lo, fo = fo, d.ps.n ≤ d.ps.n, QD (28 : Nat) d.ps.n (fun i => QB.enc (d.ps.get i)) fun i => QB.enc (d.ps.get i), (0 : Nat) ≤ (0 : Nat), QD (28 : Nat) (0 : Nat) (fun i => QB.enc ((Rw.mk (0 : Nat) s).get i)) fun i => QB.enc ((Rw.mk (0 : Nat) s).get i), hang.n ≤ hang.n, QD (4 : Nat) hang.n (fun i => QB.enc (hang.get i)) fun i => QB.enc (hang.get i)])) (QC.br (true) (QC.br (decide (IntKind.i64.wrap ((↑d.ps.n : Int) - (0 : Int)) > lo)) (QC.leaf (AV.tup [AV.nils, AV.int true IntKind.i64 (6 : Int)]) ([])) (QC.leaf (AV.tup [AV.nils, AV.int true IntKind.i64 (0 : Int)]) ([]))) (QC.need (false) (QC.fail ("scan.go:188")))) := by kernel_rfl
def jU (pb:List Prop→Bool) (x:QE) (C:List (List QA)) (U:UC):Tab:=QX (JX pb (opO x C)) 77 (Ji pb U)
abbrev QCa (P:Program) (T:Tab) (f f2:List QA) (moved turned:Int):Hnd:={ hnd (mkE P T) 8 with loop:=fun _=>KC 8 [] (Zj f moved turned (0:Nat)) [(True,.exit 0,QBu f2)] }
theorem QOT (pb:List Prop→Bool) (x:QE) (C:List (List QA)) (has':Int→Bool) (many' n':Int) (f':List QA) (moved' turned':Int) (f2:List QA) :KY (mkE Try.prog (jU pb x C (tdU x C (QQ Try.f53 0).1 (QQ Try.f53 0).2 [] noH 0 0 [] 0 0 has' many' n' f' moved' turned'))) (QCa Try.prog (jU pb x C (tdU x C
  (QQ Try.f53 0).1 (QQ Try.f53 0).2 [] noH 0 0 [] 0 0 has' many' n' f' moved' turned')) f' f2 moved' turned') Try.f33 (QS.vals 0 ((x,()):QE×Unit)) (QS.blks 0 ((x,
  ()):QE×Unit)) 8 = .need (pb ([x.d.play.length=x.d.play.length,x.d.play.slack=x.d.play.slack,x.d.play.loose=x.d.play.loose,x.d.play.damp.lo=x.d.play.damp.lo,
  x.d.play.damp.hi=x.d.play.damp.hi,x.d.wide=x.d.wide,x.d.high=x.d.high,x.d.turn=x.d.turn,0=0,x.d.ps.n=x.d.ps.n,Cap.of 0=Cap.of 0,0=0,x.scans.n=x.scans.n,
  Cap.of 0=Cap.of 0,0=0,x.hang.n=x.hang.n,Cap.of 0=Cap.of 0,x.lost=x.lost,x.foreign=x.foreign,x.d.ps.n≤x.d.ps.n,QD 28 x.d.ps.n (fun i=>QB.enc (x.d.ps.get
  i)) fun i=>QB.enc (x.d.ps.get i),x.scans.n≤x.scans.n,QD 28 x.scans.n (fun i=>QB.enc (x.scans.get i)) fun i=>QB.enc (x.scans.get i),x.hang.n≤x.hang.n,QD 4
  x.hang.n (fun i=>QB.enc (x.hang.get i)) fun i=>QB.enc (x.hang.get i)])) (.need (pb ([0=0,0=0,0=0,0=0,0=0,0=0,0=0,0=0,0=0,0=0,0=0,0=0,([]
  : List MapEntry)=[],G2 (.int true .i64 (0:Int)) noH fun i => .int false .i64 (QI [] i),LoopState.ready=LoopState.ready,(none:Option Code)=none,Array.mk [12] =
  Array.mk [12],(QQ Try.f53 0).1=(QQ Try.f53 0).1,(QQ Try.f53 0).2=(QQ Try.f53 0).2,0=0,0=0,(0:Int)=(0:Int),Fn.func 62=Fn.func 62,0=0,0=0,
  0=0,0=0,0=0,0=0,0=0,0=0,0=0,0=0,(0:Int)=(0:Int),false=false,0=0,0=0,0=0,0=0,Fn.func 76=Fn.func 76,0=0,0=0,(0:Int)=(0 :
  Int),(0:Int)=(0:Int),0=0,0=0,(0:Int)=(0:Int),(0:Int)=(0:Int),Fn.func 77=Fn.func 77,0=0,0=0,0=0,0=0,0=0,0=0,0=0,0=0,0=0,0 =
  0,0=0,0=0,Fn.func 62=Fn.func 62,0=0,0=0,0=0,0=0,0=0,0=0,x.d.play.length=x.d.play.length,x.d.play.slack=x.d.play.slack,x.d.play.loose =
  x.d.play.loose,x.d.play.damp.lo=x.d.play.damp.lo,x.d.play.damp.hi=x.d.play.damp.hi,x.d.wide=x.d.wide,x.d.high=x.d.high,x.d.turn=x.d.turn,0=0,x.d.ps.n=x.d.ps.n,
  Cap.of 0=Cap.of 0,0=0,x.scans.n=x.scans.n,Cap.of 0=Cap.of 0,0=0,x.hang.n=x.hang.n,Cap.of 0=Cap.of 0,x.lost=x.lost,x.foreign=x.foreign,0=0,C.length =
  C.length,Cap.of 0=Cap.of 0,C.length=C.length,Kd 2 C.length (fun i=>(QJ C i).length) (fun i=>(QJ C i).length) (fun i j=>QB.enc ((QJ C i).getD j (QA.mk (0
  : Int) (0:Int)))) fun i j=>QB.enc ((QJ C i).getD j (QA.mk (0:Int) (0:Int))),x.d.ps.n≤x.d.ps.n,QD 28 x.d.ps.n (fun i=>QB.enc (x.d.ps.get i)) fun i=>
  QB.enc (x.d.ps.get i),x.scans.n≤x.scans.n,QD 28 x.scans.n (fun i=>QB.enc (x.scans.get i)) fun i=>QB.enc (x.scans.get i),x.hang.n≤x.hang.n,QD 4 x.hang.n
  (fun i=>QB.enc (x.hang.get i)) fun i=>QB.enc (x.hang.get i)])) (.br (!decide (many' > (0:Int))) (.leaf (.tup [.nils,.int true .i64 (6:Int)]) ([])) (.ask (0=0) (.ask
  (0=0) (.ask (0=0) (.ask (0=0) (.ask (0=0) (.ask (0=0) (.ask ((↑f'.length:Int)=(↑f'.length:Int)) (.ask ((0:Int)=(0:Int)) (.ask (0=0) (.ask (f'.length =
  f'.length) (.ask (Cap.of 0=Cap.of 0) (.ask (f'.length≤f'.length) (.ask (QD 2 f'.length (fun i=>QB.enc (f'.getD i (QA.mk (0:Int) (0:Int)))) fun i=>QB.enc
  (f'.getD i (QA.mk (0:Int) (0:Int)))) (.ask (moved'=moved') (.ask (turned'=turned') (.asm (True) (.all (fun (g0:Nat→Value) => .leaf (.tup [.slz 464 0 f2.length (Cap.of
  0),.int true .i64 (0:Int)]) ([(464,.rowz true 56 [.int .i64,.int .i64] f2.length fun i=>QB.enc (f2.getD i (QA.mk (0:Int) (0:Int))))]))))))))))))))))))))):=by kernel_rfl
noncomputable abbrev QKg (f:List QA) (k:Nat):List AV:=
  [.ptr 104 0 0,.ptr 112 0 0,.ptr 120 0 0,.int false .i64 (↑f.length:Int),.int false .i64 (IntKind.i64.wrap ((↑k:Int) + (1:Int)))]
theorem QMr (f f':List QA) (moved turned:Int) (k k':Nat) :QO 8 (QKg f k) ((QGF f k moved turned)) (Zj f' moved turned k')=( some [0=0,0=0,0=0,0=0,0=0,0=0,(↑f.length:Int)=(↑f'.length:Int),IntKind.i64.wrap
  ((↑k:Int) + (1:Int))=(↑k':Int),0=0,f.length=f'.length,Cap.of 0=Cap.of 0,f'.length≤f.length,QD 2 f'.length (fun i=>bif decide (i=k) then JC QAA 0 (bif
  decide (k=k) then JC [.int true .i64 (0:Int)] 1 (QB.enc (f.getD k (QA.mk (0:Int) (0:Int)))) else QB.enc (f.getD k (QA.mk (0:Int) (0:Int)))) else bif decide (i
  = k) then JC [.int true .i64 (0:Int)] 1 (QB.enc (f.getD k (QA.mk (0:Int) (0:Int)))) else QB.enc (f.getD i (QA.mk (0:Int) (0:Int)))) fun i=>QB.enc (f'.getD i
  (QA.mk (0:Int) (0:Int))),moved=moved,turned=turned]):=by kernel_rfl
theorem QPm (f f':List QA) (moved turned:Int) (k k':Nat):QO 8 [AV.ptr (104:Nat) (0:Nat) (0:Nat),AV.ptr (112:Nat) (0:Nat) (0:Nat),AV.ptr (120:Nat) (0:Nat) (0:Nat),AV.int false IntKind.i64 (↑f.length:Int),AV.int false IntKind.i64 (IntKind.i64.wrap ((↑k:Int) + (1:Int)))] ([((104:Nat),Blk.cells (0:Nat) (92:Nat) [AV.int false IntKind.i64 turned]),((112:Nat),Blk.cells (0:Nat) (92:Nat) [AV.int false IntKind.i64 moved]),((120:Nat),Blk.cells (0:Nat) (38:Nat) [AV.slz (464:Nat) (0:Nat) f.length (Cap.of (0:Nat))]),((464:Nat),Blk.rowz true (56:Nat) [CK.int IntKind.i64,CK.int IntKind.i64] f.length fun i=>bif decide (i=k) then JC [AV.int true IntKind.i64 (0:Int)] (1:Nat) (QB.enc (f.getD k (QA.mk (0:Int) (0:Int)))) else QB.enc (f.getD i (QA.mk (0:Int) (0:Int))))]) (Zj f' moved turned k')=(
  some [(0:Nat)=(0:Nat),(0:Nat)=(0:Nat),(0:Nat)=(0:Nat),(0:Nat)=(0:Nat),(0:Nat)=(0:Nat),(0:Nat)=(0:Nat),(↑f.length:Int)=(↑f'.length :
  Int),IntKind.i64.wrap ((↑k:Int) + (1:Int))=(↑k':Int),(0:Nat)=(0:Nat),f.length=f'.length,Cap.of (0:Nat)=Cap.of (0:Nat),f'.length≤f.length,QD (2 :
  Nat) f'.length (fun i=>bif decide (i=k) then JC [AV.int true IntKind.i64 (0:Int)] (1:Nat) (QB.enc (f.getD k (QA.mk (0:Int) (0:Int)))) else QB.enc (f.getD i
  (QA.mk (0:Int) (0:Int)))) fun i=>QB.enc (f'.getD i (QA.mk (0:Int) (0:Int))),moved=moved,turned=turned]):=by kernel_rfl
theorem QM0 (f f':List QA) (moved turned:Int) (k k':Nat) :QO 8 (QKg f k) ((QEE f k moved turned)) (Zj f' moved turned k')=( some [0=0,0=0,0=0,0=0,0=0,0=0,(↑f.length:Int)=(↑f'.length:Int),IntKind.i64.wrap
  ((↑k:Int) + (1:Int))=(↑k':Int),0=0,f.length=f'.length,Cap.of 0=Cap.of 0,f'.length≤f.length,QD 2 f'.length (fun i=>bif decide (i=k) then JC QAA 0
  (QB.enc (f.getD k (QA.mk (0:Int) (0:Int)))) else QB.enc (f.getD i (QA.mk (0:Int) (0:Int)))) fun i=>QB.enc (f'.getD i (QA.mk (0:Int) (0:Int))),moved =
  moved,turned=turned]):=by kernel_rfl
theorem QNo (f f':List QA) (moved turned:Int) (k k':Nat):QO 8 [AV.ptr (104:Nat) (0:Nat) (0:Nat),AV.ptr (112:Nat) (0:Nat) (0:Nat),AV.ptr (120:Nat) (0:Nat) (0:Nat),AV.int false IntKind.i64 (↑f.length:Int),AV.int false IntKind.i64 (IntKind.i64.wrap ((↑k:Int) + (1:Int)))] ([((104:Nat),Blk.cells (0:Nat) (92:Nat) [AV.int false IntKind.i64 turned]),((112:Nat),Blk.cells (0:Nat) (92:Nat) [AV.int false IntKind.i64 moved]),((120:Nat),Blk.cells (0:Nat) (38:Nat) [AV.slz (464:Nat) (0:Nat) f.length (Cap.of (0:Nat))]),((464:Nat),Blk.rowz true (56:Nat) [CK.int IntKind.i64,CK.int IntKind.i64] f.length fun i=>QB.enc (f.getD i (QA.mk (0:Int) (0:Int))))]) (Zj f' moved turned k')=(
  some [(0:Nat)=(0:Nat),(0:Nat)=(0:Nat),(0:Nat)=(0:Nat),(0:Nat)=(0:Nat),(0:Nat)=(0:Nat),(0:Nat)=(0:Nat),(↑f.length:Int)=(↑f'.length :
  Int),IntKind.i64.wrap ((↑k:Int) + (1:Int))=(↑k':Int),(0:Nat)=(0:Nat),f.length=f'.length,Cap.of (0:Nat)=Cap.of (0:Nat),f'.length≤f.length,QD (2 :
  Nat) f'.length (fun i=>QB.enc (f.getD i (QA.mk (0:Int) (0:Int)))) fun i=>QB.enc (f'.getD i (QA.mk (0:Int) (0:Int))),moved=moved,turned=turned]):=by kernel_rfl
theorem QQV (f f':List QA):QO 8 [AV.ptr (120:Nat) (0:Nat) (0:Nat)] ([((120:Nat),Blk.cells (0:Nat) (38:Nat) [AV.slz (464:Nat) (0:Nat) f.length (Cap.of (0:Nat))]),((464:Nat),Blk.rowz true (56:Nat) [CK.int IntKind.i64,CK.int IntKind.i64] f.length fun i=>QB.enc (f.getD i (QA.mk (0:Int) (0:Int))))]) (QBu f')=(
  some [(0:Nat)=(0:Nat),(0:Nat)=(0:Nat),(0:Nat)=(0:Nat),f.length=f'.length,Cap.of (0:Nat)=Cap.of (0:Nat),f'.length≤f.length,QD (2:Nat)
  f'.length (fun i=>QB.enc (f.getD i (QA.mk (0:Int) (0:Int)))) fun i=>QB.enc (f'.getD i (QA.mk (0:Int) (0:Int)))]):=by kernel_rfl
theorem QLI (e:Int) (f:List QA) (e':Int):QO 8 [(AV.tup [AV.nils,AV.int false IntKind.i64 e])] ([]) (Ks 8 (qG f e') [KW 56 0 f ⟨0,0⟩])=(
  some [f.length=(0:Nat),e=e',f.length=(0:Nat)]):=by kernel_rfl
theorem QNT (f:List QA) (e':Int):QO 8 [(AV.tup [AV.nils,AV.int true IntKind.i64 (6:Int)])] ([]) (Ks 8 (qG f e') [KW 56 0 f ⟨0,0⟩])=(
  some [f.length=(0:Nat),(6:Int)=e',f.length=(0:Nat)]):=by kernel_rfl
theorem QNt (f:List QA) (e':Int):QO 8 [(AV.tup [AV.nils,AV.int true IntKind.i64 (0:Int)])] ([]) (Ks 8 (qG f e') [KW 56 0 f ⟨0,0⟩])=(
  some [f.length=(0:Nat),(0:Int)=e',f.length=(0:Nat)]):=by kernel_rfl
theorem QQx (f:List QA) (e':Int):QO 8 [(AV.tup [AV.nils,AV.int true IntKind.i64 (6:Int)])] ([]) (Ks 8 (qG f e') [KW 56 0 f ⟨0,0⟩])=(
  some [f.length=(0:Nat),(6:Int)=e',f.length=(0:Nat)]):=by kernel_rfl
theorem QOo (f2:List QA) (f:List QA) (e':Int):QO 8 [(AV.tup [AV.slz (464:Nat) (0:Nat) f2.length (Cap.of (0:Nat)),AV.int true IntKind.i64 (0:Int)])] ([((464:Nat),Blk.rowz true (56:Nat) [CK.int IntKind.i64,CK.int IntKind.i64] f2.length fun i=>QB.enc (f2.getD i (QA.mk (0:Int) (0:Int))))]) (Ks 8 (qG f e') [KW 56 0 f ⟨0,0⟩])=(
  some [(0:Nat)=(0:Nat),f2.length=f.length,Cap.of (0:Nat)=Cap.of (0:Nat),(0:Int)=e',f.length≤f2.length,QD (2:Nat) f.length (fun i=>QB.enc (f2.getD i
  (QA.mk (0:Int) (0:Int)))) fun i=>QB.enc (f.getD i (QA.mk (0:Int) (0:Int)))]):=by kernel_rfl
def bitV (s:Int) (k:Nat):Bool:=IntKind.i64.wrap (((BitVec.ofInt 64 (s.fdiv (2 ^ min k 64)) &&& BitVec.ofInt 64 1).toNat:Nat):Int) == 1
def Vx (m t:Int) (k:Nat) (c:QA):QA:=match bitV m k with
 | true=>⟨-1,0⟩
 | false=>match bitV t k with
  | true=>⟨c.cell,0⟩
  | false=>c
def KP (f:List QA) (m t:Int):Nat→List QA
 | 0=>f
 | k + 1=>(KP f m t k).set k (Vx m t k ((KP f m t k).getD k ⟨0,0⟩))
theorem ZM (f:List QA) (m t:Int):∀ k,(KP f m t k).length=f.length
 | 0=>rfl
 | k + 1=>by rw [KP,List.length_set];exact ZM f m t k
theorem G5 {L:List QA} {k:Nat} (h:k < L.length) {c:QA} (G:Nat→Nat→Int) (h1:∀ i,i≠k→eqF 2 0 (G i) (QB.enc (L.getD i ⟨0,0⟩))) (h2:eqF 2 0 (G k) (QB.enc c)):QD 2 (L.set k c).length G (fun i=>QB.enc ((L.set k c).getD i ⟨0,0⟩)):=by
 intro i hi
 show eqF 2 0 (G i) (QB.enc ((L.set k c).getD i ⟨0,0⟩))
 by_cases e:i=k
 ·subst e
  rw [List.getD_eq_getElem?_getD,List.getElem?_set_self h];exact h2
 ·rw [List.getD_eq_getElem?_getD,List.getElem?_set_ne (fun q=>e q.symm),←List.getD_eq_getElem?_getD];exact h1 i e
theorem QN7 (f:List QA) (moved turned:Int) (hf:f.length≤1000):JK (fun k=>Zj (KP f moved turned k) moved turned k) (fun k=>k≤f.length) (fun k=>f.length - k) (fun _ e J=>e = .exit 0∧J=QBu (KP f moved turned f.length)) 8 QKW [] (mkE Try.prog Qu) (fun _=>hnd (mkE Try.prog Qu) 3) (Qf Try.f33 0):=by
 refine ⟨fun k g hk=>KF (QTy (KP f moved turned k) moved turned k g) ?_⟩
 have hl:=ZM f moved turned k
 have hl2:=ZM f moved turned (k + 1)
 refine QL (fun h => ?_) (fun h => ?_)
 ·have h:k < f.length:=by have:=of_decide_eq_true h;rw [hl] at this;omega
  have hw:=Xo h hf
  refine QF (by simp) (QL (fun ht=>QF (by rw [hl];simp;omega) (QF (by rw [hl];simp;omega) (QF (by simp) (QL (fun hm=>QF (by rw [hl];simp;omega) (QF (by rw [hl];simp;omega) ?_)) (fun hm => ?_))))) (fun ht=>QF (by simp) (QL (fun hm=>QF (by rw [hl];simp;omega) (QF (by rw [hl];simp;omega) ?_)) (fun hm => ?_))))
  ·refine ⟨k + 1,h,by show f.length - (k + 1) < f.length - k;omega,fun _ _ h=>h,rfl,rfl,_,QMr (KP f moved turned k) (KP f moved turned (k + 1)) moved turned k (k + 1),?_⟩
   have e1:Vx moved turned k ((KP f moved turned k).getD k ⟨0,0⟩)=⟨-1,0⟩:=by simp only [Vx,bitV,ht,hm]
   repeat' first|exact trivial|with_reducible rfl|exact Nat.le_refl _|exact QD.refl _ _ _|exact Qp _ _ _ _|exact hw|exact hl.trans hl2.symm|exact hl2.trans hl.symm|exact congrArg (fun n:Nat=>(n:Int)) (hl.trans hl2.symm)|exact hl2.symm|exact Nat.le_of_eq (hl2.trans hl.symm)|exact G5 (by rw [hl];exact h) _ (fun i hi=>by simp only [decide_eq_false hi,cond_false];exact Yp _ _ _) (by rw [e1];simp only [decide_true,cond_true];exact ⟨rfl,rfl,trivial⟩)|refine And.intro ?_ ?_
  ·refine ⟨k + 1,h,by show f.length - (k + 1) < f.length - k;omega,fun _ _ h=>h,rfl,rfl,_,QPm (KP f moved turned k) (KP f moved turned (k + 1)) moved turned k (k + 1),?_⟩
   have e1:Vx moved turned k ((KP f moved turned k).getD k ⟨0,0⟩)=⟨((KP f moved turned k).getD k ⟨0,0⟩).cell,0⟩:=by simp only [Vx,bitV,ht,hm]
   repeat' first|exact trivial|with_reducible rfl|exact Nat.le_refl _|exact QD.refl _ _ _|exact Qp _ _ _ _|exact hw|exact hl.trans hl2.symm|exact hl2.trans hl.symm|exact congrArg (fun n:Nat=>(n:Int)) (hl.trans hl2.symm)|exact hl2.symm|exact Nat.le_of_eq (hl2.trans hl.symm)|exact G5 (by rw [hl];exact h) _ (fun i hi=>by simp only [decide_eq_false hi,cond_false];exact Yp _ _ _) (by rw [e1];simp only [decide_true,cond_true];exact ⟨rfl,rfl,trivial⟩)|refine And.intro ?_ ?_
  ·refine ⟨k + 1,h,by show f.length - (k + 1) < f.length - k;omega,fun _ _ h=>h,rfl,rfl,_,QM0 (KP f moved turned k) (KP f moved turned (k + 1)) moved turned k (k + 1),?_⟩
   have e1:Vx moved turned k ((KP f moved turned k).getD k ⟨0,0⟩)=⟨-1,0⟩:=by simp only [Vx,bitV,ht,hm]
   repeat' first|exact trivial|with_reducible rfl|exact Nat.le_refl _|exact QD.refl _ _ _|exact Qp _ _ _ _|exact hw|exact hl.trans hl2.symm|exact hl2.trans hl.symm|exact congrArg (fun n:Nat=>(n:Int)) (hl.trans hl2.symm)|exact hl2.symm|exact Nat.le_of_eq (hl2.trans hl.symm)|exact G5 (by rw [hl];exact h) _ (fun i hi=>by simp only [decide_eq_false hi,cond_false];exact Yp _ _ _) (by rw [e1];simp only [decide_true,cond_true];exact ⟨rfl,rfl,trivial⟩)|refine And.intro ?_ ?_
  ·refine ⟨k + 1,h,by show f.length - (k + 1) < f.length - k;omega,fun _ _ h=>h,rfl,rfl,_,QNo (KP f moved turned k) (KP f moved turned (k + 1)) moved turned k (k + 1),?_⟩
   have e1:Vx moved turned k ((KP f moved turned k).getD k ⟨0,0⟩)=(KP f moved turned k).getD k ⟨0,0⟩:=by simp only [Vx,bitV,ht,hm]
   repeat' first|exact trivial|with_reducible rfl|exact Nat.le_refl _|exact QD.refl _ _ _|exact Qp _ _ _ _|exact hw|exact hl.trans hl2.symm|exact hl2.trans hl.symm|exact congrArg (fun n:Nat=>(n:Int)) (hl.trans hl2.symm)|exact hl2.symm|exact Nat.le_of_eq (hl2.trans hl.symm)|exact G5 (by rw [hl];exact h) _ (fun i hi=>Yp _ _ _) (by rw [e1];exact Yp _ _ _)|refine And.intro ?_ ?_
 ·have:k=f.length:=by have:=of_decide_eq_false h;rw [hl] at this;omega
  subst this
  refine ⟨_,⟨rfl,rfl⟩,rfl,rfl,_,QQV (KP f moved turned f.length) (KP f moved turned f.length),?_⟩
  repeat' first|exact trivial|with_reducible rfl|exact Nat.le_refl _|exact QD.refl _ _ _|exact Qp _ _ _ _|refine And.intro ?_ ?_
theorem QQl {T:Tab} (hT:QU T) (f:List QA) (moved turned:Int) (hf:f.length≤1000) (G:Ctx) (hrd:G.rd=none) (hG:G.n=8):Q4 (mkE Try.prog T) G (QCa Try.prog T f (KP f moved turned f.length) moved turned) (Qm Try.f33):=by
 refine JR (body:=Qf Try.f33 0) (QN hT) hrd (by kernel_rfl) ?_
 refine WC (E:=mkE Try.prog Qu) rfl (Je (n0:=8) (QN KD) (by omega) (fun s hs=>Qt (QN KD) 3 G _ hrd) (fun s hs=>(by decide:8≤472)) ?_ (QN7 f moved turned hf) (s0:=0) (Nat.zero_le _) ?_)
 ·rintro s e J ⟨_,rfl⟩;exact (by decide:8≤472)
 ·rintro e J ⟨rfl,rfl⟩
  exact ⟨_,List.mem_cons_self,trivial,rfl,rfl⟩
def tdS (x:QE):Res TdS:=onT x (Qr x x.scans.n) tdY x.scans.n [] (0,0,[],0,0) noH
def Q7 (x:QE):List QA×Int:=match x.ok with
 | false=>([],1)
 | true=>match JZ x with
  | true=>([],11)
  | false=>match tdS x with
   | .stop s _ | .go s _=>match decide (s.1 > 0) with
    | false=>([],6)
    | true=>(KP s.2.2.1 s.2.2.2.1 s.2.2.2.2 s.2.2.1.length,0)
def VF:WF (QE×Unit):=fun|(x,_)=>(decide (x.d.ps.n≤1000∧x.scans.n≤1000∧x.hang.n≤1000),qG (Q7 x).1 (Q7 x).2,[KW 56 0 (Q7 x).1 ⟨0,0⟩])
def QGC:FC:=wFC VF
theorem QCU (x:QE):WOk (VF (x,())).2.1 (VF (x,())).2.2:=⟨rfl,by simp [VF,KW,Blk.own,Blk.all],rfl⟩
theorem QE5 (x:QE) (e:Int) (ht:QM Try.prog 49 (uFC (opE x e))) (he:e≠0) (hv:Q7 x=([],e)):QM Try.prog 33 (wFC (VZ VF (x,()))):=by
 have hT:QU (JX Qo (opE x e)):=KD.add ht
 refine Wx (c:=Qm Try.f33) (E:=mkE Try.prog (JX Qo (opE x e))) (H:=hnd (mkE Try.prog (JX Qo (opE x e))) 1) (QN hT) Try.func33 (by kernel_rfl) (by kernel_rfl) (N:=8) (by decide) (x,()) (fun G h1 _=>Qt (QN hT) 1 G _ h1) (QCU x) ?_
 refine KF (QSF Qo x e) ?_
 refine QF (Kr.2 ?_) (QL (fun _ => ?_) (fun h=>by simp at h;exact absurd h he))
 ·repeat' first|exact trivial|with_reducible rfl|exact Nat.le_refl _|exact QD.refl _ _ _|exact Qp _ _ _ _|refine And.intro ?_ ?_
 ·simp only [VF,hv]
  refine ⟨rfl,rfl,_,QLI e [] e,?_⟩
  repeat' first|exact trivial|with_reducible rfl|exact Nat.le_refl _|exact QD.refl _ _ _|exact Qp _ _ _ _|exact rfl|refine And.intro ?_ ?_
theorem QQL {x:QE}:∀ (d:Nat) (l:List QA) (s:TdS) (h:Int→Bool) {s':TdS} {h':Int→Bool},l.length + d=x.scans.n→(s.2.2.1.length=0∨s.2.2.1.length=x.scans.n)→onT x (Qr x x.scans.n) tdY d l s h = .go s' h'→s'.2.2.1.length=0∨s'.2.2.1.length=x.scans.n:=fun d l s h {s' h'} hn hg he=>QA6 (G:=fun s:TdS=>s.2.2.1.length=0∨s.2.2.1.length=x.scans.n) (fun s l hg hl=>by
  show (Qz s.2.1 l s.2.2.1).length=0∨(Qz s.2.1 l s.2.2.1).length=x.scans.n
  unfold Qz
  split
  ·exact .inr hl
  ·exact hg) d l s h hn hg he
theorem QSg (x:QE) (hs:YN x) (hx:x.ok=true) (hr:JZ x=false) (hpos:0 < x.scans.n):QM Try.prog 33 (wFC (VZ VF (x,()))):=by
 have hg:=VX hx
 have hss:=hs.s
 have hC:=QHt (x:=x) hg.d.n9
 have hon:=QDx hg hC hpos x.scans.n [] (0,0,[],0,0) noH (by simp) (fun c hc=>by cases hc) (fun q=>by cases q)
 obtain ⟨s,h,he⟩:=Za (C:=Qr x x.scans.n) (x:=x) (Y:=tdY) (fun _ _=>rfl) x.scans.n [] (0,0,[],0,0) noH
 rw [he] at hon
 have hlen:s.2.2.1.length≤1000:=by
  rcases QQL (x:=x) x.scans.n [] (0,0,[],0,0) noH (by simp) (.inl rfl) he with q|q<;>omega
 have hT:QU (jU Qo x (Qr x x.scans.n) (tdU x (Qr x x.scans.n) XC XD [] noH 0 0 [] 0 0 h s.1 s.2.1 s.2.2.1 s.2.2.2.1 s.2.2.2.2)):=(KD.add (QCg x hs hx hr)).add hon
 have hv:Q7 x=match decide (s.1 > 0) with
   | false=>([],6)
   | true=>(KP s.2.2.1 s.2.2.2.1 s.2.2.2.2 s.2.2.1.length,0):=by
  simp only [Q7,hx,hr,tdS,he]
 refine Wx (c:=Qm Try.f33) (E:=mkE Try.prog (jU Qo x (Qr x x.scans.n) (tdU x (Qr x x.scans.n) XC XD [] noH 0 0 [] 0 0 h s.1 s.2.1 s.2.2.1 s.2.2.2.1 s.2.2.2.2))) (H:=QCa Try.prog (jU Qo x (Qr x x.scans.n) (tdU x (Qr x x.scans.n) XC XD [] noH 0 0 [] 0 0 h s.1 s.2.1 s.2.2.1 s.2.2.2.1 s.2.2.2.2)) s.2.2.1 (KP s.2.2.1 s.2.2.2.1 s.2.2.2.2 s.2.2.1.length) s.2.2.2.1 s.2.2.2.2) (QN hT) Try.func33 (by kernel_rfl) (by kernel_rfl) (N:=8) (by decide) (x,()) (fun G h1 h2=>QQl hT _ _ _ hlen G h1 h2) (QCU x) ?_
 refine KF (QOT Qo x (Qr x x.scans.n) h s.1 s.2.1 s.2.2.1 s.2.2.2.1 s.2.2.2.2 (KP s.2.2.1 s.2.2.2.1 s.2.2.2.2 s.2.2.1.length)) ?_
 refine QF (Kr.2 ?_) (QF (Kr.2 ?_) (QL (fun q => ?_) (fun q => ?_)))
 ·repeat' first|exact trivial|with_reducible rfl|exact Nat.le_refl _|exact QD.refl _ _ _|exact Qp _ _ _ _|refine And.intro ?_ ?_
 ·repeat' first|exact trivial|with_reducible rfl|exact Nat.le_refl _|exact QD.refl _ _ _|exact Qp _ _ _ _|exact QD5 _|exact rfl|refine And.intro ?_ ?_
 ·have q:decide (s.1 > 0)=false:=by simpa using q
  simp only [VF,hv,q]
  refine ⟨rfl,rfl,_,QQx [] 6,?_⟩
  repeat' first|exact trivial|with_reducible rfl|exact Nat.le_refl _|exact QD.refl _ _ _|exact Qp _ _ _ _|exact rfl|refine And.intro ?_ ?_
 ·have q:decide (s.1 > 0)=true:=by simpa using q
  repeat' first|refine Qc (p:=_=_) rfl ?_|refine Qc (p:=_≤_) (Nat.le_refl _) ?_|refine Qc (p:=QD _ _ _ _) (QD.refl _ _ _) ?_
  refine KQ fun _=>KX fun g => ?_
  simp only [VF,hv,q]
  refine ⟨rfl,rfl,_,QOo _ _ 0,?_⟩
  repeat' first|exact trivial|with_reducible rfl|exact Nat.le_refl _|exact QD.refl _ _ _|exact Qp _ _ _ _|exact rfl|refine And.intro ?_ ?_
theorem QTn (d:Puz) (sc:Nat→QP) (hang:Rw Jn) (lo fo:Int) (hs:YN ⟨d,⟨0,sc⟩,hang,lo,fo⟩) (hx:(QE.mk d ⟨0,sc⟩ hang lo fo).ok=true) (hr:JZ ⟨d,⟨0,sc⟩,hang,lo,fo⟩=false):QM Try.prog 33 (wFC (VZ VF (⟨d,⟨0,sc⟩,hang,lo,fo⟩,()))):=by
 have hd:=hs.d
 have hd:d.ps.n≤1000:=hd
 have hT:QU (JX Qo (opO ⟨d,⟨0,sc⟩,hang,lo,fo⟩ [])):=KD.add (QCg ⟨d,⟨0,sc⟩,hang,lo,fo⟩ hs hx hr)
 have hw:IntKind.i64.wrap ((d.ps.n:Int) - 0)=d.ps.n:=(w64 (by omega) (by omega)).trans (by omega)
 have hv:Q7 ⟨d,⟨0,sc⟩,hang,lo,fo⟩=match decide ((d.ps.n:Int) > lo) with
   | true=>([],6)
   | false=>([],0):=by
  simp only [Q7,hx,hr,tdS,onT,V9,X4]
  simp only [show (d.ps.n:Int) - ((([]:List QA).length:Int) - QI [] (-2))=d.ps.n by simp [QI]]
  cases decide ((d.ps.n:Int) > lo)<;>rfl
 refine Wx (c:=Qm Try.f33) (E:=mkE Try.prog (JX Qo (opO ⟨d,⟨0,sc⟩,hang,lo,fo⟩ []))) (H:=hnd (mkE Try.prog (JX Qo (opO ⟨d,⟨0,sc⟩,hang,lo,fo⟩ []))) 8) (QN hT) Try.func33 (by kernel_rfl) (by kernel_rfl) (N:=8) (by decide) (⟨d,⟨0,sc⟩,hang,lo,fo⟩,()) (fun G h1 _=>Qt (QN hT) 8 G _ h1) (QCU _) ?_
 refine KF (QRw Qo d sc hang lo fo) ?_
 refine QF (Kr.2 ?_) (QL (fun _=>QL (fun q => ?_) (fun q => ?_)) (fun q=>by cases q))
 ·repeat' first|exact trivial|with_reducible rfl|exact Nat.le_refl _|exact QD.refl _ _ _|exact Qp _ _ _ _|refine And.intro ?_ ?_
 ·rw [hw] at q
  simp only [VF,hv,q]
  refine ⟨rfl,rfl,_,QNT [] 6,?_⟩
  repeat' first|exact trivial|with_reducible rfl|exact Nat.le_refl _|exact QD.refl _ _ _|exact Qp _ _ _ _|exact rfl|refine And.intro ?_ ?_
 ·rw [hw] at q
  simp only [VF,hv,q]
  refine ⟨rfl,rfl,_,QNt [] 0,?_⟩
  repeat' first|exact trivial|with_reducible rfl|exact Nat.le_refl _|exact QD.refl _ _ _|exact Qp _ _ _ _|exact rfl|refine And.intro ?_ ?_
theorem QSp (x:QE) (hx:(VF (x,())).1=true):QM Try.prog 33 (wFC (VZ VF (x,()))):=by
 obtain ⟨h1,h2,h3⟩:=of_decide_eq_true hx
 have hs:YN x:=⟨h1,h2,h3⟩
 cases ho:x.ok with
 | false=>exact QE5 x 1 (QEG x hs ho) (by decide) (by simp only [Q7,ho])
 | true=>cases hr:JZ x with
  | true=>exact QE5 x 11 (QIl x hs ho hr) (by decide) (by simp only [Q7,ho,hr])
  | false=>
   by_cases hp:0 < x.scans.n
   ·exact QSg x hs ho hr hp
   ·obtain ⟨d,⟨n,sc⟩,hang,lo,fo⟩:=x
    obtain rfl:n=0:=by simp only at hp;omega
    exact QTn d sc hang lo fo hs ho hr
theorem QRC:QM Try.prog 33 QGC:=QB7 (by kernel_rfl) fun|(x,()),hx=>QSp x hx
end Go.Proofs.Ytbpffdkemeoajaa
namespace Go.Proofs.Ytbpffdkemeoajaa
open Go.SX
end Go.Proofs.Ytbpffdkemeoajaa
namespace Go.Proofs.Ytbpffdkemeoajaa
open Go.SX
structure QDJ where
 off:Sp
 wide:Sp
 deep:Sp
instance : Enc QDJ where
  enc x := .agg [.int false .i64 x.off.lo, .int false .i64 x.off.hi, .int false .i64 x.wide.lo, .int false .i64 x.wide.hi, .int false .i64 x.deep.lo, .int false .i64 x.deep.hi]
  dec | .agg [.int _ .i64 a0, .int _ .i64 a1, .int _ .i64 a2, .int _ .i64 a3, .int _ .i64 a4, .int _ .i64 a5] => some ⟨⟨a0, a1⟩, ⟨a2, a3⟩, ⟨a4, a5⟩⟩ | _ => none
  ok v x h := by
    split at h <;> (try (cases h; done))
    simp only [Option.some.injEq] at h; subst h; exact ⟨fun _ => rfl, rfl⟩
theorem QMH {p:Qg} {t h:Edge} (hB:Qn.B ⟨p,t,h⟩):((-100000≤(Qa p t h).lo∧(Qa p t h).lo≤100000) ∧ -100000≤(Qa p t h).hi∧(Qa p t h).hi≤100000)∧((-100000≤(QY t h).lo∧(QY t h).lo≤100000) ∧ -100000≤(QY t h).hi∧(QY t h).hi≤100000) ∧
  ((-100000≤(QZ t h).lo∧(QZ t h).lo≤100000) ∧ -100000≤(QZ t h).hi∧(QZ t h).hi≤100000)∧(0≤p.damp.lo∧p.damp.lo≤100)∧0≤p.damp.hi∧p.damp.hi≤100:=by
 obtain ⟨h1,h2,h3⟩:=hB
 unfold JM at h1;unfold JL at h2 h3;simp only [Qa,QY,QZ] at *
 omega
def VA (s:Sp) (lo hi:Int) (d:Sp):Bool:=decide ((-100000≤s.lo∧s.lo≤100000)∧(-100000≤s.hi∧s.hi≤100000)∧(-500≤lo∧lo≤500)∧(-500≤hi∧hi≤500)∧0≤d.hi∧d.hi≤100)
def QFn:Int×Int×Int×Unit→Bool×AV:=fun|(n,(a,(b,_)))=>(true,.bool false (QW n a b))
def QIe:FC:=Qw (Qx QFn)
theorem QOn (n:Int) (a:Int) (b:Int):Qs (mkE Try.prog Z0) (hnd (mkE Try.prog Z0) 0) false Try.f79 (Qi.enc ((n,a,b,()):Int×Int×Int×Unit)) [] 0 =
  QC.br (decide (a≤n)) (QC.leaf (AV.bool false (decide (n≤b))) ([])) (QC.leaf (AV.bool true false) ([])):=by kernel_rfl
theorem QKx:QM Try.prog 79 QIe:=by
 refine Q2 Gh 0 Try.func79 (by kernel_rfl) (by kernel_rfl) ?_
 rintro ⟨n,a,b,⟨⟩⟩ hp
 rw [QOn n a b]
 simp only [QFn,QC.den,AV.same,AV.sameL,and_true,true_and] at hp ⊢
 (repeat' (first|(refine And.intro ?_ ?_)|(intro _)))<;>simp_all [QW]<;>omega
def vq:Tab:=QX Z0 79 QIe
theorem QDK:QU vq:=Gh.add QKx
def QIa:Sp×Int×Int×Unit→Bool×AV:=fun|(s,(a,(b,_)))=>(true,.bool false (s.isIn a b))
def QHl:FC:=Qw (Qx QIa)
theorem QQf (s:Sp) (a:Int) (b:Int):Qs (mkE Try.prog vq) (hnd (mkE Try.prog vq) 0) false Try.f80 (Qi.enc ((s,a,b,()):Sp×Int×Int×Unit)) [] 0 =
  QC.br (decide (a≤s.lo)) (QC.br (decide (s.lo≤s.hi)) (QC.leaf (AV.bool false (decide (s.hi≤b))) ([])) (QC.leaf (AV.bool true false) ([]))) (QC.leaf (AV.bool true
  false) ([])):=by kernel_rfl
theorem QP6:QM Try.prog 80 QHl:=by
 refine Q2 QDK 0 Try.func80 (by kernel_rfl) (by kernel_rfl) ?_
 rintro ⟨s,a,b,⟨⟩⟩ hp
 rw [QQf s a b]
 simp only [QIa,QC.den,AV.same,AV.sameL,and_true,true_and] at hp ⊢
 (repeat' (first|(refine And.intro ?_ ?_)|(intro _)))<;>simp_all [Sp.isIn]<;>omega
def zM:Tab:=QX vq 80 QHl
theorem QDg:QU zM:=QDK.add QP6
def QGp:Edge×Unit→Bool×AV:=fun|(a,_)=>(true,.bool false a.ok)
def QD9:FC:=Qw (Qx QGp)
theorem QM3 (a:Edge):Qs (mkE Try.prog zM) (hnd (mkE Try.prog zM) 0) false Try.f57 (Qi.enc ((a,()):Edge×Unit)) [] 0 =
  QC.br (a.kind == (0:Int)) (QC.leaf (AV.bool true true) ([])) (QC.need (true) (QC.br (QW a.kind (1:Int) (2:Int)) (QC.need (true) (QC.br (a.at_.isIn (0:Int)
  (10000:Int)) (QC.need (true) (QC.br (a.wide.isIn (1:Int) (3000:Int)) (QC.need (true) (QC.leaf (AV.bool false (a.deep.isIn (1:Int) (3000:Int))) ([]))) (QC.leaf
  (AV.bool true false) ([])))) (QC.leaf (AV.bool true false) ([])))) (QC.leaf (AV.bool true false) ([])))):=by kernel_rfl
theorem QNh:QM Try.prog 57 QD9:=by
 refine Q2 QDg 0 Try.func57 (by kernel_rfl) (by kernel_rfl) ?_
 rintro ⟨a,⟨⟩⟩ hp
 rw [QM3 a]
 simp only [QGp,QC.den,AV.same,AV.sameL,and_true,true_and] at hp ⊢
 have hw:QW a.kind 1 2=((a.kind == 1)||(a.kind == 2)):=by
  unfold QW
  rw [Bool.eq_iff_iff]
  simp only [decide_eq_true_eq,Bool.or_eq_true,beq_iff_eq];omega
 simp only [hw]
 unfold Edge.ok
 cases (a.kind == 0)<;>cases ((a.kind == 1)||(a.kind == 2))<;>cases a.at_.isIn 0 10000<;>cases a.wide.isIn 1 3000<;>simp
def HJ:Tab:=QX zM 57 QD9
theorem QKi:QU HJ:=QDg.add QNh
def QEs:Qg×Unit→Bool×AV:=fun|(p,_)=>(true,.bool false p.ok)
def QJR:FC:=Qw (Qx QEs)
theorem QQP (p:Qg):Qs (mkE Try.prog HJ) (hnd (mkE Try.prog HJ) 0) false Try.f67 (Qi.enc ((p,()):Qg×Unit)) [] 0 =
  QC.need (true) (QC.br (QW p.length (1:Int) (10000:Int)) (QC.need (true) (QC.br (QW p.slack (0:Int) (500:Int)) (QC.need (true) (QC.br (QW p.loose (0 :
  Int) (500:Int)) (QC.need (true) (QC.leaf (AV.bool false (p.damp.isIn (0:Int) (100:Int))) ([]))) (QC.leaf (AV.bool true false) ([])))) (QC.leaf (AV.bool true false)
  ([])))) (QC.leaf (AV.bool true false) ([]))):=by kernel_rfl
theorem QOf:QM Try.prog 67 QJR:=by
 refine Q2 QKi 0 Try.func67 (by kernel_rfl) (by kernel_rfl) ?_
 rintro ⟨p,⟨⟩⟩ hp
 rw [QQP p]
 simp only [QEs,QC.den,AV.same,AV.sameL,and_true,true_and] at hp ⊢
 (repeat' (first|(refine And.intro ?_ ?_)|(intro _)))<;>simp_all [Qg.ok]
def H6:Tab:=QX HJ 67 QJR
theorem QEM:QU H6:=QKi.add QOf
def QE2:Qg×Edge×Edge×Unit→Bool×AV:=fun|(p,(t,(h,_)))=>(decide (Qn.B ⟨p,t,h⟩),Enc.enc (⟨Qa p t h,QY t h,QZ t h⟩:QDJ))
def QIK:FC:=Qw (Qx QE2)
theorem QKt (p:Qg) (t:Edge) (h:Edge):Qs (mkE Try.prog H6) (hnd (mkE Try.prog H6) 0) false Try.f104 (Qi.enc ((p,t,h,()):Qg×Edge×Edge×Unit)) [] 0 =
  QC.leaf (AV.agg [AV.int false IntKind.i64 (IntKind.i64.wrap (IntKind.i64.wrap (t.at_.lo + h.at_.lo) - p.length)),AV.int false IntKind.i64 (IntKind.i64.wrap (IntKind.i64.wrap
  (t.at_.hi + h.at_.hi) - p.length)),AV.int false IntKind.i64 (IntKind.i64.wrap (h.wide.lo - t.wide.hi)),AV.int false IntKind.i64 (IntKind.i64.wrap (h.wide.hi - t.wide.lo)),AV.int
  false IntKind.i64 (IntKind.i64.wrap (h.deep.lo - t.deep.hi)),AV.int false IntKind.i64 (IntKind.i64.wrap (h.deep.hi - t.deep.lo))]) ([]):=by kernel_rfl
theorem QOd:QM Try.prog 104 QIK:=by
 refine Q2 QEM 0 Try.func104 (by kernel_rfl) (by kernel_rfl) ?_
 rintro ⟨p,t,h,⟨⟩⟩ hp
 rw [QKt p t h]
 simp only [QE2,QC.den,AV.same,AV.sameL,and_true,true_and] at hp ⊢
 have hq:=of_decide_eq_true hp
 obtain ⟨h1,h2,h3⟩:=hq
 unfold JM at h1;unfold JL at h2 h3;simp only at h1 h2 h3
 simp only [Enc.enc,AV.same,AV.sameL,true_and,and_true,Qa,QY,QZ]
 rw [w64 (n:=t.at_.lo + h.at_.lo) (by omega) (by omega),w64 (n:=t.at_.hi + h.at_.hi) (by omega) (by omega)]
 rw [w64 (by omega) (by omega),w64 (by omega) (by omega),w64 (by omega) (by omega),w64 (by omega) (by omega),w64 (by omega) (by omega),w64 (by omega) (by omega)]
 refine ⟨?_,?_,?_,?_,?_,?_⟩<;>omega
def GH:Tab:=QX H6 104 QIK
theorem QDF:QU GH:=QEM.add QOd
def QJE:Sp×Int×Int×Sp×Unit→Bool×AV:=fun|(s,(lo,(hi,(d,_))))=>(VA s lo hi d,.bool false (KM s.lo s.hi lo hi d.hi))
def QGq:FC:=Qw (Qx QJE)
theorem QNg (s:Sp) (lo:Int) (hi:Int) (d:Sp):Qs (mkE Try.prog GH) (hnd (mkE Try.prog GH) 0) false Try.f105 (Qi.enc ((s,lo,hi,d,()):Sp×Int×Int×Sp×Unit)) [] 0 =
  QC.br (decide (IntKind.i64.wrap (s.lo * IntKind.i64.wrap ((1000:Int) + d.hi))≥IntKind.i64.wrap ((1000:Int) * lo))) (QC.leaf (AV.bool false (decide (IntKind.i64.wrap (s.hi
  * IntKind.i64.wrap ((1000:Int) + d.hi))≤IntKind.i64.wrap ((1000:Int) * hi)))) ([])) (QC.leaf (AV.bool true false) ([])):=by kernel_rfl
theorem QLy:QM Try.prog 105 QGq:=by
 refine Q2 QDF 0 Try.func105 (by kernel_rfl) (by kernel_rfl) ?_
 rintro ⟨s,lo,hi,d,⟨⟩⟩ hp
 rw [QNg s lo hi d]
 simp only [QJE,QC.den,AV.same,AV.sameL,and_true,true_and] at hp ⊢
 have hq:=of_decide_eq_true hp
 obtain ⟨h1,h2,h3,h4,h5⟩:=hq
 exact jx h1 h2 h3 h4 h5
def XQ:Tab:=QX GH 105 QGq
theorem WJ:QU XQ:=QDF.add QLy
end Go.Proofs.Ytbpffdkemeoajaa
namespace Go.Proofs.Ytbpffdkemeoajaa
open Go.SX
structure Q8 where
 s:Sp
 d:Sp
 lo:Int
 hi:Int
 n:Int
def Q8.I (x:Q8):JSt:=⟨40,[(1,.int false .i64 x.lo),(2,.int false .i64 x.hi),(4,.ptr 0 0 0),(7,.ptr 8 0 0),(9,.int false .i64 x.n)],[(8,.cells 0 23 (Enc.enc x.d).cells),(0,.cells 0 23 (Enc.enc x.s).cells)],56⟩
def Q8.pre (x:Q8):Prop:=(-100000≤x.s.lo∧x.s.lo≤100000)∧(-100000≤x.s.hi∧x.s.hi≤100000)∧(-500≤x.lo∧x.lo≤0)∧(0≤x.hi∧x.hi≤500)∧(0≤x.d.lo∧x.d.lo≤100) ∧ -100000≤x.n∧x.n≤100001
def Q8.good (x:Q8) (n:Int):Prop:=n≤min x.s.hi x.hi∧1000 * x.lo≤n * (1000 + x.d.lo)∧n * (1000 + x.d.lo)≤1000 * x.hi
def Q8.yes (x:Q8):Prop:=∃ n,x.n≤n∧x.good n
def vA (x:Q8) (e:Ex) (J:JSt):Prop:=(e = .ret∧J=⟨40,[(8,.bool true true)],[],0⟩∧x.yes)∨(e = .exit 0∧J=⟨40,[],[],0⟩∧¬ x.yes)
def GU:Ex→List Nat
 | .normal=>[1,2,4,7,9]
 | .ret=>[8]
 | .exit _=>[]
def Q8.mu (x:Q8):Nat:=(min x.s.hi x.hi + 1 - x.n).toNat
def Q8.next (x:Q8):Q8:={ x with n:=x.n + 1 }
def zT (x:Q8):QC := .leaf (.tup [.nilp,.ptr 40 0 0,.int false .i64 x.lo,.int false .i64 x.hi,.ptr 0 0 0,.ptr 8 0 0,.int false .i64 (IntKind.i64.wrap (x.n + 1))]) [(8,.cells 0 23 (Enc.enc x.d).cells),(0,.cells 0 23 (Enc.enc x.s).cells)]
theorem QLa (x:Q8) (g:Nat→Value):exec (mkE Try.prog XQ) (hnd (mkE Try.prog XQ) 0) (Qf Try.f106 0) (JSt.inst x.I g) (ze GU) =
  .br (decide (x.n ≤ min x.s.hi x.hi))
    (.br (decide (IntKind.i64.wrap (x.n * IntKind.i64.wrap (1000 + x.d.lo)) ≥ IntKind.i64.wrap (1000 * x.lo)))
      (.br (decide (IntKind.i64.wrap (x.n * IntKind.i64.wrap (1000 + x.d.lo)) ≤ IntKind.i64.wrap (1000 * x.hi)))
        (.leaf (.tup [.nili, .ptr 40 0 0, .bool true true]) [(8, .cells 0 23 (Enc.enc x.d).cells), (0, .cells 0 23 (Enc.enc x.s).cells)])
        (zT x)) (zT x))
    (.leaf (.tup [.ptr 0 0 0, .ptr 40 0 0]) [(8, .cells 0 23 (Enc.enc x.d).cells), (0, .cells 0 23 (Enc.enc x.s).cells)]) := by kernel_rfl
theorem QD0 {x:Q8} (h:x.pre):IntKind.i64.wrap (x.n * IntKind.i64.wrap (1000 + x.d.lo))=x.n * (1000 + x.d.lo)∧IntKind.i64.wrap (1000 * x.lo)=1000 * x.lo∧IntKind.i64.wrap (1000 * x.hi)=1000 * x.hi∧IntKind.i64.wrap (x.n + 1)=x.n + 1:=by
 obtain ⟨h1,h2,h3,h4,h5,h6,h7⟩:=h
 have e:IntKind.i64.wrap (1000 + x.d.lo)=1000 + x.d.lo:=w64 (by omega) (by omega)
 have m:=Int.mul_le_mul_of_nonneg_right h6 (show 0≤1000 + x.d.lo by omega)
 have m':=Int.mul_le_mul_of_nonneg_right h7 (show 0≤1000 + x.d.lo by omega)
 rw [e]
 exact ⟨w64 (by omega) (by omega),w64 (by omega) (by omega),w64 (by omega) (by omega),w64 (by omega) (by omega)⟩
theorem QKI {x:Q8} (hp:x.pre) (hn:x.n≤min x.s.hi x.hi) (hb:¬ (1000 * x.lo≤x.n * (1000 + x.d.lo)∧x.n * (1000 + x.d.lo)≤1000 * x.hi)):(zT x).den (qI (QE0 Q8.I Q8.pre Q8.mu vA 0 GU x) (Go.SX.Leaves vA 0 GU x)):=by
 unfold zT
 rw [(QD0 hp).2.2.2]
 refine ⟨x.next,fun i=>i,?_,?_,?_,?_⟩
 ·obtain ⟨h1,h2,h3,h4,h5,h6,h7⟩:=hp
  refine ⟨h1,h2,h3,h4,h5,?_,?_⟩<;>simp only [Q8.next]<;>omega
 ·simp only [Q8.mu,Q8.next];omega
 ·intro e J hR
  have hy:x.next.yes↔x.yes:=by
   constructor
   ·rintro ⟨n,h1,h2⟩;simp only [Q8.next] at h1;exact ⟨n,by omega,h2⟩
   ·rintro ⟨n,h1,h2⟩
    rcases (show n=x.n∨x.n + 1≤n by omega) with rfl|h3
    ·exact absurd h2.2 hb
    ·exact ⟨n,h3,h2⟩
  unfold vA at *
  rw [hy] at hR;exact hR
 ·refine VC.same rfl rfl ?_ ?_ rfl rfl
  ·exact ⟨⟨rfl,rfl⟩,⟨rfl,rfl⟩,⟨rfl,rfl,rfl⟩,⟨rfl,rfl,rfl⟩,⟨rfl,rfl⟩,trivial⟩
  ·exact ⟨⟨_,rfl,rfl,rfl,⟨rfl,rfl⟩,⟨rfl,rfl⟩,trivial⟩,⟨_,rfl,rfl,rfl,⟨rfl,rfl⟩,⟨rfl,rfl⟩,trivial⟩,trivial⟩
theorem QTT:QBo Q8.I Q8.pre Q8.mu vA 0 GU (mkE Try.prog XQ) (hnd (mkE Try.prog XQ) 0) (Qf Try.f106 0):=by
 intro x g hp
 rw [QLa]
 obtain ⟨e1,e2,e3,_⟩:=QD0 hp
 simp only [QC.den,e1,e2,e3,decide_eq_true_eq,decide_eq_false_iff_not]
 refine ⟨fun hn=>⟨fun h1=>⟨fun h2 => ?_,fun h2 => ?_⟩,fun h1 => ?_⟩,fun hn => ?_⟩
 ·exact ⟨⟨40,[(8,.bool true true)],[],0⟩,fun i=>i,.inl ⟨rfl,rfl,x.n,Int.le_refl _,hn,h1,h2⟩,VC.same rfl rfl ⟨rfl,trivial⟩ trivial rfl rfl⟩
 ·exact QKI hp hn (fun h=>h2 h.2)
 ·exact QKI hp hn (fun h=>h1 h.1)
 ·refine ⟨⟨40,[],[],0⟩,fun i=>i,.inr ⟨rfl,rfl,?_⟩,VC.same rfl rfl trivial trivial rfl rfl⟩
  rintro ⟨n,h1,h2,_⟩;omega
instance (x : Q8) : Decidable x.pre := by unfold Q8.pre; infer_instance
def XP:Code→St→(Ex→St→QC)→QC:=fun _ st K=>match st.tm.length == 40&&J1 st.hp,QG st.tm 1,QG st.tm 2,QG st.tm 4,QG st.tm 7,QG st.tm 9,Go.SX.look st.hp 8,Go.SX.look st.hp 0 with
 | true,.int _ .i64 lo,.int _ .i64 hi,.ptr 0 0 0,.ptr 8 0 0,.int _ .i64 n,some (.cells 0 23 [.int _ .i64 dlo,.int _ .i64 dhi]),some (.cells 0 23 [.int _ .i64 slo,.int _ .i64 shi])=>
  .need (decide (Q8.pre ⟨⟨slo,shi⟩,⟨dlo,dhi⟩,lo,hi,n⟩)) (.both (.asm (Q8.yes ⟨⟨slo,shi⟩,⟨dlo,dhi⟩,lo,hi,n⟩) (.all fun g=>K .ret (JSt.inst ⟨40,[(8,.bool true true)],[],0⟩ g)))
   (.asm (¬ Q8.yes ⟨⟨slo,shi⟩,⟨dlo,dhi⟩,lo,hi,n⟩) (.all fun g=>K (.exit 0) (JSt.inst ⟨40,[],[],0⟩ g))))
 | _, _, _, _, _, _, _, _ => .fail "some"
theorem QM9 (body:Code) (st:St) (K:Ex→St→QC) (T:AV→List (Nat×Blk)→Prop) (h:(XP body st K).den T):∃ s q ls',Q8.pre s∧VC 0 q ls' st.tm.length (ls'.map (QG st.tm)) st.hp (Q8.I s)∧∀ e J g,vA s e J→(K e (J.inst g)).den T:=by
 unfold XP at h
 split at h<;>(try (exact h.elim))
 rename_i k1 lo k2 hi k9 n kd dlo ke dhi ks slo kt shi c1 e1 e2 e4 e7 e9 h8 h0
 simp only [QC.den,decide_eq_true_eq] at h
 rw [Bool.and_eq_true] at c1
 refine ⟨⟨⟨slo,shi⟩,⟨dlo,dhi⟩,lo,hi,n⟩,fun i=>i,[1,2,4,7,9],h.1,VC.same rfl ?_ ?_ ?_ rfl rfl ?_,?_⟩
 ·exact beq_iff_eq.1 c1.1
 ·simp only [List.map_cons,List.map_nil, *];exact ⟨⟨rfl,rfl⟩,⟨rfl,rfl⟩,⟨rfl,rfl,rfl⟩,⟨rfl,rfl,rfl⟩,⟨rfl,rfl⟩,trivial⟩
 ·exact ⟨⟨_,h8,rfl,rfl,⟨rfl,rfl⟩,⟨rfl,rfl⟩,trivial⟩,⟨_,h0,rfl,rfl,⟨rfl,rfl⟩,⟨rfl,rfl⟩,trivial⟩,trivial⟩
 ·exact c1.2
 ·rintro e J g (⟨rfl,rfl,hy⟩|⟨rfl,rfl,hy⟩)
  ·exact h.2.1 hy g
  ·exact h.2.2 hy g
theorem QPp (G:Ctx) (hG:G.n=0) (hrd:G.rd=none):Q4 (mkE Try.prog XQ) G { hnd (mkE Try.prog XQ) 0 with loop:=XP } (Qm Try.f106):=
 ⟨fun b hb=>by
  have e:Ke (Qm Try.f106)=[.loop (Qf Try.f106 0)]:=by kernel_rfl
  rw [e,List.mem_singleton] at hb;subst hb
  exact QOJ (QN WJ) (by omega) (Qt (QN WJ) 0 G _ hrd) (fun _=>Nat.zero_le _) QTT (fun st K T h=>QM9 (Qf Try.f106 0) st K T h),(Qt (QN WJ) 0 G (Qm Try.f106) hrd).call,(Qt (QN WJ) 0 G (Qm Try.f106) hrd).yield⟩
def KO (s:Sp) (lo hi:Int) (d:Sp):Bool:=decide (s.lo≤s.hi∧(-100000≤s.lo∧s.lo≤100000)∧(-100000≤s.hi∧s.hi≤100000)∧(-500≤lo∧lo≤0)∧(0≤hi∧hi≤500)∧0≤d.lo∧d.lo≤100)
def QEU:Sp×Int×Int×Sp×Unit→Bool×AV:=fun|(s,(lo,(hi,(d,_))))=>(KO s lo hi d,.bool false (Qk s.lo s.hi lo hi d.lo))
def QEq:FC:=Qw (Qx QEU)
theorem QQc (s:Sp) (lo:Int) (hi:Int) (d:Sp):Qs (mkE Try.prog XQ) { hnd (mkE Try.prog XQ) 0 with loop:=XP } false Try.f106 (Qi.enc ((s,lo,hi,d,()):Sp×Int×Int×Sp×Unit)) [] 0 =
  QC.need (decide (Q8.mk s d lo hi (max s.lo lo)).pre) (QC.both (QC.asm ((Q8.mk s d lo hi (max s.lo lo)).yes) (QC.all (fun (g0:Nat→Value)=>QC.leaf (AV.bool true
  true) ([])))) (QC.asm (¬(Q8.mk s d lo hi (max s.lo lo)).yes) (QC.all (fun (g1:Nat→Value)=>QC.leaf (AV.bool true false) ([]))))):=by kernel_rfl
theorem QSM:QM Try.prog 106 QEq:=by
 refine QCY (QN WJ) Try.func106 (by kernel_rfl) (by kernel_rfl) QPp ?_
 rintro ⟨s,lo,hi,d,⟨⟩⟩ hp
 rw [QQc s lo hi d]
 simp only [QEU,QC.den,AV.same,AV.sameL,and_true,true_and] at hp ⊢
 have hq:=of_decide_eq_true hp
 obtain ⟨h0,h1,h2,h3,h4,h5⟩:=hq
 unfold Q8.yes Q8.good
 refine ⟨decide_eq_true ⟨h1,h2,h3,h4,h5,?_,?_⟩,?_,?_⟩
 ·show -100000≤max s.lo lo
  omega
 ·show max s.lo lo≤100001
  omega
 ·rintro ⟨n,g1,g2,g3,g4⟩ _
  dsimp only at g1 g2 g3 g4
  exact (QLY (n:=n) (by omega) (by omega) (by omega) (by omega) (by omega) g3 g4).symm
 ·intro hn _
  dsimp only at hn
  refine (QQt (by omega) (by omega) (by omega) h0 fun n g1 g2 g3=>hn ⟨n,g1,g2,g3⟩).symm
def H5:Tab:=QX XQ 106 QEq
theorem QHH:QU H5:=WJ.add QSM
theorem QJd {p:Qg} {t h:Edge} (h1:p.ok=true) (h2:t.ok=true) (h3:h.ok=true) (ht:t.kind=1) (hh:h.kind=2):(Qn.B ⟨p,t,h⟩∧IntKind.i64.wrap (0 - p.slack) = -p.slack)∧(VA (Qa p t h) (-p.slack) p.slack p.damp=true∧VA (QY t h) 0 p.loose p.damp=true∧VA (QZ t h) 0 p.loose p.damp=true) ∧
  KO (Qa p t h) (-p.slack) p.slack p.damp=true∧KO (QY t h) 0 p.loose p.damp=true∧KO (QZ t h) 0 p.loose p.damp=true:=by
 have hB:=QAU h1 h2 h3 ht hh
 have hb:=QMH hB
 have h1':=hB.1
 unfold JM at h1'
 have s2:(t.at_.lo≤t.at_.hi∧t.wide.lo≤t.wide.hi∧t.deep.lo≤t.deep.hi):=by
  unfold Edge.ok Sp.isIn at h2
  simp [ht] at h2;omega
 have s3:(h.at_.lo≤h.at_.hi∧h.wide.lo≤h.wide.hi∧h.deep.lo≤h.deep.hi):=by
  unfold Edge.ok Sp.isIn at h3
  simp [hh] at h3;omega
 obtain ⟨o1,o2,o3,o4⟩:=hb
 simp only at h1'
 have n1:(Qa p t h).lo≤(Qa p t h).hi:=by simp only [Qa];omega
 have n2:(QY t h).lo≤(QY t h).hi:=by simp only [QY];omega
 have n3:(QZ t h).lo≤(QZ t h).hi:=by simp only [QZ];omega
 unfold VA KO
 refine ⟨⟨hB,?_⟩,⟨decide_eq_true ?_,decide_eq_true ?_,decide_eq_true ?_⟩,decide_eq_true ?_,decide_eq_true ?_,decide_eq_true ?_⟩
 ·rw [w64 (by omega) (by omega)];omega
 all_goals omega
def QHi:Qg×Edge×Edge×Unit→Bool×AV:=fun|(p,(a,(b,_)))=>(okP p a b,.int false .i64 (Xz p a b))
def QIo:FC:=Qw (Qx QHi)
theorem QLR (p:Qg) (a:Edge) (b:Edge) :Qs (mkE Try.prog H5) (hnd (mkE Try.prog H5) 4) false Try.f89 (Qi.enc ((p,a,b,()):Qg×Edge×Edge×Unit)) [] 0 = .br (a.kind == (1:Int)) (.br (b.kind
  == (2:Int)) (.need (decide (Qn.mk p a b).B) (.need (VA (Qa p a b) (IntKind.i64.wrap ((0:Int) - p.slack)) p.slack p.damp) (.br (KM (Qa p a b).lo (Qa p a b).hi
  (IntKind.i64.wrap ((0:Int) - p.slack)) p.slack p.damp.hi) (.need (VA (QY a b) (0:Int) p.loose p.damp) (.br (KM (QY a b).lo (QY a b).hi (0:Int) p.loose
  p.damp.hi) (.need (VA (QZ a b) (0:Int) p.loose p.damp) (.br (KM (QZ a b).lo (QZ a b).hi (0:Int) p.loose p.damp.hi) (.leaf (.int true .i64 (2:Int)) ([]))
  (.need (KO (Qa p a b) (IntKind.i64.wrap ((0:Int) - p.slack)) p.slack p.damp) (.br (Qk (Qa p a b).lo (Qa p a b).hi (IntKind.i64.wrap ((0:Int) - p.slack))
  p.slack p.damp.lo) (.need (KO (QY a b) (0:Int) p.loose p.damp) (.br (Qk (QY a b).lo (QY a b).hi (0:Int) p.loose p.damp.lo) (.need (KO (QZ a b) (0 :
  Int) p.loose p.damp) (.br (Qk (QZ a b).lo (QZ a b).hi (0:Int) p.loose p.damp.lo) (.leaf (.int true .i64 (1:Int)) ([])) (.leaf (.int true .i64 (0:Int)) ([]))))
  (.leaf (.int true .i64 (0:Int)) ([])))) (.leaf (.int true .i64 (0:Int)) ([])))))) (.need (KO (Qa p a b) (IntKind.i64.wrap ((0:Int) - p.slack)) p.slack p.damp) (.br
  (Qk (Qa p a b).lo (Qa p a b).hi (IntKind.i64.wrap ((0:Int) - p.slack)) p.slack p.damp.lo) (.need (KO (QY a b) (0:Int) p.loose p.damp) (.br (Qk (QY a
  b).lo (QY a b).hi (0:Int) p.loose p.damp.lo) (.need (KO (QZ a b) (0:Int) p.loose p.damp) (.br (Qk (QZ a b).lo (QZ a b).hi (0:Int) p.loose p.damp.lo)
  (.leaf (.int true .i64 (1:Int)) ([])) (.leaf (.int true .i64 (0:Int)) ([])))) (.leaf (.int true .i64 (0:Int)) ([])))) (.leaf (.int true .i64 (0:Int)) ([])))))) (.need (KO
  (Qa p a b) (IntKind.i64.wrap ((0:Int) - p.slack)) p.slack p.damp) (.br (Qk (Qa p a b).lo (Qa p a b).hi (IntKind.i64.wrap ((0:Int) - p.slack)) p.slack p.damp.lo)
  (.need (KO (QY a b) (0:Int) p.loose p.damp) (.br (Qk (QY a b).lo (QY a b).hi (0:Int) p.loose p.damp.lo) (.need (KO (QZ a b) (0:Int) p.loose p.damp)
  (.br (Qk (QZ a b).lo (QZ a b).hi (0:Int) p.loose p.damp.lo) (.leaf (.int true .i64 (1:Int)) ([])) (.leaf (.int true .i64 (0:Int)) ([])))) (.leaf (.int true .i64
  (0:Int)) ([])))) (.leaf (.int true .i64 (0:Int)) ([]))))))) (.br (b.kind == (1:Int)) (.br (a.kind == (2:Int)) (.need (decide (Qn.mk p b a).B) (.need (VA (Qa p b a)
  (IntKind.i64.wrap ((0:Int) - p.slack)) p.slack p.damp) (.br (KM (Qa p b a).lo (Qa p b a).hi (IntKind.i64.wrap ((0:Int) - p.slack)) p.slack p.damp.hi) (.need (VA
  (QY b a) (0:Int) p.loose p.damp) (.br (KM (QY b a).lo (QY b a).hi (0:Int) p.loose p.damp.hi) (.need (VA (QZ b a) (0:Int) p.loose p.damp) (.br (KM
  (QZ b a).lo (QZ b a).hi (0:Int) p.loose p.damp.hi) (.leaf (.int true .i64 (2:Int)) ([])) (.need (KO (Qa p b a) (IntKind.i64.wrap ((0:Int) - p.slack)) p.slack
  p.damp) (.br (Qk (Qa p b a).lo (Qa p b a).hi (IntKind.i64.wrap ((0:Int) - p.slack)) p.slack p.damp.lo) (.need (KO (QY b a) (0:Int) p.loose p.damp) (.br
  (Qk (QY b a).lo (QY b a).hi (0:Int) p.loose p.damp.lo) (.need (KO (QZ b a) (0:Int) p.loose p.damp) (.br (Qk (QZ b a).lo (QZ b a).hi (0:Int)
  p.loose p.damp.lo) (.leaf (.int true .i64 (1:Int)) ([])) (.leaf (.int true .i64 (0:Int)) ([])))) (.leaf (.int true .i64 (0:Int)) ([])))) (.leaf (.int true .i64 (0:Int))
  ([])))))) (.need (KO (Qa p b a) (IntKind.i64.wrap ((0:Int) - p.slack)) p.slack p.damp) (.br (Qk (Qa p b a).lo (Qa p b a).hi (IntKind.i64.wrap ((0:Int) -
  p.slack)) p.slack p.damp.lo) (.need (KO (QY b a) (0:Int) p.loose p.damp) (.br (Qk (QY b a).lo (QY b a).hi (0:Int) p.loose p.damp.lo) (.need (KO (QZ b
  a) (0:Int) p.loose p.damp) (.br (Qk (QZ b a).lo (QZ b a).hi (0:Int) p.loose p.damp.lo) (.leaf (.int true .i64 (1:Int)) ([])) (.leaf (.int true .i64 (0:Int))
  ([])))) (.leaf (.int true .i64 (0:Int)) ([])))) (.leaf (.int true .i64 (0:Int)) ([])))))) (.need (KO (Qa p b a) (IntKind.i64.wrap ((0:Int) - p.slack)) p.slack p.damp)
  (.br (Qk (Qa p b a).lo (Qa p b a).hi (IntKind.i64.wrap ((0:Int) - p.slack)) p.slack p.damp.lo) (.need (KO (QY b a) (0:Int) p.loose p.damp) (.br (Qk
  (QY b a).lo (QY b a).hi (0:Int) p.loose p.damp.lo) (.need (KO (QZ b a) (0:Int) p.loose p.damp) (.br (Qk (QZ b a).lo (QZ b a).hi (0:Int) p.loose
  p.damp.lo) (.leaf (.int true .i64 (1:Int)) ([])) (.leaf (.int true .i64 (0:Int)) ([])))) (.leaf (.int true .i64 (0:Int)) ([])))) (.leaf (.int true .i64 (0:Int)) ([])))))))
  (.leaf (.int true .i64 (0:Int)) ([]))) (.leaf (.int true .i64 (0:Int)) ([])))) (.br (b.kind == (1:Int)) (.br (a.kind == (2:Int)) (.need (decide (Qn.mk p b a).B) (.need
  (VA (Qa p b a) (IntKind.i64.wrap ((0:Int) - p.slack)) p.slack p.damp) (.br (KM (Qa p b a).lo (Qa p b a).hi (IntKind.i64.wrap ((0:Int) - p.slack)) p.slack
  p.damp.hi) (.need (VA (QY b a) (0:Int) p.loose p.damp) (.br (KM (QY b a).lo (QY b a).hi (0:Int) p.loose p.damp.hi) (.need (VA (QZ b a) (0:Int) p.loose
  p.damp) (.br (KM (QZ b a).lo (QZ b a).hi (0:Int) p.loose p.damp.hi) (.leaf (.int true .i64 (2:Int)) ([])) (.need (KO (Qa p b a) (IntKind.i64.wrap ((0:Int) -
  p.slack)) p.slack p.damp) (.br (Qk (Qa p b a).lo (Qa p b a).hi (IntKind.i64.wrap ((0:Int) - p.slack)) p.slack p.damp.lo) (.need (KO (QY b a) (0:Int) p.loose
  p.damp) (.br (Qk (QY b a).lo (QY b a).hi (0:Int) p.loose p.damp.lo) (.need (KO (QZ b a) (0:Int) p.loose p.damp) (.br (Qk (QZ b a).lo (QZ b
  a).hi (0:Int) p.loose p.damp.lo) (.leaf (.int true .i64 (1:Int)) ([])) (.leaf (.int true .i64 (0:Int)) ([])))) (.leaf (.int true .i64 (0:Int)) ([])))) (.leaf (.int true .i64
  (0:Int)) ([])))))) (.need (KO (Qa p b a) (IntKind.i64.wrap ((0:Int) - p.slack)) p.slack p.damp) (.br (Qk (Qa p b a).lo (Qa p b a).hi (IntKind.i64.wrap ((0 :
  Int) - p.slack)) p.slack p.damp.lo) (.need (KO (QY b a) (0:Int) p.loose p.damp) (.br (Qk (QY b a).lo (QY b a).hi (0:Int) p.loose p.damp.lo) (.need (KO
  (QZ b a) (0:Int) p.loose p.damp) (.br (Qk (QZ b a).lo (QZ b a).hi (0:Int) p.loose p.damp.lo) (.leaf (.int true .i64 (1:Int)) ([])) (.leaf (.int true .i64 (0
  : Int)) ([])))) (.leaf (.int true .i64 (0:Int)) ([])))) (.leaf (.int true .i64 (0:Int)) ([])))))) (.need (KO (Qa p b a) (IntKind.i64.wrap ((0:Int) - p.slack)) p.slack
  p.damp) (.br (Qk (Qa p b a).lo (Qa p b a).hi (IntKind.i64.wrap ((0:Int) - p.slack)) p.slack p.damp.lo) (.need (KO (QY b a) (0:Int) p.loose p.damp) (.br
  (Qk (QY b a).lo (QY b a).hi (0:Int) p.loose p.damp.lo) (.need (KO (QZ b a) (0:Int) p.loose p.damp) (.br (Qk (QZ b a).lo (QZ b a).hi (0:Int)
  p.loose p.damp.lo) (.leaf (.int true .i64 (1:Int)) ([])) (.leaf (.int true .i64 (0:Int)) ([])))) (.leaf (.int true .i64 (0:Int)) ([])))) (.leaf (.int true .i64 (0:Int))
  ([]))))))) (.leaf (.int true .i64 (0:Int)) ([]))) (.leaf (.int true .i64 (0:Int)) ([]))):=by kernel_rfl
theorem QN5:QM Try.prog 89 QIo:=by
 refine Q2 QHH 4 Try.func89 (by kernel_rfl) (by kernel_rfl) ?_
 rintro ⟨p,a,b,⟨⟩⟩ hp
 rw [QLR p a b]
 simp only [QHi,QC.den,AV.same,AV.sameL,and_true,true_and] at hp ⊢
 unfold okP at hp
 simp only [Bool.and_eq_true] at hp
 obtain ⟨h1,h2,h3⟩:=hp
 unfold Xz
 by_cases c1:a.kind=1∧b.kind=2
 ·obtain ⟨ha,hb⟩:=c1
  obtain ⟨⟨q1,q2⟩,⟨q3,q4,q5⟩,q6,q7,q8⟩:=QJd h1 h2 h3 ha hb
  rw [if_neg (by omega),if_pos ⟨ha,hb⟩,QA3]
  simp only [ha,hb,q1,q2,q3,q4,q5,q6,q7,q8,alw,may,beq_self_eq_true,decide_true]
  generalize KM (Qa p a b).lo (Qa p a b).hi (-p.slack) p.slack p.damp.hi=b1
  generalize KM (QY a b).lo (QY a b).hi 0 p.loose p.damp.hi=b2
  generalize KM (QZ a b).lo (QZ a b).hi 0 p.loose p.damp.hi=b3
  generalize Qk (Qa p a b).lo (Qa p a b).hi (-p.slack) p.slack p.damp.lo=b4
  generalize Qk (QY a b).lo (QY a b).hi 0 p.loose p.damp.lo=b5
  generalize Qk (QZ a b).lo (QZ a b).hi 0 p.loose p.damp.lo=b6
  cases b1<;>cases b2<;>cases b3<;>cases b4<;>cases b5<;>cases b6<;>simp
 by_cases c2:b.kind=1∧a.kind=2
 ·obtain ⟨hb,ha⟩:=c2
  obtain ⟨⟨q1,q2⟩,⟨q3,q4,q5⟩,q6,q7,q8⟩:=QJd h1 h3 h2 hb ha
  rw [if_pos ha,if_pos hb,QA3]
  simp only [ha,hb,q1,q2,q3,q4,q5,q6,q7,q8,alw,may,beq_self_eq_true,decide_true]
  generalize KM (Qa p b a).lo (Qa p b a).hi (-p.slack) p.slack p.damp.hi=b1
  generalize KM (QY b a).lo (QY b a).hi 0 p.loose p.damp.hi=b2
  generalize KM (QZ b a).lo (QZ b a).hi 0 p.loose p.damp.hi=b3
  generalize Qk (Qa p b a).lo (Qa p b a).hi (-p.slack) p.slack p.damp.lo=b4
  generalize Qk (QY b a).lo (QY b a).hi 0 p.loose p.damp.lo=b5
  generalize Qk (QZ b a).lo (QZ b a).hi 0 p.loose p.damp.lo=b6
  cases b1<;>cases b2<;>cases b3<;>cases b4<;>cases b5<;>cases b6<;>simp
 have e0:(if a.kind=2 then (if b.kind=1 then X0 p b a else 0) else if a.kind=1∧b.kind=2 then X0 p a b else 0)=0:=by
  split
  ·rename_i ha;rw [if_neg (fun h=>c2 ⟨h,ha⟩)]
  ·rfl
 rw [e0]
 simp only [beq_iff_eq,beq_eq_false_iff_ne]
 refine ⟨fun ha=>⟨fun hb=>absurd ⟨ha,hb⟩ c1,fun _=>⟨fun hb=>⟨fun h=>absurd ⟨hb,h⟩ c2,fun _=>trivial⟩,fun _=>trivial⟩⟩,fun _=>⟨fun hb=>⟨fun h=>absurd ⟨hb,h⟩ c2,fun _=>trivial⟩,fun _=>trivial⟩⟩
def zP:Tab:=QX H5 89 QIo
theorem QGG:QU zP:=QHH.add QN5
def QJa:Qg×Edge×Edge×Unit→Bool×AV:=fun|(p,(a,(b,_)))=>(true,.tup [.int false .i64 (Q5 p a b).1,.int false .i64 (Q5 p a b).2])
def QHf:FC:=Qw (Qx QJa)
theorem QN1 (p:Qg) (a:Edge) (b:Edge):Qs (mkE Try.prog zP) (hnd (mkE Try.prog zP) 4) false Try.f69 (Qi.enc ((p,a,b,()):Qg×Edge×Edge×Unit)) [] 0 =
  QC.need (true) (QC.br (!p.ok) (QC.leaf (AV.tup [AV.int true IntKind.i64 (0:Int),AV.int true IntKind.i64 (1:Int)]) ([])) (QC.need (true) (QC.br (!a.ok) (QC.leaf
  (AV.tup [AV.int true IntKind.i64 (0:Int),AV.int true IntKind.i64 (1:Int)]) ([])) (QC.need (true) (QC.br (!b.ok) (QC.leaf (AV.tup [AV.int true IntKind.i64 (0:Int),
  AV.int true IntKind.i64 (1:Int)]) ([])) (QC.need (okP p a b) (QC.leaf (AV.tup [AV.int false IntKind.i64 (Xz p a b),AV.int true IntKind.i64 (0:Int)]) ([])))))))):=by kernel_rfl
theorem QOa:QM Try.prog 69 QHf:=by
 refine Q2 QGG 4 Try.func69 (by kernel_rfl) (by kernel_rfl) ?_
 rintro ⟨p,a,b,⟨⟩⟩ hp
 rw [QN1 p a b]
 simp only [QJa,QC.den,AV.same,AV.sameL,and_true,true_and] at hp ⊢
 unfold Q5 okP
 cases p.ok<;>cases a.ok<;>cases b.ok<;>simp
def zt:Tab:=QX zP 69 QHf
theorem QI3:QU zt:=QGG.add QOa
end Go.Proofs.Ytbpffdkemeoajaa
