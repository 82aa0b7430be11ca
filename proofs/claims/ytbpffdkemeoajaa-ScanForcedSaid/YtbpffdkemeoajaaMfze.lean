/- - -/
import Derived.Test.YtbpffdkemeoajaaMfzd
open Go.IntKind (i64)
set_option maxRecDepth 100000
namespace Go.Proofs.Ytbpffdkemeoajaa
open Go.SX
variable (pb:List Prop→Bool)(f:List QB)(x:QE)(g:List QB)(e moved turned m:Int)(f':List QB)(k:Nat)(e':Int)(C:List (List QB))
def Yx(U:UC):Tab:=Qg (K3 pb (opO x C)) 77 (VH pb U)
def Wk(m e:Int):AV := .tup [.slz 0 0 f.length (.of 0),.slz 1 0 g.length (.of 0),.int false .i64 m,.int false .i64 e]
def ZS:List (Nat×Blk):=[KW 56 0 f ⟨0,0⟩,KW 56 1 g ⟨0,0⟩]
theorem QXt:KO (mkE Try.prog (K3 pb (opE x e))) (hnd (mkE Try.prog (K3 pb (opE x e))) 1) Try.f25 (QV.vals 0 ((x,()):QE×Unit)) (QV.blks 0 ((x,()):QE×Unit)) 8 =
  QD.need (pb ([x.d.play.length = x.d.play.length, x.d.play.slack = x.d.play.slack, x.d.play.loose = x.d.play.loose, x.d.play.damp.lo = x.d.play.damp.lo, x.d.play.damp.hi = x.d.play.damp.hi, x.d.wide = x.d.wide, x.d.high = x.d.high, x.d.turn = x.d.turn, (0 : Nat) = (0 : Nat), x.d.ps.n = x.d.ps.n, Cap.of (0 : Nat) = Cap.of (0 : Nat), (0 : Nat) = (0 : Nat), x.scans.n = x.scans.n, Cap.of (0 : Nat) = Cap.of (0 : Nat), (0 : Nat) = (0 : Nat), x.hang.n = x.hang.n, Cap.of (0 : Nat) = Cap.of (0 : Nat), x.lost = x.lost, x.foreign = x.foreign, x.d.ps.n ≤ x.d.ps.n, QC (28 : Nat) x.d.ps.n (fun i => QA.enc (x.d.ps.get i)) fun i => QA.enc (x.d.ps.get i), x.scans.n ≤ x.scans.n, QC (28 : Nat) x.scans.n (fun i => QA.enc (x.scans.get i)) fun i => QA.enc (x.scans.get i), x.hang.n ≤ x.hang.n, QC (4 : Nat) x.hang.n (fun i => QA.enc (x.hang.get i)) fun i => QA.enc (x.hang.get i)])) (QD.br (e != (0 : Int)) (QD.leaf (AV.tup [AV.nils, AV.nils, AV.int true i64 (0 : Int), AV.int false i64 e]) ([])) (QD.fail ("a call without a contract"))) := by kernel_rfl
theorem QST(d:Puz)(s:Nat→QS)(hang:Rw Jn)(lo fo:Int):KO (mkE Try.prog (K3 pb (opO ⟨d,⟨0,s⟩,hang,lo,fo⟩ []))) (hnd (mkE Try.prog (K3 pb (opO ⟨d,⟨0,s⟩,hang,lo,fo⟩ []))) 8) Try.f25 (QV.vals 0 ((⟨d,⟨0,s⟩,hang,lo,fo⟩,()):QE×Unit)) (QV.blks 0 ((⟨d,⟨0,s⟩,hang,lo,fo⟩,()):QE×Unit)) 8 =
  QD.need (pb ([d.play.length = d.play.length, d.play.slack = d.play.slack, d.play.loose = d.play.loose, d.play.damp.lo = d.play.damp.lo, d.play.damp.hi = d.play.damp.hi, d.wide = d.wide, d.high = d.high, d.turn = d.turn, (0 : Nat) = (0 : Nat), d.ps.n = d.ps.n, Cap.of (0 : Nat) = Cap.of (0 : Nat), (0 : Nat) = (0 : Nat), (0 : Nat) = (0 : Nat), Cap.of (0 : Nat) = Cap.of (0 : Nat), (0 : Nat) = (0 : Nat), hang.n = hang.n, Cap.of (0 : Nat) = Cap.of (0 : Nat), lo = lo, fo = fo, d.ps.n ≤ d.ps.n, QC (28 : Nat) d.ps.n (fun i => QA.enc (d.ps.get i)) fun i => QA.enc (d.ps.get i), (0 : Nat) ≤ (0 : Nat), QC (28 : Nat) (0 : Nat) (fun i => QA.enc ((Rw.mk (0 : Nat) s).get i)) fun i => QA.enc ((Rw.mk (0 : Nat) s).get i), hang.n ≤ hang.n, QC (4 : Nat) hang.n (fun i => QA.enc (hang.get i)) fun i => QA.enc (hang.get i)])) (QD.br (true) (QD.br (decide (i64.wrap ((↑d.ps.n : Int) - (0 : Int)) > lo)) (QD.leaf (AV.tup [AV.nils, AV.nils, AV.int true i64 (0 : Int), AV.int true i64 (6 : Int)]) ([])) (QD.leaf (AV.tup [AV.nils, AV.nils, AV.int true i64 (1 : Int), AV.int true i64 (0 : Int)]) ([]))) (QD.need (false) (QD.fail ("scan.go:188")))) := by kernel_rfl
abbrev QHS:List Prop:=
  [x.d.play.length=x.d.play.length,x.d.play.slack=x.d.play.slack,x.d.play.loose=x.d.play.loose,x.d.play.damp.lo=x.d.play.damp.lo,x.d.play.damp.hi=x.d.play.damp.hi,
  x.d.wide=x.d.wide,x.d.high=x.d.high,x.d.turn=x.d.turn,0=0,x.d.ps.n=x.d.ps.n,cO=cO,0=0,x.scans.n=x.scans.n,cO=cO,0=0,x.hang.n =
  x.hang.n,cO=cO,x.lost=x.lost,x.foreign=x.foreign,x.d.ps.n≤x.d.ps.n,QC 28 x.d.ps.n (fun i=>QA.enc (x.d.ps.get i)) fun i=>QA.enc (x.d.ps.get i),
  x.scans.n≤x.scans.n,QC 28 x.scans.n (fun i=>QA.enc (x.scans.get i)) fun i=>QA.enc (x.scans.get i),x.hang.n≤x.hang.n,QC 4 x.hang.n (fun i=>QA.enc
  (x.hang.get i)) fun i=>QA.enc (x.hang.get i)]
abbrev QO5(x:QE):List Prop:=
  [0=0,0=0,0=0,0=0,0=0,0=0,0=0,0=0,0=0,0=0,0=0,0=0,([]:List MapEntry)=[],zV (.int true .i64 0) noH fun i => .int false .i64 (QH [] i),
  LoopState.ready=LoopState.ready,(none:Option Code)=none,Array.mk [18]=Array.mk [18],(QR Try.f25 0).1=(QR Try.f25 0).1,(QR Try.f25 0).2=(QR Try.f25
  0).2,x.d.play.length=x.d.play.length,x.d.play.slack=x.d.play.slack,x.d.play.loose=x.d.play.loose,x.d.play.damp.lo=x.d.play.damp.lo,x.d.play.damp.hi=x.d.play.damp.hi,
  x.d.wide=x.d.wide,x.d.high=x.d.high,x.d.turn=x.d.turn,0=0,x.d.ps.n=x.d.ps.n,cO=cO,0=0,x.scans.n=x.scans.n,cO=cO,0=0,x.hang.n =
  x.hang.n,cO=cO,x.lost=x.lost,x.foreign=x.foreign,0=0,0=0,0=0,0=0,0=0,0=0,0=0,0=0,(0:Int)=0,0=0,0=0,0=0,0=0,(0:Int) =
  0,x.d.play.length=x.d.play.length,x.d.play.slack=x.d.play.slack,x.d.play.loose=x.d.play.loose,x.d.play.damp.lo=x.d.play.damp.lo,x.d.play.damp.hi=x.d.play.damp.hi,
  x.d.wide=x.d.wide,x.d.high=x.d.high,x.d.turn=x.d.turn,0=0,x.d.ps.n=x.d.ps.n,cO=cO,0=0,x.scans.n=x.scans.n,cO=cO,0=0,x.hang.n =
  x.hang.n,cO=cO,x.lost=x.lost,x.foreign=x.foreign,0=0,0=0,(0:Int)=0,0=0,0=0,(0:Int)=0,(0:Int)=0,false=false,0=0,0=0,Fn.func
  76=Fn.func 76,0=0,0=0,(0:Int)=0,0=0,0=0,0=0,0=0,Fn.func 77=Fn.func 77,0=0,0=0,0=0,0=0,0=0,0=0,0=0,0=0,0=0,0=0,0=0,0 =
  0,x.d.play.length=x.d.play.length,x.d.play.slack=x.d.play.slack,x.d.play.loose=x.d.play.loose,x.d.play.damp.lo=x.d.play.damp.lo,x.d.play.damp.hi=x.d.play.damp.hi,
  x.d.wide=x.d.wide,x.d.high=x.d.high,x.d.turn=x.d.turn,0=0,x.d.ps.n=x.d.ps.n,cO=cO,0=0,x.scans.n=x.scans.n,cO=cO,0=0,x.hang.n =
  x.hang.n,cO=cO,x.lost=x.lost,x.foreign=x.foreign,x.d.play.length=x.d.play.length,x.d.play.slack=x.d.play.slack,x.d.play.loose=x.d.play.loose,
  x.d.play.damp.lo=x.d.play.damp.lo,x.d.play.damp.hi=x.d.play.damp.hi,x.d.wide=x.d.wide,x.d.high=x.d.high,x.d.turn=x.d.turn,0=0,x.d.ps.n=x.d.ps.n,cO =
  cO,0=0,x.scans.n=x.scans.n,cO=cO,0=0,x.hang.n=x.hang.n,cO=cO,x.lost=x.lost,x.foreign=x.foreign,0=0,C.length=C.length,
  cO=cO,C.length=C.length,Kj 2 C.length (fun i=>(QK C i).length) (fun i=>(QK C i).length) (fun i j=>QA.enc ((QK C i).getD j ⟨0,0⟩)) fun i j=>
  QA.enc ((QK C i).getD j ⟨0,0⟩),x.d.ps.n≤x.d.ps.n,QC 28 x.d.ps.n (fun i=>QA.enc (x.d.ps.get i)) fun i=>QA.enc (x.d.ps.get i),x.scans.n≤x.scans.n,QC 28
  x.scans.n (fun i=>QA.enc (x.scans.get i)) fun i=>QA.enc (x.scans.get i),x.hang.n≤x.hang.n,QC 4 x.hang.n (fun i=>QA.enc (x.hang.get i)) fun i=>QA.enc
  (x.hang.get i)]
noncomputable abbrev QMY(g':List QB):List (Nat×Blk):=
  [(241,.rowz true 56 [.int .i64,.int .i64] f'.length fun i=>QA.enc (f'.getD i ⟨0,0⟩)),(242,.rowz true 56 [.int .i64,.int .i64] g'.length fun i=>QA.enc (g'.getD i ⟨0,
  0⟩))]
theorem QWA(has':Int→Bool)(many':Int)(f' g':List QB):KO (mkE Try.prog (Yx pb x C (trU x C (QR Try.f25 0).1 (QR Try.f25 0).2 [] noH 0 [] [] has' many' f' g'))) (hnd (mkE Try.prog (Yx pb x C (trU x C (QR Try.f25
  0).1 (QR Try.f25 0).2 [] noH 0 [] [] has' many' f' g'))) 8) Try.f25 (QV.vals 0 ((x,()):QE×Unit)) (QV.blks 0 ((x,()):QE×Unit)) 8 = .need (pb ((QHS x)))
  (.need (pb ((QO5 C x))) (.br (many'==0) (.leaf (.tup [.nils,.nils,vj 0,vj 6]) ([])) (.leaf (.tup [.slz 241 0 f'.length cO,.slz 242 0 g'.length
  cO,vi many',vj 0]) ((QMY f' g'))))):=by kernel_rfl
theorem QYz(has':Int→Bool)(many':Int)(f' g':List QB):KO (mkE Try.prog (Yx pb x C (trV x C (QR Try.f25 0).1 (QR Try.f25 0).2 [] noH 0 [] [] has' many' f' g'))) (hnd (mkE Try.prog (Yx pb x C (trV x C (QR Try.f25
  0).1 (QR Try.f25 0).2 [] noH 0 [] [] has' many' f' g'))) 8) Try.f25 (QV.vals 0 ((x,()):QE×Unit)) (QV.blks 0 ((x,()):QE×Unit)) 8 = .need (pb ((QHS x)))
  (.need (pb ((QO5 C x))) (.br (many'==0) (.leaf (.tup [.nils,.nils,vj 0,vj 6]) ([])) (.leaf (.tup [.slz 241 0 f'.length cO,.slz 242 0 g'.length
  cO,vi many',vj 0]) ((QMY f' g'))))):=by kernel_rfl
theorem QSc(f g:List QB)(m e':Int):QL 8 [(AV.tup [AV.nils,AV.nils,AV.int true i64 (0:Int),AV.int false i64 e])] ([]) (Kg 8 (Wk f g m e') (ZS f g))=(
  some [f.length=(0:Nat),g.length=(0:Nat),(0:Int)=m,e=e',f.length=(0:Nat),g.length=(0:Nat)]):=by kernel_rfl
theorem QSF:QL 8 [(AV.tup [AV.nils,AV.nils,AV.int true i64 (0:Int),AV.int true i64 (6:Int)])] ([]) (Kg 8 (Wk f g m e') (ZS f g))=(
  some [f.length=(0:Nat),g.length=(0:Nat),(0:Int)=m,(6:Int)=e',f.length=(0:Nat),g.length=(0:Nat)]):=by kernel_rfl
theorem QQX:QL 8 [(AV.tup [AV.nils,AV.nils,AV.int true i64 (1:Int),AV.int true i64 (0:Int)])] ([]) (Kg 8 (Wk f g m e') (ZS f g))=(
  some [f.length=(0:Nat),g.length=(0:Nat),(1:Int)=m,(0:Int)=e',f.length=(0:Nat),g.length=(0:Nat)]):=by kernel_rfl
theorem QRp:QL 8 [(AV.tup [AV.nils,AV.nils,AV.int true i64 (0:Int),AV.int true i64 (6:Int)])] ([]) (Kg 8 (Wk f g m e') (ZS f g))=(
  some [f.length=(0:Nat),g.length=(0:Nat),(0:Int)=m,(6:Int)=e',f.length=(0:Nat),g.length=(0:Nat)]):=by kernel_rfl
theorem QaD(many':Int)(f' g':List QB)(f g:List QB)(m e':Int):QL 8 [(AV.tup [AV.slz (241:Nat) (0:Nat) f'.length (Cap.of (0:Nat)),AV.slz (242:Nat) (0:Nat) g'.length (Cap.of (0:Nat)),AV.int false i64 many',AV.int true i64 (0:Int)])] ([((241:Nat),Blk.rowz true (56:Nat) [CK.int i64,CK.int i64] f'.length fun i=>QA.enc (f'.getD i (QB.mk (0:Int) (0:Int)))),((242:Nat),Blk.rowz true (56:Nat) [CK.int i64,CK.int i64] g'.length fun i=>QA.enc (g'.getD i (QB.mk (0:Int) (0:Int))))]) (Kg 8 (Wk f g m e') (ZS f g))=(
  some [(0:Nat)=(0:Nat),f'.length=f.length,Cap.of (0:Nat)=Cap.of (0:Nat),(0:Nat)=(0:Nat),g'.length=g.length,Cap.of (0:Nat)=Cap.of (0:Nat),many'=m,
  (0:Int)=e',f.length≤f'.length,QC (2:Nat) f.length (fun i=>QA.enc (f'.getD i (QB.mk (0:Int) (0:Int)))) fun i=>QA.enc (f.getD i (QB.mk (0:Int) (0 :
  Int))),g.length≤g'.length,QC (2:Nat) g.length (fun i=>QA.enc (g'.getD i (QB.mk (0:Int) (0:Int)))) fun i=>QA.enc (g.getD i (QB.mk (0:Int) (0:Int)))]):=by kernel_rfl
theorem QZW:QL 8 [(AV.tup [AV.nils,AV.nils,AV.int true i64 (0:Int),AV.int true i64 (6:Int)])] ([]) (Kg 8 (Wk f g m e') (ZS f g))=(
  some [f.length=(0:Nat),g.length=(0:Nat),(0:Int)=m,(6:Int)=e',f.length=(0:Nat),g.length=(0:Nat)]):=by kernel_rfl
theorem QPI(many':Int)(f' g':List QB)(f g:List QB)(m e':Int):QL 8 [(AV.tup [AV.slz (241:Nat) (0:Nat) f'.length (Cap.of (0:Nat)),AV.slz (242:Nat) (0:Nat) g'.length (Cap.of (0:Nat)),AV.int false i64 many',AV.int true i64 (0:Int)])] ([((241:Nat),Blk.rowz true (56:Nat) [CK.int i64,CK.int i64] f'.length fun i=>QA.enc (f'.getD i (QB.mk (0:Int) (0:Int)))),((242:Nat),Blk.rowz true (56:Nat) [CK.int i64,CK.int i64] g'.length fun i=>QA.enc (g'.getD i (QB.mk (0:Int) (0:Int))))]) (Kg 8 (Wk f g m e') (ZS f g))=(
  some [(0:Nat)=(0:Nat),f'.length=f.length,Cap.of (0:Nat)=Cap.of (0:Nat),(0:Nat)=(0:Nat),g'.length=g.length,Cap.of (0:Nat)=Cap.of (0:Nat),many'=m,
  (0:Int)=e',f.length≤f'.length,QC (2:Nat) f.length (fun i=>QA.enc (f'.getD i (QB.mk (0:Int) (0:Int)))) fun i=>QA.enc (f.getD i (QB.mk (0:Int) (0 :
  Int))),g.length≤g'.length,QC (2:Nat) g.length (fun i=>QA.enc (g'.getD i (QB.mk (0:Int) (0:Int)))) fun i=>QA.enc (g.getD i (QB.mk (0:Int) (0:Int)))]):=by kernel_rfl
def GG:Res TrS:=onT x (Qr x x.scans.n) trY x.scans.n [] (0,[],[]) noH
def QO:List QB×List QB×Int×Int:=match x.ok with
 | false=>([],[],0,1)
 | true=>match JU x with
  | true=>([],[],0,11)
  | false=>match GG x with
   | .stop s _ | .go s _=>match s.1==0 with
    | true=>([],[],0,6)
    | false=>(s.2.1,s.2.2,s.1,0)
def Vi:WF (QE×Unit):=fun|(x,_)=>(decide (x.d.ps.n≤1000∧x.scans.n≤1000∧x.hang.n≤1000),Wk (QO x).1 (QO x).2.1 (QO x).2.2.1 (QO x).2.2.2,ZS (QO x).1 (QO x).2.1)
def QK3:FC:=wFC Vi
theorem QBI:WOk (Vi (x,())).2.1 (Vi (x,())).2.2:=⟨rfl,by simp[Vi,ZS,KW,Blk.own,Blk.all],rfl⟩
theorem QLc(ht:QP Try.prog 49 (uFC (opE x e)))(he:e≠0)(hv:QO x=([],[],0,e)):QP Try.prog 25 (wFC (J1 Vi (x,()))):=by
 have hT:QZ (K3 Qf (opE x e)):=KB.add ht;refine Ya (c:=Qs Try.f25) (E:=mkE Try.prog (K3 Qf (opE x e))) (H:=hnd (mkE Try.prog (K3 Qf (opE x e))) 1) (QT hT) Try.func25 (by kernel_rfl) (by kernel_rfl) (N:=8) (by decide) (x,()) (fun G h1 _=>Qy (QT hT) 1 G _ h1) (QBI x) ?_
 refine Q2 (QXt Qf x e) ?_;refine QF (Ke.2 ?_) (QG (fun _ => ?_) (fun h=>by simp at h;exact absurd h he))
 ·repeat' first|with_reducible refine QQ ?_ ?_|exact trivial|with_reducible rfl|exact qlr _|exact qRr|exact QY _ _ _ _|refine And.intro ?_ ?_
 ·simp only[Vi,hv];refine⟨rfl,rfl,_,QSc e [] [] 0 e,?_⟩
  repeat' first|with_reducible refine QQ ?_ ?_|exact trivial|with_reducible rfl|exact qlr _|exact qRr|exact QY _ _ _ _|exact rfl|refine And.intro ?_ ?_
theorem QVS(hs:YH x)(hx:x.ok=true)(hr:JU x=false)(hpos:0<x.scans.n):QP Try.prog 25 (wFC (J1 Vi (x,()))):=by
 have hg:=JM hx;have hC:=QGH (x:=x) hg.d.n9;have hon:=QJs hg hC hpos x.scans.n [] (0,[],[]) noH (by simp) (fun c hc=>by cases hc)
 cases he:onT x (Qr x x.scans.n) trY x.scans.n [] (0,[],[]) noH with
 | go s h=>
  rw[he]at hon;have hT:QZ (Yx Qf x (Qr x x.scans.n) (trU x (Qr x x.scans.n) VG J9 [] noH 0 [] [] h s.1 s.2.1 s.2.2)):=(KB.add (vn x hs hx hr)).add hon
  have hv:QO x=match s.1==0 with
    | true=>([],[],0,6)
    | false=>(s.2.1,s.2.2,s.1,0):=by
   simp only[QO,hx,hr,GG,he]
  refine Ya (c:=Qs Try.f25) (E:=mkE Try.prog (Yx Qf x (Qr x x.scans.n) (trU x (Qr x x.scans.n) VG J9 [] noH 0 [] [] h s.1 s.2.1 s.2.2))) (H:=hnd (mkE Try.prog (Yx Qf x (Qr x x.scans.n) (trU x (Qr x x.scans.n) VG J9 [] noH 0 [] [] h s.1 s.2.1 s.2.2))) 8) (QT hT) Try.func25 (by kernel_rfl) (by kernel_rfl) (N:=8) (by decide) (x,()) (fun G h1 _=>Qy (QT hT) 8 G _ h1) (QBI x) ?_
  refine Q2 (QWA Qf x (Qr x x.scans.n) h s.1 s.2.1 s.2.2) ?_;refine QF (Ke.2 ?_) (QF (Ke.2 ?_) (QG (fun q => ?_) (fun q => ?_)))
  ·repeat' first|with_reducible refine QQ ?_ ?_|exact trivial|with_reducible rfl|exact qlr _|exact qRr|exact QY _ _ _ _|refine And.intro ?_ ?_
  ·repeat' first|with_reducible refine QQ ?_ ?_|exact trivial|with_reducible rfl|exact qlr _|exact qRr|exact QY _ _ _ _|exact QCF _|exact rfl|refine And.intro ?_ ?_
  ·simp only[Vi,hv,q];refine⟨rfl,rfl,_,QRp [] [] 0 6,?_⟩
   repeat' first|with_reducible refine QQ ?_ ?_|exact trivial|with_reducible rfl|exact qlr _|exact qRr|exact QY _ _ _ _|exact rfl|refine And.intro ?_ ?_
  ·simp only[Vi,hv,q];refine⟨rfl,rfl,_,QaD s.1 s.2.1 s.2.2 s.2.1 s.2.2 s.1 0,?_⟩
   repeat' first|with_reducible refine QQ ?_ ?_|exact trivial|with_reducible rfl|exact qlr _|exact qRr|exact QY _ _ _ _|exact rfl|refine And.intro ?_ ?_
 | stop s h=>
  rw[he]at hon;have hT:QZ (Yx Qf x (Qr x x.scans.n) (trV x (Qr x x.scans.n) VG J9 [] noH 0 [] [] h s.1 s.2.1 s.2.2)):=(KB.add (vn x hs hx hr)).add hon
  have hv:QO x=match s.1==0 with
    | true=>([],[],0,6)
    | false=>(s.2.1,s.2.2,s.1,0):=by
   simp only[QO,hx,hr,GG,he]
  refine Ya (c:=Qs Try.f25) (E:=mkE Try.prog (Yx Qf x (Qr x x.scans.n) (trV x (Qr x x.scans.n) VG J9 [] noH 0 [] [] h s.1 s.2.1 s.2.2))) (H:=hnd (mkE Try.prog (Yx Qf x (Qr x x.scans.n) (trV x (Qr x x.scans.n) VG J9 [] noH 0 [] [] h s.1 s.2.1 s.2.2))) 8) (QT hT) Try.func25 (by kernel_rfl) (by kernel_rfl) (N:=8) (by decide) (x,()) (fun G h1 _=>Qy (QT hT) 8 G _ h1) (QBI x) ?_
  refine Q2 (QYz Qf x (Qr x x.scans.n) h s.1 s.2.1 s.2.2) ?_;refine QF (Ke.2 ?_) (QF (Ke.2 ?_) (QG (fun q => ?_) (fun q => ?_)))
  ·repeat' first|with_reducible refine QQ ?_ ?_|exact trivial|with_reducible rfl|exact qlr _|exact qRr|exact QY _ _ _ _|refine And.intro ?_ ?_
  ·repeat' first|with_reducible refine QQ ?_ ?_|exact trivial|with_reducible rfl|exact qlr _|exact qRr|exact QY _ _ _ _|exact QCF _|exact rfl|refine And.intro ?_ ?_
  ·simp only[Vi,hv,q];refine⟨rfl,rfl,_,QZW [] [] 0 6,?_⟩
   repeat' first|with_reducible refine QQ ?_ ?_|exact trivial|with_reducible rfl|exact qlr _|exact qRr|exact QY _ _ _ _|exact rfl|refine And.intro ?_ ?_
  ·simp only[Vi,hv,q];refine⟨rfl,rfl,_,QPI s.1 s.2.1 s.2.2 s.2.1 s.2.2 s.1 0,?_⟩
   repeat' first|with_reducible refine QQ ?_ ?_|exact trivial|with_reducible rfl|exact qlr _|exact qRr|exact QY _ _ _ _|exact rfl|refine And.intro ?_ ?_
theorem QUU(d:Puz)(sc:Nat→QS)(hang:Rw Jn)(lo fo:Int)(hs:YH ⟨d,⟨0,sc⟩,hang,lo,fo⟩)(hx:(QE.mk d ⟨0,sc⟩ hang lo fo).ok=true)(hr:JU ⟨d,⟨0,sc⟩,hang,lo,fo⟩=false):QP Try.prog 25 (wFC (J1 Vi (⟨d,⟨0,sc⟩,hang,lo,fo⟩,()))):=by
 have hd:=hs.d;have hd:d.ps.n≤1000:=hd;have hT:QZ (K3 Qf (opO ⟨d,⟨0,sc⟩,hang,lo,fo⟩ [])):=KB.add (vn ⟨d,⟨0,sc⟩,hang,lo,fo⟩ hs hx hr);have hw:i64.wrap ((d.ps.n:Int)-0)=d.ps.n:=(w64 (by omega) (by omega)).trans (by omega)
 have hv:QO ⟨d,⟨0,sc⟩,hang,lo,fo⟩=match decide ((d.ps.n:Int)>lo)with
   | true=>([],[],0,6)
   | false=>([],[],1,0):=by
  simp only[QO,hx,hr,GG,onT,VF,YW];simp only[show(d.ps.n:Int)-((([]:List QB).length:Int)-QH [] (-2))=d.ps.n by simp[QH]]
  cases decide ((d.ps.n:Int)>lo)<;>rfl
 refine Ya (c:=Qs Try.f25) (E:=mkE Try.prog (K3 Qf (opO ⟨d,⟨0,sc⟩,hang,lo,fo⟩ []))) (H:=hnd (mkE Try.prog (K3 Qf (opO ⟨d,⟨0,sc⟩,hang,lo,fo⟩ []))) 8) (QT hT) Try.func25 (by kernel_rfl) (by kernel_rfl) (N:=8) (by decide) (⟨d,⟨0,sc⟩,hang,lo,fo⟩,()) (fun G h1 _=>Qy (QT hT) 8 G _ h1) (QBI _) ?_
 refine Q2 (QST Qf d sc hang lo fo) ?_;refine QF (Ke.2 ?_) (QG (fun _=>QG (fun q => ?_) (fun q => ?_)) (fun q=>by cases q))
 ·repeat' first|with_reducible refine QQ ?_ ?_|exact trivial|with_reducible rfl|exact qlr _|exact qRr|exact QY _ _ _ _|refine And.intro ?_ ?_
 ·rw[hw]at q;simp only[Vi,hv,q];refine⟨rfl,rfl,_,QSF [] [] 0 6,?_⟩
  repeat' first|with_reducible refine QQ ?_ ?_|exact trivial|with_reducible rfl|exact qlr _|exact qRr|exact QY _ _ _ _|exact rfl|refine And.intro ?_ ?_
 ·rw[hw]at q;simp only[Vi,hv,q];refine⟨rfl,rfl,_,QQX [] [] 1 0,?_⟩
  repeat' first|with_reducible refine QQ ?_ ?_|exact trivial|with_reducible rfl|exact qlr _|exact qRr|exact QY _ _ _ _|exact rfl|refine And.intro ?_ ?_
theorem QYe(hx:(Vi (x,())).1=true):QP Try.prog 25 (wFC (J1 Vi (x,()))):=by
 obtain⟨h1,h2,h3⟩:=qdt hx;have hs:YH x:=⟨h1,h2,h3⟩;cases ho:x.ok with
 | false=>exact QLc x 1 (QC9 x hs ho) (by decide) (by simp only[QO,ho])
 | true=>cases hr:JU x with
  | true=>exact QLc x 11 (QFm x hs ho hr) (by decide) (by simp only[QO,ho,hr])
  | false=>
   by_cases hp:0<x.scans.n
   ·exact QVS x hs ho hr hp
   ·obtain⟨d,⟨n,sc⟩,hang,lo,fo⟩:=x;obtain rfl:n=0:=by simp only at hp;omega
    exact QUU d sc hang lo fo hs ho hr
theorem QTM:QP Try.prog 25 QK3:=Gl (by kernel_rfl) fun|(x,()),hx=>QYe x hx
def QVJ(b:Nat)(f:List QB)(moved turned:Int):List (Nat×Blk):=[(120,.cells 0 38 [.slz b 0 f.length (.of 0)]),rwL b f,(112,.cells 0 92 [.int false .i64 moved]),(104,.cells 0 92 [.int false .i64 turned])]
def qU:JSt:=⟨53,[(6,.ptr 104 0 0),(7,.ptr 112 0 0),(8,.ptr 120 0 0),(29,.int false .i64 f.length),(30,.int false .i64 k)],QVJ 464 f moved turned,472⟩
def QEM:JSt:=⟨53,[(8,.ptr 120 0 0)],[(120,.cells 0 38 [.slz 464 0 f.length (.of 0)]),rwL 464 f],472⟩
def QNo:Ex→List Nat
 | .normal=>[6,7,8,29,30]
 | .exit _=>[8]
 | .ret=>[]
def je:AV := .tup [.slz 0 0 f.length (.of 0),.int false .i64 e]
noncomputable abbrev QCk:List AV:=
  [.nilp,.ptr 53 0 0,.ptr 104 0 0,.ptr 112 0 0,.ptr 120 0 0,vi (f.length:Int),vi (i64.wrap ((k:Int)+1))]
noncomputable abbrev QCt:Nat×Blk:=
  (104,.cells 0 92 [vi turned])
noncomputable abbrev QA8:Nat×Blk:=
  (112,.cells 0 92 [vi moved])
noncomputable abbrev zO:Nat×Blk:=
  (120,.cells 0 38 [.slz 464 0 f.length cO])
noncomputable abbrev QCR:List AV:=
  [vj (-1),vj 0]
noncomputable abbrev QO1(moved:Int)(turned:Int):List (Nat×Blk):=
  [(QCt turned),(QA8 moved),(zO f),(464,.rowz true 56 [.int .i64,.int .i64] f.length fun i=>bif decide (i=k)then Jk QCR 0 (bif decide (k=k)then Jk [.int true
  .i64 0] 1 (QA.enc (f.getD k ⟨0,0⟩))else QA.enc (f.getD k ⟨0,0⟩))else bif decide (i=k)then Jk [vj 0] 1 (QA.enc (f.getD k ⟨0,0⟩))else QA.enc (f.getD i
  ⟨0,0⟩))]
noncomputable abbrev QKv(moved:Int)(turned:Int):List (Nat×Blk):=
  [(QCt turned),(QA8 moved),(zO f),(464,.rowz true 56 [.int .i64,.int .i64] f.length fun i=>bif decide (i=k)then Jk QCR 0 (QA.enc (f.getD k ⟨0,0⟩))else QA.enc
  (f.getD i ⟨0,0⟩))]
theorem QPU(g:Nat→Value):exec (mkE Try.prog Qu) (hnd (mkE Try.prog Qu) 3) (QX Try.f33 0) (JSt.inst (qU f moved turned k) g) (KT [] QNo) = .br (decide ((k:Int)<(f.length:Int)))
  (.need (decide ((0:Int)≤(k:Int))) (.br (i64.wrap (↑(BitVec.ofInt 64 (turned.fdiv ((2:Int)^min k 64)) &&& BitVec.ofInt 64 (1:Int)).toNat:Int)==1) (.need
  (decide ((0:Int)≤(k:Int)∧(k:Int)<(f.length:Int))&&decide (f.length≤f.length)) (.need (decide (k<f.length)) (.need (decide ((0:Int)≤(k:Int))) (.br
  (i64.wrap (↑(BitVec.ofInt 64 (moved.fdiv ((2:Int)^min k 64)) &&& BitVec.ofInt 64 (1:Int)).toNat:Int)==1) (.need (decide ((0:Int)≤(k:Int)∧(k:Int) <
  (f.length:Int))&&decide (f.length≤f.length)) (.need (decide (k<f.length)) (.leaf (.tup (QCk f k)) ((QO1 f k moved turned))))) (.leaf (.tup (QCk f k)) ([(QCt turned),
  (QA8 moved),(zO f),(464,.rowz true 56 [.int .i64,.int .i64] f.length fun i=>bif decide (i=k)then Jk [vj 0] 1 (QA.enc (f.getD k ⟨0,0⟩))else QA.enc
  (f.getD i ⟨0,0⟩))])))))) (.need (decide ((0:Int)≤(k:Int))) (.br (i64.wrap (↑(BitVec.ofInt 64 (moved.fdiv ((2:Int)^min k 64)) &&& BitVec.ofInt 64 (1:Int)).toNat
  : Int)==1) (.need (decide ((0:Int)≤(k:Int)∧(k:Int)<(f.length:Int))&&decide (f.length≤f.length)) (.need (decide (k<f.length)) (.leaf (.tup (QCk f k)) ((QKv f
  k moved turned))))) (.leaf (.tup (QCk f k)) ([(QCt turned),(QA8 moved),(zO f),(464,.rowz true 56 [.int .i64,.int .i64] f.length fun i=>QA.enc (f.getD i ⟨0,0⟩))]))))))
  (.leaf (.tup [.ptr 0 0 0,.ptr 53 0 0,.ptr 120 0 0]) ([(zO f),(464,.rowz true 56 [.int .i64,.int .i64] f.length fun i=>QA.enc (f.getD i ⟨0,0⟩))])):=by kernel_rfl
theorem QR0:KO (mkE Try.prog (K3 pb (opE x e))) (hnd (mkE Try.prog (K3 pb (opE x e))) 1) Try.f33 (QV.vals 0 ((x,()):QE×Unit)) (QV.blks 0 ((x,()):QE×Unit)) 8 =
  QD.need (pb ([x.d.play.length = x.d.play.length, x.d.play.slack = x.d.play.slack, x.d.play.loose = x.d.play.loose, x.d.play.damp.lo = x.d.play.damp.lo, x.d.play.damp.hi = x.d.play.damp.hi, x.d.wide = x.d.wide, x.d.high = x.d.high, x.d.turn = x.d.turn, (0 : Nat) = (0 : Nat), x.d.ps.n = x.d.ps.n, Cap.of (0 : Nat) = Cap.of (0 : Nat), (0 : Nat) = (0 : Nat), x.scans.n = x.scans.n, Cap.of (0 : Nat) = Cap.of (0 : Nat), (0 : Nat) = (0 : Nat), x.hang.n = x.hang.n, Cap.of (0 : Nat) = Cap.of (0 : Nat), x.lost = x.lost, x.foreign = x.foreign, x.d.ps.n ≤ x.d.ps.n, QC (28 : Nat) x.d.ps.n (fun i => QA.enc (x.d.ps.get i)) fun i => QA.enc (x.d.ps.get i), x.scans.n ≤ x.scans.n, QC (28 : Nat) x.scans.n (fun i => QA.enc (x.scans.get i)) fun i => QA.enc (x.scans.get i), x.hang.n ≤ x.hang.n, QC (4 : Nat) x.hang.n (fun i => QA.enc (x.hang.get i)) fun i => QA.enc (x.hang.get i)])) (QD.br (e != (0 : Int)) (QD.leaf (AV.tup [AV.nils, AV.int false i64 e]) ([])) (QD.fail ("a call without a contract"))) := by kernel_rfl
theorem QTo(d:Puz)(s:Nat→QS)(hang:Rw Jn)(lo fo:Int):KO (mkE Try.prog (K3 pb (opO ⟨d,⟨0,s⟩,hang,lo,fo⟩ []))) (hnd (mkE Try.prog (K3 pb (opO ⟨d,⟨0,s⟩,hang,lo,fo⟩ []))) 8) Try.f33 (QV.vals 0 ((⟨d,⟨0,s⟩,hang,lo,fo⟩,()):QE×Unit)) (QV.blks 0 ((⟨d,⟨0,s⟩,hang,lo,fo⟩,()):QE×Unit)) 8 =
  QD.need (pb ([d.play.length = d.play.length, d.play.slack = d.play.slack, d.play.loose = d.play.loose, d.play.damp.lo = d.play.damp.lo, d.play.damp.hi = d.play.damp.hi, d.wide = d.wide, d.high = d.high, d.turn = d.turn, (0 : Nat) = (0 : Nat), d.ps.n = d.ps.n, Cap.of (0 : Nat) = Cap.of (0 : Nat), (0 : Nat) = (0 : Nat), (0 : Nat) = (0 : Nat), Cap.of (0 : Nat) = Cap.of (0 : Nat), (0 : Nat) = (0 : Nat), hang.n = hang.n, Cap.of (0 : Nat) = Cap.of (0 : Nat), lo = lo, fo = fo, d.ps.n ≤ d.ps.n, QC (28 : Nat) d.ps.n (fun i => QA.enc (d.ps.get i)) fun i => QA.enc (d.ps.get i), (0 : Nat) ≤ (0 : Nat), QC (28 : Nat) (0 : Nat) (fun i => QA.enc ((Rw.mk (0 : Nat) s).get i)) fun i => QA.enc ((Rw.mk (0 : Nat) s).get i), hang.n ≤ hang.n, QC (4 : Nat) hang.n (fun i => QA.enc (hang.get i)) fun i => QA.enc (hang.get i)])) (QD.br (true) (QD.br (decide (i64.wrap ((↑d.ps.n : Int) - (0 : Int)) > lo)) (QD.leaf (AV.tup [AV.nils, AV.int true i64 (6 : Int)]) ([])) (QD.leaf (AV.tup [AV.nils, AV.int true i64 (0 : Int)]) ([]))) (QD.need (false) (QD.fail ("scan.go:188")))) := by kernel_rfl
def HS(U:UC):Tab:=Qg (K3 pb (opO x C)) 77 (VH pb U)
abbrev QEt(P:Program)(T:Tab)(f f2:List QB)(moved turned:Int):Hnd:={ hnd (mkE P T) 8 with loop:=fun _=>KD 8 [] (qU f moved turned (0:Nat)) [(True,.exit 0,QEM f2)] }
theorem QW1(has':Int→Bool)(many' n':Int)(f':List QB)(moved' turned':Int)(f2:List QB):KO (mkE Try.prog (HS pb x C (tdU x C (QR Try.f53 0).1 (QR Try.f53 0).2 [] noH 0 0 [] 0 0 has' many' n' f' moved' turned'))) (QEt Try.prog (HS pb x C (tdU x C
  (QR Try.f53 0).1 (QR Try.f53 0).2 [] noH 0 0 [] 0 0 has' many' n' f' moved' turned')) f' f2 moved' turned') Try.f33 (QV.vals 0 ((x,()):QE×Unit)) (QV.blks 0 ((x,
  ()):QE×Unit)) 8 = .need (pb ([x.d.play.length=x.d.play.length,x.d.play.slack=x.d.play.slack,x.d.play.loose=x.d.play.loose,x.d.play.damp.lo=x.d.play.damp.lo,
  x.d.play.damp.hi=x.d.play.damp.hi,x.d.wide=x.d.wide,x.d.high=x.d.high,x.d.turn=x.d.turn,0=0,x.d.ps.n=x.d.ps.n,cO=cO,0=0,x.scans.n=x.scans.n,
  cO=cO,0=0,x.hang.n=x.hang.n,cO=cO,x.lost=x.lost,x.foreign=x.foreign,x.d.ps.n≤x.d.ps.n,QC 28 x.d.ps.n (fun i=>QA.enc (x.d.ps.get
  i)) fun i=>QA.enc (x.d.ps.get i),x.scans.n≤x.scans.n,QC 28 x.scans.n (fun i=>QA.enc (x.scans.get i)) fun i=>QA.enc (x.scans.get i),x.hang.n≤x.hang.n,QC 4
  x.hang.n (fun i=>QA.enc (x.hang.get i)) fun i=>QA.enc (x.hang.get i)])) (.need (pb ([0=0,0=0,0=0,0=0,0=0,0=0,0=0,0=0,0=0,0=0,0=0,0=0,([]
  : List MapEntry)=[],zV (.int true .i64 0) noH fun i => .int false .i64 (QH [] i),LoopState.ready=LoopState.ready,(none:Option Code)=none,Array.mk [12]=Array.mk
  [12],(QR Try.f53 0).1=(QR Try.f53 0).1,(QR Try.f53 0).2=(QR Try.f53 0).2,0=0,0=0,(0:Int)=0,Fn.func 62=Fn.func 62,0=0,0=0,0=0,0=0,0 =
  0,0=0,0=0,0=0,0=0,0=0,(0:Int)=0,false=false,0=0,0=0,0=0,0=0,Fn.func 76=Fn.func 76,0=0,0=0,(0:Int)=0,(0:Int)=0,0=0,0=0,(0
  : Int)=0,(0:Int)=0,Fn.func 77=Fn.func 77,0=0,0=0,0=0,0=0,0=0,0=0,0=0,0=0,0=0,0=0,0=0,0=0,Fn.func 62=Fn.func 62,0=0,0=0,0=0,
  0=0,0=0,0=0,x.d.play.length=x.d.play.length,x.d.play.slack=x.d.play.slack,x.d.play.loose=x.d.play.loose,x.d.play.damp.lo=x.d.play.damp.lo,x.d.play.damp.hi =
  x.d.play.damp.hi,x.d.wide=x.d.wide,x.d.high=x.d.high,x.d.turn=x.d.turn,0=0,x.d.ps.n=x.d.ps.n,cO=cO,0=0,x.scans.n=x.scans.n,cO=cO,
  0=0,x.hang.n=x.hang.n,cO=cO,x.lost=x.lost,x.foreign=x.foreign,0=0,C.length=C.length,cO=cO,C.length=C.length,Kj 2 C.length
  (fun i=>(QK C i).length) (fun i=>(QK C i).length) (fun i j=>QA.enc ((QK C i).getD j ⟨0,0⟩)) fun i j=>QA.enc ((QK C i).getD j ⟨0,0⟩),x.d.ps.n≤x.d.ps.n,
  QC 28 x.d.ps.n (fun i=>QA.enc (x.d.ps.get i)) fun i=>QA.enc (x.d.ps.get i),x.scans.n≤x.scans.n,QC 28 x.scans.n (fun i=>QA.enc (x.scans.get i)) fun i=>
  QA.enc (x.scans.get i),x.hang.n≤x.hang.n,QC 4 x.hang.n (fun i=>QA.enc (x.hang.get i)) fun i=>QA.enc (x.hang.get i)])) (.br (!decide (many'>0)) (.leaf (.tup
  [.nils,vj 6]) ([])) (.ask (0=0) (.ask (0=0) (.ask (0=0) (.ask (0=0) (.ask (0=0) (.ask (0=0) (.ask ((f'.length:Int)=(f'.length:Int)) (.ask ((0:Int) =
  0) (.ask (0=0) (.ask (f'.length=f'.length) (.ask (cO=cO) (.ask (f'.length≤f'.length) (.ask (QC 2 f'.length (fun i=>QA.enc (f'.getD i ⟨0,0⟩)) fun i=>
  QA.enc (f'.getD i ⟨0,0⟩)) (.ask (moved'=moved') (.ask (turned'=turned') (.asm (True) (.all (fun(g0:Nat→Value) => .leaf (.tup [.slz 464 0 f2.length cO,.int true
  .i64 0]) ([(464,.rowz true 56 [.int .i64,.int .i64] f2.length fun i=>QA.enc (f2.getD i ⟨0,0⟩))]))))))))))))))))))))):=by kernel_rfl
noncomputable abbrev QNB:List AV:=
  [.ptr 104 0 0,.ptr 112 0 0,.ptr 120 0 0,vi (f.length:Int),vi (i64.wrap ((k:Int)+1))]
abbrev QNP:List Prop:=
  [0=0,0=0,0=0,0=0]
abbrev QNX(k':Nat):List Prop:=
  [0=0,0=0,(f.length:Int)=(f'.length:Int),i64.wrap ((k:Int)+1)=(k':Int),0=0,f.length=f'.length,cO=cO,f'.length≤f.length]
theorem QZH(moved turned:Int)(k k':Nat):QL 8 (QNB f k) ((QO1 f k moved turned)) (qU f' moved turned k')=(some (QNP++(QNX f f' k k')++[QC 2 f'.length (fun i=>bif decide (i=k)then Jk QCR 0 (bif
  decide (k=k)then Jk [vj 0] 1 (QA.enc (f.getD k ⟨0,0⟩))else QA.enc (f.getD k ⟨0,0⟩))else bif decide (i=k)then Jk [vj 0] 1 (QA.enc (f.getD
  k ⟨0,0⟩))else QA.enc (f.getD i ⟨0,0⟩)) fun i=>QA.enc (f'.getD i ⟨0,0⟩),moved=moved,turned=turned])):=by kernel_rfl
theorem QYn(moved turned:Int)(k k':Nat):QL 8 [AV.ptr (104:Nat) (0:Nat) (0:Nat),AV.ptr (112:Nat) (0:Nat) (0:Nat),AV.ptr (120:Nat) (0:Nat) (0:Nat),AV.int false i64 (↑f.length:Int),AV.int false i64 (i64.wrap ((↑k:Int)+(1:Int)))] ([((104:Nat),Blk.cells (0:Nat) (92:Nat) [AV.int false i64 turned]),((112:Nat),Blk.cells (0:Nat) (92:Nat) [AV.int false i64 moved]),((120:Nat),Blk.cells (0:Nat) (38:Nat) [AV.slz (464:Nat) (0:Nat) f.length (Cap.of (0:Nat))]),((464:Nat),Blk.rowz true (56:Nat) [CK.int i64,CK.int i64] f.length fun i=>bif decide (i=k)then Jk [AV.int true i64 (0:Int)] (1:Nat) (QA.enc (f.getD k (QB.mk (0:Int) (0:Int))))else QA.enc (f.getD i (QB.mk (0:Int) (0:Int))))]) (qU f' moved turned k')=(
  some [(0:Nat)=(0:Nat),(0:Nat)=(0:Nat),(0:Nat)=(0:Nat),(0:Nat)=(0:Nat),(0:Nat)=(0:Nat),(0:Nat)=(0:Nat),(↑f.length:Int)=(↑f'.length :
  Int),i64.wrap ((↑k:Int)+(1:Int))=(↑k':Int),(0:Nat)=(0:Nat),f.length=f'.length,Cap.of (0:Nat)=Cap.of (0:Nat),f'.length≤f.length,QC (2 :
  Nat) f'.length (fun i=>bif decide (i=k)then Jk [AV.int true i64 (0:Int)] (1:Nat) (QA.enc (f.getD k (QB.mk (0:Int) (0:Int))))else QA.enc (f.getD i
  (QB.mk (0:Int) (0:Int)))) fun i=>QA.enc (f'.getD i (QB.mk (0:Int) (0:Int))),moved=moved,turned=turned]):=by kernel_rfl
theorem QTw(moved turned:Int)(k k':Nat):QL 8 (QNB f k) ((QKv f k moved turned)) (qU f' moved turned k')=(some (QNP++(QNX f f' k k')++[QC 2 f'.length (fun i=>bif decide (i=k)then Jk QCR 0
  (QA.enc (f.getD k ⟨0,0⟩))else QA.enc (f.getD i ⟨0,0⟩)) fun i=>QA.enc (f'.getD i ⟨0,0⟩),moved=moved,turned=turned])):=by kernel_rfl
theorem QXJ(moved turned:Int)(k k':Nat):QL 8 [AV.ptr (104:Nat) (0:Nat) (0:Nat),AV.ptr (112:Nat) (0:Nat) (0:Nat),AV.ptr (120:Nat) (0:Nat) (0:Nat),AV.int false i64 (↑f.length:Int),AV.int false i64 (i64.wrap ((↑k:Int)+(1:Int)))] ([((104:Nat),Blk.cells (0:Nat) (92:Nat) [AV.int false i64 turned]),((112:Nat),Blk.cells (0:Nat) (92:Nat) [AV.int false i64 moved]),((120:Nat),Blk.cells (0:Nat) (38:Nat) [AV.slz (464:Nat) (0:Nat) f.length (Cap.of (0:Nat))]),((464:Nat),Blk.rowz true (56:Nat) [CK.int i64,CK.int i64] f.length fun i=>QA.enc (f.getD i (QB.mk (0:Int) (0:Int))))]) (qU f' moved turned k')=(
  some [(0:Nat)=(0:Nat),(0:Nat)=(0:Nat),(0:Nat)=(0:Nat),(0:Nat)=(0:Nat),(0:Nat)=(0:Nat),(0:Nat)=(0:Nat),(↑f.length:Int)=(↑f'.length :
  Int),i64.wrap ((↑k:Int)+(1:Int))=(↑k':Int),(0:Nat)=(0:Nat),f.length=f'.length,Cap.of (0:Nat)=Cap.of (0:Nat),f'.length≤f.length,QC (2 :
  Nat) f'.length (fun i=>QA.enc (f.getD i (QB.mk (0:Int) (0:Int)))) fun i=>QA.enc (f'.getD i (QB.mk (0:Int) (0:Int))),moved=moved,turned=turned]):=by kernel_rfl
theorem QX2:QL 8 [AV.ptr (120:Nat) (0:Nat) (0:Nat)] ([((120:Nat),Blk.cells (0:Nat) (38:Nat) [AV.slz (464:Nat) (0:Nat) f.length (Cap.of (0:Nat))]),((464:Nat),Blk.rowz true (56:Nat) [CK.int i64,CK.int i64] f.length fun i=>QA.enc (f.getD i (QB.mk (0:Int) (0:Int))))]) (QEM f')=(
  some [(0:Nat)=(0:Nat),(0:Nat)=(0:Nat),(0:Nat)=(0:Nat),f.length=f'.length,Cap.of (0:Nat)=Cap.of (0:Nat),f'.length≤f.length,QC (2:Nat)
  f'.length (fun i=>QA.enc (f.getD i (QB.mk (0:Int) (0:Int)))) fun i=>QA.enc (f'.getD i (QB.mk (0:Int) (0:Int)))]):=by kernel_rfl
theorem QXw(f:List QB)(e':Int):QL 8 [(AV.tup [AV.nils,AV.int false i64 e])] ([]) (Kg 8 (je f e') [KW 56 0 f ⟨0,0⟩])=(
  some [f.length=(0:Nat),e=e',f.length=(0:Nat)]):=by kernel_rfl
theorem QYv:QL 8 [(AV.tup [AV.nils,AV.int true i64 (6:Int)])] ([]) (Kg 8 (je f e') [KW 56 0 f ⟨0,0⟩])=(
  some [f.length=(0:Nat),(6:Int)=e',f.length=(0:Nat)]):=by kernel_rfl
theorem QRx:QL 8 [(AV.tup [AV.nils,AV.int true i64 (0:Int)])] ([]) (Kg 8 (je f e') [KW 56 0 f ⟨0,0⟩])=(
  some [f.length=(0:Nat),(0:Int)=e',f.length=(0:Nat)]):=by kernel_rfl
theorem QUx:QL 8 [(AV.tup [AV.nils,AV.int true i64 (6:Int)])] ([]) (Kg 8 (je f e') [KW 56 0 f ⟨0,0⟩])=(
  some [f.length=(0:Nat),(6:Int)=e',f.length=(0:Nat)]):=by kernel_rfl
theorem QZz(f2:List QB)(f:List QB)(e':Int):QL 8 [(AV.tup [AV.slz (464:Nat) (0:Nat) f2.length (Cap.of (0:Nat)),AV.int true i64 (0:Int)])] ([((464:Nat),Blk.rowz true (56:Nat) [CK.int i64,CK.int i64] f2.length fun i=>QA.enc (f2.getD i (QB.mk (0:Int) (0:Int))))]) (Kg 8 (je f e') [KW 56 0 f ⟨0,0⟩])=(
  some [(0:Nat)=(0:Nat),f2.length=f.length,Cap.of (0:Nat)=Cap.of (0:Nat),(0:Int)=e',f.length≤f2.length,QC (2:Nat) f.length (fun i=>QA.enc (f2.getD i
  (QB.mk (0:Int) (0:Int)))) fun i=>QA.enc (f.getD i (QB.mk (0:Int) (0:Int)))]):=by kernel_rfl
def bitV(s:Int)(k:Nat):Bool:=i64.wrap (((BitVec.ofInt 64 (s.fdiv (2^min k 64)) &&& BitVec.ofInt 64 1).toNat:Nat):Int)==1
def X2(m t:Int)(k:Nat)(c:QB):QB:=match bitV m k with
 | true=>⟨-1,0⟩
 | false=>match bitV t k with
  | true=>⟨c.cell,0⟩
  | false=>c
def Ki(f:List QB)(m t:Int):Nat→List QB
 | 0=>f
 | k+1=>(Ki f m t k).set k (X2 m t k ((Ki f m t k).getD k ⟨0,0⟩))
theorem Wq(f:List QB)(m t:Int):∀ k,(Ki f m t k).length=f.length
 | 0=>rfl
 | k+1=>by rw[Ki,List.length_set];exact Wq f m t k
theorem QAW{L:List QB}{k:Nat}(h:k<L.length){c:QB}(G:Nat→Nat→Int)(h1:∀ i,i≠k→eqF 2 0 (G i) (QA.enc (L.getD i ⟨0,0⟩)))(h2:eqF 2 0 (G k) (QA.enc c)):QC 2 (L.set k c).length G (fun i=>QA.enc ((L.set k c).getD i ⟨0,0⟩)):=by
 intro i hi;show eqF 2 0 (G i) (QA.enc ((L.set k c).getD i ⟨0,0⟩))
 by_cases e:i=k
 ·subst e;rw[List.getD_eq_getElem?_getD,List.getElem?_set_self h];exact h2
 ·rw[List.getD_eq_getElem?_getD,List.getElem?_set_ne (fun q=>e q.symm),←List.getD_eq_getElem?_getD];exact h1 i e
theorem QPl(hf:f.length≤1000):JJ (fun k=>qU (Ki f moved turned k) moved turned k) (fun k=>k≤f.length) (fun k=>f.length-k) (fun _ e J=>e = .exit 0∧J=QEM (Ki f moved turned f.length)) 8 QNo [] (mkE Try.prog Qu) (fun _=>hnd (mkE Try.prog Qu) 3) (QX Try.f33 0):=by
 refine⟨fun k g hk=>Q2 (QPU (Ki f moved turned k) moved turned k g) ?_⟩;have hl:=Wq f moved turned k;have hl2:=Wq f moved turned (k+1);refine QG (fun h => ?_) (fun h => ?_)
 ·have h:k<f.length:=by have:=qdt h;rw[hl]at this;omega
  have hw:=Kn h hf;refine QF (by simp) (QG (fun ht=>QF (by rw[hl];simp;omega) (QF (by rw[hl];simp;omega) (QF (by simp) (QG (fun hm=>QF (by rw[hl];simp;omega) (QF (by rw[hl];simp;omega) ?_)) (fun hm => ?_))))) (fun ht=>QF (by simp) (QG (fun hm=>QF (by rw[hl];simp;omega) (QF (by rw[hl];simp;omega) ?_)) (fun hm => ?_))))
  ·refine⟨k+1,h,by show f.length-(k+1)<f.length-k;omega,fun _ _ h=>h,rfl,rfl,_,QZH (Ki f moved turned k) (Ki f moved turned (k+1)) moved turned k (k+1),?_⟩
   have e1:X2 moved turned k ((Ki f moved turned k).getD k ⟨0,0⟩)=⟨-1,0⟩:=by simp only[X2,bitV,ht,hm]
   repeat' first|with_reducible refine QQ ?_ ?_|exact trivial|with_reducible rfl|exact qlr _|exact qRr|exact QY _ _ _ _|exact hw|exact hl.trans hl2.symm|exact hl2.trans hl.symm|exact congrArg (fun n:Nat=>(n:Int)) (hl.trans hl2.symm)|exact hl2.symm|exact Nat.le_of_eq (hl2.trans hl.symm)|exact QAW (by rw[hl];exact h) _ (fun i hi=>by simp only[decide_eq_false hi,cond_false];exact ZP _ _ _) (by rw[e1];simp only[decide_true,cond_true];exact⟨rfl,rfl,trivial⟩)|refine And.intro ?_ ?_
  ·refine⟨k+1,h,by show f.length-(k+1)<f.length-k;omega,fun _ _ h=>h,rfl,rfl,_,QYn (Ki f moved turned k) (Ki f moved turned (k+1)) moved turned k (k+1),?_⟩
   have e1:X2 moved turned k ((Ki f moved turned k).getD k ⟨0,0⟩)=⟨((Ki f moved turned k).getD k ⟨0,0⟩).cell,0⟩:=by simp only[X2,bitV,ht,hm]
   repeat' first|with_reducible refine QQ ?_ ?_|exact trivial|with_reducible rfl|exact qlr _|exact qRr|exact QY _ _ _ _|exact hw|exact hl.trans hl2.symm|exact hl2.trans hl.symm|exact congrArg (fun n:Nat=>(n:Int)) (hl.trans hl2.symm)|exact hl2.symm|exact Nat.le_of_eq (hl2.trans hl.symm)|exact QAW (by rw[hl];exact h) _ (fun i hi=>by simp only[decide_eq_false hi,cond_false];exact ZP _ _ _) (by rw[e1];simp only[decide_true,cond_true];exact⟨rfl,rfl,trivial⟩)|refine And.intro ?_ ?_
  ·refine⟨k+1,h,by show f.length-(k+1)<f.length-k;omega,fun _ _ h=>h,rfl,rfl,_,QTw (Ki f moved turned k) (Ki f moved turned (k+1)) moved turned k (k+1),?_⟩
   have e1:X2 moved turned k ((Ki f moved turned k).getD k ⟨0,0⟩)=⟨-1,0⟩:=by simp only[X2,bitV,ht,hm]
   repeat' first|with_reducible refine QQ ?_ ?_|exact trivial|with_reducible rfl|exact qlr _|exact qRr|exact QY _ _ _ _|exact hw|exact hl.trans hl2.symm|exact hl2.trans hl.symm|exact congrArg (fun n:Nat=>(n:Int)) (hl.trans hl2.symm)|exact hl2.symm|exact Nat.le_of_eq (hl2.trans hl.symm)|exact QAW (by rw[hl];exact h) _ (fun i hi=>by simp only[decide_eq_false hi,cond_false];exact ZP _ _ _) (by rw[e1];simp only[decide_true,cond_true];exact⟨rfl,rfl,trivial⟩)|refine And.intro ?_ ?_
  ·refine⟨k+1,h,by show f.length-(k+1)<f.length-k;omega,fun _ _ h=>h,rfl,rfl,_,QXJ (Ki f moved turned k) (Ki f moved turned (k+1)) moved turned k (k+1),?_⟩
   have e1:X2 moved turned k ((Ki f moved turned k).getD k ⟨0,0⟩)=(Ki f moved turned k).getD k ⟨0,0⟩:=by simp only[X2,bitV,ht,hm]
   repeat' first|with_reducible refine QQ ?_ ?_|exact trivial|with_reducible rfl|exact qlr _|exact qRr|exact QY _ _ _ _|exact hw|exact hl.trans hl2.symm|exact hl2.trans hl.symm|exact congrArg (fun n:Nat=>(n:Int)) (hl.trans hl2.symm)|exact hl2.symm|exact Nat.le_of_eq (hl2.trans hl.symm)|exact QAW (by rw[hl];exact h) _ (fun i hi=>ZP _ _ _) (by rw[e1];exact ZP _ _ _)|refine And.intro ?_ ?_
 ·have:k=f.length:=by have:=of_decide_eq_false h;rw[hl]at this;omega
  subst this;refine⟨_,⟨rfl,rfl⟩,rfl,rfl,_,QX2 (Ki f moved turned f.length) (Ki f moved turned f.length),?_⟩
  repeat' first|with_reducible refine QQ ?_ ?_|exact trivial|with_reducible rfl|exact qlr _|exact qRr|exact QY _ _ _ _|refine And.intro ?_ ?_
theorem QQ8{T:Tab}(hT:QZ T)(f:List QB)(moved turned:Int)(hf:f.length≤1000)(G:Ctx)(hrd:G.rd=none)(hG:G.n=8):KC (mkE Try.prog T) G (QEt Try.prog T f (Ki f moved turned f.length) moved turned) (Qs Try.f33):=by
 refine Jj (body:=QX Try.f33 0) (QT hT) hrd (by kernel_rfl) ?_
 refine ZG (E:=mkE Try.prog Qu) rfl (JW (n0:=8) (QT KB) (by omega) (fun s hs=>Qy (QT KB) 3 G _ hrd) (fun s hs=>(by decide:8≤472)) ?_ (QPl f moved turned hf) (s0:=0) (Nat.zero_le _) ?_)
 ·rintro s e J ⟨_,rfl⟩;exact(by decide:8≤472)
 ·rintro e J ⟨rfl,rfl⟩;exact⟨_,List.mem_cons_self,trivial,rfl,rfl⟩
def tdS:Res TdS:=onT x (Qr x x.scans.n) tdY x.scans.n [] (0,0,[],0,0) noH
def Kd:List QB×Int:=match x.ok with
 | false=>([],1)
 | true=>match JU x with
  | true=>([],11)
  | false=>match tdS x with
   | .stop s _ | .go s _=>match decide (s.1>0)with
    | false=>([],6)
    | true=>(Ki s.2.2.1 s.2.2.2.1 s.2.2.2.2 s.2.2.1.length,0)
def XP:WF (QE×Unit):=fun|(x,_)=>(decide (x.d.ps.n≤1000∧x.scans.n≤1000∧x.hang.n≤1000),je (Kd x).1 (Kd x).2,[KW 56 0 (Kd x).1 ⟨0,0⟩])
def QID:FC:=wFC XP
theorem QGL:WOk (XP (x,())).2.1 (XP (x,())).2.2:=⟨rfl,by simp[XP,KW,Blk.own,Blk.all],rfl⟩
theorem QJY(ht:QP Try.prog 49 (uFC (opE x e)))(he:e≠0)(hv:Kd x=([],e)):QP Try.prog 33 (wFC (J1 XP (x,()))):=by
 have hT:QZ (K3 Qf (opE x e)):=KB.add ht;refine Ya (c:=Qs Try.f33) (E:=mkE Try.prog (K3 Qf (opE x e))) (H:=hnd (mkE Try.prog (K3 Qf (opE x e))) 1) (QT hT) Try.func33 (by kernel_rfl) (by kernel_rfl) (N:=8) (by decide) (x,()) (fun G h1 _=>Qy (QT hT) 1 G _ h1) (QGL x) ?_
 refine Q2 (QR0 Qf x e) ?_;refine QF (Ke.2 ?_) (QG (fun _ => ?_) (fun h=>by simp at h;exact absurd h he))
 ·repeat' first|with_reducible refine QQ ?_ ?_|exact trivial|with_reducible rfl|exact qlr _|exact qRr|exact QY _ _ _ _|refine And.intro ?_ ?_
 ·simp only[XP,hv];refine⟨rfl,rfl,_,QXw e [] e,?_⟩
  repeat' first|with_reducible refine QQ ?_ ?_|exact trivial|with_reducible rfl|exact qlr _|exact qRr|exact QY _ _ _ _|exact rfl|refine And.intro ?_ ?_
theorem QPf{x:QE}:∀(d:Nat) (l:List QB) (s:TdS) (h:Int→Bool) {s':TdS} {h':Int→Bool},l.length+d=x.scans.n→(s.2.2.1.length=0∨s.2.2.1.length=x.scans.n)→onT x (Qr x x.scans.n) tdY d l s h = .go s' h'→s'.2.2.1.length=0∨s'.2.2.1.length=x.scans.n:=fun d l s h {s' h'} hn hg he=>QCE (G:=fun s:TdS=>s.2.2.1.length=0∨s.2.2.1.length=x.scans.n) (fun s l hg hl=>by
  show(KE s.2.1 l s.2.2.1).length=0∨(KE s.2.1 l s.2.2.1).length=x.scans.n;unfold KE;split
  ·exact .inr hl
  ·exact hg) d l s h hn hg he
theorem QUH(hs:YH x)(hx:x.ok=true)(hr:JU x=false)(hpos:0<x.scans.n):QP Try.prog 33 (wFC (J1 XP (x,()))):=by
 have hg:=JM hx;have hss:=hs.s;have hC:=QGH (x:=x) hg.d.n9;have hon:=QJg hg hC hpos x.scans.n [] (0,0,[],0,0) noH (by simp) (fun c hc=>by cases hc) (fun q=>by cases q)
 obtain⟨s,h,he⟩:=W9 (C:=Qr x x.scans.n) (x:=x) (Y:=tdY) (fun _ _=>rfl) x.scans.n [] (0,0,[],0,0) noH;rw[he]at hon
 have hlen:s.2.2.1.length≤1000:=by
  rcases QPf (x:=x) x.scans.n [] (0,0,[],0,0) noH (by simp) (.inl rfl) he with q|q<;>omega
 have hT:QZ (HS Qf x (Qr x x.scans.n) (tdU x (Qr x x.scans.n) YF YO [] noH 0 0 [] 0 0 h s.1 s.2.1 s.2.2.1 s.2.2.2.1 s.2.2.2.2)):=(KB.add (vn x hs hx hr)).add hon
 have hv:Kd x=match decide (s.1>0)with
   | false=>([],6)
   | true=>(Ki s.2.2.1 s.2.2.2.1 s.2.2.2.2 s.2.2.1.length,0):=by
  simp only[Kd,hx,hr,tdS,he]
 refine Ya (c:=Qs Try.f33) (E:=mkE Try.prog (HS Qf x (Qr x x.scans.n) (tdU x (Qr x x.scans.n) YF YO [] noH 0 0 [] 0 0 h s.1 s.2.1 s.2.2.1 s.2.2.2.1 s.2.2.2.2))) (H:=QEt Try.prog (HS Qf x (Qr x x.scans.n) (tdU x (Qr x x.scans.n) YF YO [] noH 0 0 [] 0 0 h s.1 s.2.1 s.2.2.1 s.2.2.2.1 s.2.2.2.2)) s.2.2.1 (Ki s.2.2.1 s.2.2.2.1 s.2.2.2.2 s.2.2.1.length) s.2.2.2.1 s.2.2.2.2) (QT hT) Try.func33 (by kernel_rfl) (by kernel_rfl) (N:=8) (by decide) (x,()) (fun G h1 h2=>QQ8 hT _ _ _ hlen G h1 h2) (QGL x) ?_
 refine Q2 (QW1 Qf x (Qr x x.scans.n) h s.1 s.2.1 s.2.2.1 s.2.2.2.1 s.2.2.2.2 (Ki s.2.2.1 s.2.2.2.1 s.2.2.2.2 s.2.2.1.length)) ?_;refine QF (Ke.2 ?_) (QF (Ke.2 ?_) (QG (fun q => ?_) (fun q => ?_)))
 ·repeat' first|with_reducible refine QQ ?_ ?_|exact trivial|with_reducible rfl|exact qlr _|exact qRr|exact QY _ _ _ _|refine And.intro ?_ ?_
 ·repeat' first|with_reducible refine QQ ?_ ?_|exact trivial|with_reducible rfl|exact qlr _|exact qRr|exact QY _ _ _ _|exact QCF _|exact rfl|refine And.intro ?_ ?_
 ·have q:decide (s.1>0)=false:=by simpa using q
  simp only[XP,hv,q];refine⟨rfl,rfl,_,QUx [] 6,?_⟩
  repeat' first|with_reducible refine QQ ?_ ?_|exact trivial|with_reducible rfl|exact qlr _|exact qRr|exact QY _ _ _ _|exact rfl|refine And.intro ?_ ?_
 ·have q:decide (s.1>0)=true:=by simpa using q
  repeat' first|refine Qa (p:=_=_) rfl ?_|refine Qa (p:=_≤_) (qlr _) ?_|refine Qa (p:=QC _ _ _ _) (qRr) ?_
  refine KJ fun _=>KF fun g => ?_;simp only[XP,hv,q];refine⟨rfl,rfl,_,QZz _ _ 0,?_⟩
  repeat' first|with_reducible refine QQ ?_ ?_|exact trivial|with_reducible rfl|exact qlr _|exact qRr|exact QY _ _ _ _|exact rfl|refine And.intro ?_ ?_
theorem QZs(d:Puz)(sc:Nat→QS)(hang:Rw Jn)(lo fo:Int)(hs:YH ⟨d,⟨0,sc⟩,hang,lo,fo⟩)(hx:(QE.mk d ⟨0,sc⟩ hang lo fo).ok=true)(hr:JU ⟨d,⟨0,sc⟩,hang,lo,fo⟩=false):QP Try.prog 33 (wFC (J1 XP (⟨d,⟨0,sc⟩,hang,lo,fo⟩,()))):=by
 have hd:=hs.d;have hd:d.ps.n≤1000:=hd;have hT:QZ (K3 Qf (opO ⟨d,⟨0,sc⟩,hang,lo,fo⟩ [])):=KB.add (vn ⟨d,⟨0,sc⟩,hang,lo,fo⟩ hs hx hr);have hw:i64.wrap ((d.ps.n:Int)-0)=d.ps.n:=(w64 (by omega) (by omega)).trans (by omega)
 have hv:Kd ⟨d,⟨0,sc⟩,hang,lo,fo⟩=match decide ((d.ps.n:Int)>lo)with
   | true=>([],6)
   | false=>([],0):=by
  simp only[Kd,hx,hr,tdS,onT,VF,YW];simp only[show(d.ps.n:Int)-((([]:List QB).length:Int)-QH [] (-2))=d.ps.n by simp[QH]]
  cases decide ((d.ps.n:Int)>lo)<;>rfl
 refine Ya (c:=Qs Try.f33) (E:=mkE Try.prog (K3 Qf (opO ⟨d,⟨0,sc⟩,hang,lo,fo⟩ []))) (H:=hnd (mkE Try.prog (K3 Qf (opO ⟨d,⟨0,sc⟩,hang,lo,fo⟩ []))) 8) (QT hT) Try.func33 (by kernel_rfl) (by kernel_rfl) (N:=8) (by decide) (⟨d,⟨0,sc⟩,hang,lo,fo⟩,()) (fun G h1 _=>Qy (QT hT) 8 G _ h1) (QGL _) ?_
 refine Q2 (QTo Qf d sc hang lo fo) ?_;refine QF (Ke.2 ?_) (QG (fun _=>QG (fun q => ?_) (fun q => ?_)) (fun q=>by cases q))
 ·repeat' first|with_reducible refine QQ ?_ ?_|exact trivial|with_reducible rfl|exact qlr _|exact qRr|exact QY _ _ _ _|refine And.intro ?_ ?_
 ·rw[hw]at q;simp only[XP,hv,q];refine⟨rfl,rfl,_,QYv [] 6,?_⟩
  repeat' first|with_reducible refine QQ ?_ ?_|exact trivial|with_reducible rfl|exact qlr _|exact qRr|exact QY _ _ _ _|exact rfl|refine And.intro ?_ ?_
 ·rw[hw]at q;simp only[XP,hv,q];refine⟨rfl,rfl,_,QRx [] 0,?_⟩
  repeat' first|with_reducible refine QQ ?_ ?_|exact trivial|with_reducible rfl|exact qlr _|exact qRr|exact QY _ _ _ _|exact rfl|refine And.intro ?_ ?_
theorem QXu(hx:(XP (x,())).1=true):QP Try.prog 33 (wFC (J1 XP (x,()))):=by
 obtain⟨h1,h2,h3⟩:=qdt hx;have hs:YH x:=⟨h1,h2,h3⟩;cases ho:x.ok with
 | false=>exact QJY x 1 (QC9 x hs ho) (by decide) (by simp only[Kd,ho])
 | true=>cases hr:JU x with
  | true=>exact QJY x 11 (QFm x hs ho hr) (by decide) (by simp only[Kd,ho,hr])
  | false=>
   by_cases hp:0<x.scans.n
   ·exact QUH x hs ho hr hp
   ·obtain⟨d,⟨n,sc⟩,hang,lo,fo⟩:=x;obtain rfl:n=0:=by simp only at hp;omega
    exact QZs d sc hang lo fo hs ho hr
theorem QaB:QP Try.prog 33 QID:=Gl (by kernel_rfl) fun|(x,()),hx=>QXu x hx
end Go.Proofs.Ytbpffdkemeoajaa
