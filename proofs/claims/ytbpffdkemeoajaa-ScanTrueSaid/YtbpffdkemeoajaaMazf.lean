/- - -/
import Derived.Test.YtbpffdkemeoajaaMaze
open Go.IntKind (i64)
set_option maxRecDepth 100000
namespace Go.Proofs.Ytbpffdkemeoajaa
open Go.SX
variable (pb:List Prop→Bool)(f:List QB)(x:QE)(g:List QB)(e moved turned m:Int)(f':List QB)(k:Nat)(e':Int)(C:List (List QB))
def Y6(U:UC):Tab:=Qe (Ko pb (opO x C)) 77 (Jj pb U)
def WD(m e:Int):AV := .tup [.slz 0 0 f.length (.of 0),.slz 1 0 g.length (.of 0),.int false .i64 m,.int false .i64 e]
def Zk:List (Nat×Blk):=[Ke 56 0 f ⟨0,0⟩,Ke 56 1 g ⟨0,0⟩]
theorem Qad:Kc (mkE Try.prog (Ko pb (opE x e))) (hnd (mkE Try.prog (Ko pb (opE x e))) 1) Try.f25 (QX.vals 0 ((x,()):QE×Unit)) (QX.blks 0 ((x,()):QE×Unit)) 8 =
  QD.need (pb ([x.d.play.length = x.d.play.length, x.d.play.slack = x.d.play.slack, x.d.play.loose = x.d.play.loose, x.d.play.damp.lo = x.d.play.damp.lo, x.d.play.damp.hi = x.d.play.damp.hi, x.d.wide = x.d.wide, x.d.high = x.d.high, x.d.turn = x.d.turn, (0 : Nat) = (0 : Nat), x.d.ps.n = x.d.ps.n, Cap.of (0 : Nat) = Cap.of (0 : Nat), (0 : Nat) = (0 : Nat), x.scans.n = x.scans.n, Cap.of (0 : Nat) = Cap.of (0 : Nat), (0 : Nat) = (0 : Nat), x.hang.n = x.hang.n, Cap.of (0 : Nat) = Cap.of (0 : Nat), x.lost = x.lost, x.foreign = x.foreign, x.d.ps.n ≤ x.d.ps.n, QC (28 : Nat) x.d.ps.n (fun i => QA.enc (x.d.ps.get i)) fun i => QA.enc (x.d.ps.get i), x.scans.n ≤ x.scans.n, QC (28 : Nat) x.scans.n (fun i => QA.enc (x.scans.get i)) fun i => QA.enc (x.scans.get i), x.hang.n ≤ x.hang.n, QC (4 : Nat) x.hang.n (fun i => QA.enc (x.hang.get i)) fun i => QA.enc (x.hang.get i)])) (QD.br (e != (0 : Int)) (QD.leaf (AV.tup [AV.nils, AV.nils, AV.int true i64 (0 : Int), AV.int false i64 e]) ([])) (QD.fail ("a call without a contract"))) := by kernel_rfl
theorem QWs(d:Puz)(s:Nat→QG)(hang:Rw Jn)(lo fo:Int):Kc (mkE Try.prog (Ko pb (opO ⟨d,⟨0,s⟩,hang,lo,fo⟩ []))) (hnd (mkE Try.prog (Ko pb (opO ⟨d,⟨0,s⟩,hang,lo,fo⟩ []))) 8) Try.f25 (QX.vals 0 ((⟨d,⟨0,s⟩,hang,lo,fo⟩,()):QE×Unit)) (QX.blks 0 ((⟨d,⟨0,s⟩,hang,lo,fo⟩,()):QE×Unit)) 8 =
  QD.need (pb ([d.play.length = d.play.length, d.play.slack = d.play.slack, d.play.loose = d.play.loose, d.play.damp.lo = d.play.damp.lo, d.play.damp.hi = d.play.damp.hi, d.wide = d.wide, d.high = d.high, d.turn = d.turn, (0 : Nat) = (0 : Nat), d.ps.n = d.ps.n, Cap.of (0 : Nat) = Cap.of (0 : Nat), (0 : Nat) = (0 : Nat), (0 : Nat) = (0 : Nat), Cap.of (0 : Nat) = Cap.of (0 : Nat), (0 : Nat) = (0 : Nat), hang.n = hang.n, Cap.of (0 : Nat) = Cap.of (0 : Nat), lo = lo, fo = fo, d.ps.n ≤ d.ps.n, QC (28 : Nat) d.ps.n (fun i => QA.enc (d.ps.get i)) fun i => QA.enc (d.ps.get i), (0 : Nat) ≤ (0 : Nat), QC (28 : Nat) (0 : Nat) (fun i => QA.enc ((Rw.mk (0 : Nat) s).get i)) fun i => QA.enc ((Rw.mk (0 : Nat) s).get i), hang.n ≤ hang.n, QC (4 : Nat) hang.n (fun i => QA.enc (hang.get i)) fun i => QA.enc (hang.get i)])) (QD.br (true) (QD.br (decide (i64.wrap ((↑d.ps.n : Int) - (0 : Int)) > lo)) (QD.leaf (AV.tup [AV.nils, AV.nils, AV.int true i64 (0 : Int), AV.int true i64 (6 : Int)]) ([])) (QD.leaf (AV.tup [AV.nils, AV.nils, AV.int true i64 (1 : Int), AV.int true i64 (0 : Int)]) ([]))) (QD.need (false) (QD.fail ("scan.go:188")))) := by kernel_rfl
abbrev QQV:List Prop:=
  [x.d.play.length=x.d.play.length,x.d.play.slack=x.d.play.slack,x.d.play.loose=x.d.play.loose,x.d.play.damp.lo=x.d.play.damp.lo,x.d.play.damp.hi=x.d.play.damp.hi,
  x.d.wide=x.d.wide,x.d.high=x.d.high,x.d.turn=x.d.turn,0=0,x.d.ps.n=x.d.ps.n,cO=cO,0=0,x.scans.n=x.scans.n,cO=cO,0=0,x.hang.n =
  x.hang.n,cO=cO,x.lost=x.lost,x.foreign=x.foreign,x.d.ps.n≤x.d.ps.n,QC 28 x.d.ps.n (fun i=>QA.enc (x.d.ps.get i)) fun i=>QA.enc (x.d.ps.get i),
  x.scans.n≤x.scans.n,QC 28 x.scans.n (fun i=>QA.enc (x.scans.get i)) fun i=>QA.enc (x.scans.get i),x.hang.n≤x.hang.n,QC 4 x.hang.n (fun i=>QA.enc
  (x.hang.get i)) fun i=>QA.enc (x.hang.get i)]
abbrev QOe(x:QE):List Prop:=
  [0=0,0=0,0=0,0=0,0=0,0=0,0=0,0=0,0=0,0=0,0=0,0=0,([]:List MapEntry)=[],qD (.int true .i64 0) noH fun i => .int false .i64 (QH [] i),
  LoopState.ready=LoopState.ready,(none:Option Code)=none,Array.mk [18]=Array.mk [18],(QM Try.f25 0).1=(QM Try.f25 0).1,(QM Try.f25 0).2=(QM Try.f25
  0).2,x.d.play.length=x.d.play.length,x.d.play.slack=x.d.play.slack,x.d.play.loose=x.d.play.loose,x.d.play.damp.lo=x.d.play.damp.lo,x.d.play.damp.hi=x.d.play.damp.hi,
  x.d.wide=x.d.wide,x.d.high=x.d.high,x.d.turn=x.d.turn,0=0,x.d.ps.n=x.d.ps.n,cO=cO,0=0,x.scans.n=x.scans.n,cO=cO,0=0,x.hang.n =
  x.hang.n,cO=cO,x.lost=x.lost,x.foreign=x.foreign,0=0,0=0,0=0,0=0,0=0,0=0,0=0,0=0,(0:Int)=0,0=0,0=0,0=0,0=0,(0:Int) =
  0,x.d.play.length=x.d.play.length,x.d.play.slack=x.d.play.slack,x.d.play.loose=x.d.play.loose,x.d.play.damp.lo=x.d.play.damp.lo,x.d.play.damp.hi=x.d.play.damp.hi,
  x.d.wide=x.d.wide,x.d.high=x.d.high,x.d.turn=x.d.turn,0=0,x.d.ps.n=x.d.ps.n,cO=cO,0=0,x.scans.n=x.scans.n,cO=cO,0=0,x.hang.n =
  x.hang.n,cO=cO,x.lost=x.lost,x.foreign=x.foreign,0=0,0=0,(0:Int)=0,0=0,0=0,(0:Int)=0,(0:Int)=0,false=false,0=0,0=0,Fn.func
  76=Fn.func 76,0=0,0=0,(0:Int)=0,0=0,0=0,0=0,0=0,Fn.func 77=Fn.func 77,0=0,0=0,0=0,0=0,0=0,0=0,0=0,0=0,0=0,0=0,0=0,0 =
  0,x.d.play.length=x.d.play.length,x.d.play.slack=x.d.play.slack,x.d.play.loose=x.d.play.loose,x.d.play.damp.lo=x.d.play.damp.lo,x.d.play.damp.hi=x.d.play.damp.hi,
  x.d.wide=x.d.wide,x.d.high=x.d.high,x.d.turn=x.d.turn,0=0,x.d.ps.n=x.d.ps.n,cO=cO,0=0,x.scans.n=x.scans.n,cO=cO,0=0,x.hang.n =
  x.hang.n,cO=cO,x.lost=x.lost,x.foreign=x.foreign,x.d.play.length=x.d.play.length,x.d.play.slack=x.d.play.slack,x.d.play.loose=x.d.play.loose,
  x.d.play.damp.lo=x.d.play.damp.lo,x.d.play.damp.hi=x.d.play.damp.hi,x.d.wide=x.d.wide,x.d.high=x.d.high,x.d.turn=x.d.turn,0=0,x.d.ps.n=x.d.ps.n,cO =
  cO,0=0,x.scans.n=x.scans.n,cO=cO,0=0,x.hang.n=x.hang.n,cO=cO,x.lost=x.lost,x.foreign=x.foreign,0=0,C.length=C.length,
  cO=cO,C.length=C.length,Kd 2 C.length (fun i=>(QJ C i).length) (fun i=>(QJ C i).length) (fun i j=>QA.enc ((QJ C i).getD j ⟨0,0⟩)) fun i j=>
  QA.enc ((QJ C i).getD j ⟨0,0⟩),x.d.ps.n≤x.d.ps.n,QC 28 x.d.ps.n (fun i=>QA.enc (x.d.ps.get i)) fun i=>QA.enc (x.d.ps.get i),x.scans.n≤x.scans.n,QC 28
  x.scans.n (fun i=>QA.enc (x.scans.get i)) fun i=>QA.enc (x.scans.get i),x.hang.n≤x.hang.n,QC 4 x.hang.n (fun i=>QA.enc (x.hang.get i)) fun i=>QA.enc
  (x.hang.get i)]
noncomputable abbrev QMs(g':List QB):List (Nat×Blk):=
  [(241,.rowz true 56 [.int .i64,.int .i64] f'.length fun i=>QA.enc (f'.getD i ⟨0,0⟩)),(242,.rowz true 56 [.int .i64,.int .i64] g'.length fun i=>QA.enc (g'.getD i ⟨0,
  0⟩))]
theorem QTP(has':Int→Bool)(many':Int)(f' g':List QB):Kc (mkE Try.prog (Y6 pb x C (trU x C (QM Try.f25 0).1 (QM Try.f25 0).2 [] noH 0 [] [] has' many' f' g'))) (hnd (mkE Try.prog (Y6 pb x C (trU x C (QM Try.f25
  0).1 (QM Try.f25 0).2 [] noH 0 [] [] has' many' f' g'))) 8) Try.f25 (QX.vals 0 ((x,()):QE×Unit)) (QX.blks 0 ((x,()):QE×Unit)) 8 = .need (pb ((QQV x)))
  (.need (pb ((QOe C x))) (.br (many'==0) (.leaf (.tup [.nils,.nils,vj 0,vj 6]) ([])) (.leaf (.tup [.slz 241 0 f'.length cO,.slz 242 0 g'.length
  cO,vi many',vj 0]) ((QMs f' g'))))):=by kernel_rfl
theorem QdP(has':Int→Bool)(many':Int)(f' g':List QB):Kc (mkE Try.prog (Y6 pb x C (trV x C (QM Try.f25 0).1 (QM Try.f25 0).2 [] noH 0 [] [] has' many' f' g'))) (hnd (mkE Try.prog (Y6 pb x C (trV x C (QM Try.f25
  0).1 (QM Try.f25 0).2 [] noH 0 [] [] has' many' f' g'))) 8) Try.f25 (QX.vals 0 ((x,()):QE×Unit)) (QX.blks 0 ((x,()):QE×Unit)) 8 = .need (pb ((QQV x)))
  (.need (pb ((QOe C x))) (.br (many'==0) (.leaf (.tup [.nils,.nils,vj 0,vj 6]) ([])) (.leaf (.tup [.slz 241 0 f'.length cO,.slz 242 0 g'.length
  cO,vi many',vj 0]) ((QMs f' g'))))):=by kernel_rfl
theorem QaZ(f g:List QB)(m e':Int):QK 8 [(AV.tup [AV.nils,AV.nils,AV.int true i64 (0:Int),AV.int false i64 e])] ([]) (Km 8 (WD f g m e') (Zk f g))=(
  some [f.length=(0:Nat),g.length=(0:Nat),(0:Int)=m,e=e',f.length=(0:Nat),g.length=(0:Nat)]):=by kernel_rfl
theorem QR3:QK 8 [(AV.tup [AV.nils,AV.nils,AV.int true i64 (0:Int),AV.int true i64 (6:Int)])] ([]) (Km 8 (WD f g m e') (Zk f g))=(
  some [f.length=(0:Nat),g.length=(0:Nat),(0:Int)=m,(6:Int)=e',f.length=(0:Nat),g.length=(0:Nat)]):=by kernel_rfl
theorem QSz:QK 8 [(AV.tup [AV.nils,AV.nils,AV.int true i64 (1:Int),AV.int true i64 (0:Int)])] ([]) (Km 8 (WD f g m e') (Zk f g))=(
  some [f.length=(0:Nat),g.length=(0:Nat),(1:Int)=m,(0:Int)=e',f.length=(0:Nat),g.length=(0:Nat)]):=by kernel_rfl
theorem QcR:QK 8 [(AV.tup [AV.nils,AV.nils,AV.int true i64 (0:Int),AV.int true i64 (6:Int)])] ([]) (Km 8 (WD f g m e') (Zk f g))=(
  some [f.length=(0:Nat),g.length=(0:Nat),(0:Int)=m,(6:Int)=e',f.length=(0:Nat),g.length=(0:Nat)]):=by kernel_rfl
theorem QWN(many':Int)(f' g':List QB)(f g:List QB)(m e':Int):QK 8 [(AV.tup [AV.slz (241:Nat) (0:Nat) f'.length (Cap.of (0:Nat)),AV.slz (242:Nat) (0:Nat) g'.length (Cap.of (0:Nat)),AV.int false i64 many',AV.int true i64 (0:Int)])] ([((241:Nat),Blk.rowz true (56:Nat) [CK.int i64,CK.int i64] f'.length fun i=>QA.enc (f'.getD i (QB.mk (0:Int) (0:Int)))),((242:Nat),Blk.rowz true (56:Nat) [CK.int i64,CK.int i64] g'.length fun i=>QA.enc (g'.getD i (QB.mk (0:Int) (0:Int))))]) (Km 8 (WD f g m e') (Zk f g))=(
  some [(0:Nat)=(0:Nat),f'.length=f.length,Cap.of (0:Nat)=Cap.of (0:Nat),(0:Nat)=(0:Nat),g'.length=g.length,Cap.of (0:Nat)=Cap.of (0:Nat),many'=m,
  (0:Int)=e',f.length≤f'.length,QC (2:Nat) f.length (fun i=>QA.enc (f'.getD i (QB.mk (0:Int) (0:Int)))) fun i=>QA.enc (f.getD i (QB.mk (0:Int) (0 :
  Int))),g.length≤g'.length,QC (2:Nat) g.length (fun i=>QA.enc (g'.getD i (QB.mk (0:Int) (0:Int)))) fun i=>QA.enc (g.getD i (QB.mk (0:Int) (0:Int)))]):=by kernel_rfl
theorem QaD:QK 8 [(AV.tup [AV.nils,AV.nils,AV.int true i64 (0:Int),AV.int true i64 (6:Int)])] ([]) (Km 8 (WD f g m e') (Zk f g))=(
  some [f.length=(0:Nat),g.length=(0:Nat),(0:Int)=m,(6:Int)=e',f.length=(0:Nat),g.length=(0:Nat)]):=by kernel_rfl
theorem QZ7(many':Int)(f' g':List QB)(f g:List QB)(m e':Int):QK 8 [(AV.tup [AV.slz (241:Nat) (0:Nat) f'.length (Cap.of (0:Nat)),AV.slz (242:Nat) (0:Nat) g'.length (Cap.of (0:Nat)),AV.int false i64 many',AV.int true i64 (0:Int)])] ([((241:Nat),Blk.rowz true (56:Nat) [CK.int i64,CK.int i64] f'.length fun i=>QA.enc (f'.getD i (QB.mk (0:Int) (0:Int)))),((242:Nat),Blk.rowz true (56:Nat) [CK.int i64,CK.int i64] g'.length fun i=>QA.enc (g'.getD i (QB.mk (0:Int) (0:Int))))]) (Km 8 (WD f g m e') (Zk f g))=(
  some [(0:Nat)=(0:Nat),f'.length=f.length,Cap.of (0:Nat)=Cap.of (0:Nat),(0:Nat)=(0:Nat),g'.length=g.length,Cap.of (0:Nat)=Cap.of (0:Nat),many'=m,
  (0:Int)=e',f.length≤f'.length,QC (2:Nat) f.length (fun i=>QA.enc (f'.getD i (QB.mk (0:Int) (0:Int)))) fun i=>QA.enc (f.getD i (QB.mk (0:Int) (0 :
  Int))),g.length≤g'.length,QC (2:Nat) g.length (fun i=>QA.enc (g'.getD i (QB.mk (0:Int) (0:Int)))) fun i=>QA.enc (g.getD i (QB.mk (0:Int) (0:Int)))]):=by kernel_rfl
def GN:Res TrS:=onT x (Qo x x.scans.n) trY x.scans.n [] (0,[],[]) noH
def JJ:List QB×List QB×Int×Int:=match x.ok with
 | false=>([],[],0,1)
 | true=>match K5 x with
  | true=>([],[],0,11)
  | false=>match GN x with
   | .stop s _ | .go s _=>match s.1==0 with
    | true=>([],[],0,6)
    | false=>(s.2.1,s.2.2,s.1,0)
def Vd:WF (QE×Unit):=fun|(x,_)=>(decide (x.d.ps.n≤1000∧x.scans.n≤1000∧x.hang.n≤1000),WD (JJ x).1 (JJ x).2.1 (JJ x).2.2.1 (JJ x).2.2.2,Zk (JJ x).1 (JJ x).2.1)
def QII:FC:=wFC Vd
theorem QCE:WOk (Vd (x,())).2.1 (Vd (x,())).2.2:=⟨rfl,by simp[Vd,Zk,Ke,Blk.own,Blk.all],rfl⟩
theorem QM7(ht:QQ Try.prog 49 (uFC (opE x e)))(he:e≠0)(hv:JJ x=([],[],0,e)):QQ Try.prog 25 (wFC (Jq Vd (x,()))):=by
 have hT:Qc (Ko QS (opE x e)):=Q6.add ht;refine X8 (c:=Qr Try.f25) (E:=mkE Try.prog (Ko QS (opE x e))) (H:=hnd (mkE Try.prog (Ko QS (opE x e))) 1) (QT hT) Try.func25 (by kernel_rfl) (by kernel_rfl) (N:=8) (by decide) (x,()) (fun G h1 _=>Qz (QT hT) 1 G _ h1) (QCE x) ?_
 refine Q0 (Qad QS x e) ?_;refine QF (Q4.2 ?_) (QI (fun _ => ?_) (fun h=>by simp at h;exact absurd h he))
 ·repeat' first|with_reducible refine QN ?_ ?_|exact trivial|with_reducible rfl|exact qlr _|exact qRr|exact QZ _ _ _ _|refine And.intro ?_ ?_
 ·simp only[Vd,hv];refine⟨rfl,rfl,_,QaZ e [] [] 0 e,?_⟩
  repeat' first|with_reducible refine QN ?_ ?_|exact trivial|with_reducible rfl|exact qlr _|exact qRr|exact QZ _ _ _ _|exact rfl|refine And.intro ?_ ?_
theorem QVf(hs:Xr x)(hx:x.ok=true)(hr:K5 x=false)(hpos:0<x.scans.n):QQ Try.prog 25 (wFC (Jq Vd (x,()))):=by
 have hg:=Vn hx;have hC:=QCD (x:=x) hg.d.n9;have hon:=QQM hg hC hpos x.scans.n [] (0,[],[]) noH (by simp) (fun c hc=>by cases hc)
 cases he:onT x (Qo x x.scans.n) trY x.scans.n [] (0,[],[]) noH with
 | go s h=>
  rw[he]at hon;have hT:Qc (Y6 QS x (Qo x x.scans.n) (trU x (Qo x x.scans.n) VH VQ [] noH 0 [] [] h s.1 s.2.1 s.2.2)):=(Q6.add (jb x hs hx hr)).add hon
  have hv:JJ x=match s.1==0 with
    | true=>([],[],0,6)
    | false=>(s.2.1,s.2.2,s.1,0):=by
   simp only[JJ,hx,hr,GN,he]
  refine X8 (c:=Qr Try.f25) (E:=mkE Try.prog (Y6 QS x (Qo x x.scans.n) (trU x (Qo x x.scans.n) VH VQ [] noH 0 [] [] h s.1 s.2.1 s.2.2))) (H:=hnd (mkE Try.prog (Y6 QS x (Qo x x.scans.n) (trU x (Qo x x.scans.n) VH VQ [] noH 0 [] [] h s.1 s.2.1 s.2.2))) 8) (QT hT) Try.func25 (by kernel_rfl) (by kernel_rfl) (N:=8) (by decide) (x,()) (fun G h1 _=>Qz (QT hT) 8 G _ h1) (QCE x) ?_
  refine Q0 (QTP QS x (Qo x x.scans.n) h s.1 s.2.1 s.2.2) ?_;refine QF (Q4.2 ?_) (QF (Q4.2 ?_) (QI (fun q => ?_) (fun q => ?_)))
  ·repeat' first|with_reducible refine QN ?_ ?_|exact trivial|with_reducible rfl|exact qlr _|exact qRr|exact QZ _ _ _ _|refine And.intro ?_ ?_
  ·repeat' first|with_reducible refine QN ?_ ?_|exact trivial|with_reducible rfl|exact qlr _|exact qRr|exact QZ _ _ _ _|exact QAD _|exact rfl|refine And.intro ?_ ?_
  ·simp only[Vd,hv,q];refine⟨rfl,rfl,_,QcR [] [] 0 6,?_⟩
   repeat' first|with_reducible refine QN ?_ ?_|exact trivial|with_reducible rfl|exact qlr _|exact qRr|exact QZ _ _ _ _|exact rfl|refine And.intro ?_ ?_
  ·simp only[Vd,hv,q];refine⟨rfl,rfl,_,QWN s.1 s.2.1 s.2.2 s.2.1 s.2.2 s.1 0,?_⟩
   repeat' first|with_reducible refine QN ?_ ?_|exact trivial|with_reducible rfl|exact qlr _|exact qRr|exact QZ _ _ _ _|exact rfl|refine And.intro ?_ ?_
 | stop s h=>
  rw[he]at hon;have hT:Qc (Y6 QS x (Qo x x.scans.n) (trV x (Qo x x.scans.n) VH VQ [] noH 0 [] [] h s.1 s.2.1 s.2.2)):=(Q6.add (jb x hs hx hr)).add hon
  have hv:JJ x=match s.1==0 with
    | true=>([],[],0,6)
    | false=>(s.2.1,s.2.2,s.1,0):=by
   simp only[JJ,hx,hr,GN,he]
  refine X8 (c:=Qr Try.f25) (E:=mkE Try.prog (Y6 QS x (Qo x x.scans.n) (trV x (Qo x x.scans.n) VH VQ [] noH 0 [] [] h s.1 s.2.1 s.2.2))) (H:=hnd (mkE Try.prog (Y6 QS x (Qo x x.scans.n) (trV x (Qo x x.scans.n) VH VQ [] noH 0 [] [] h s.1 s.2.1 s.2.2))) 8) (QT hT) Try.func25 (by kernel_rfl) (by kernel_rfl) (N:=8) (by decide) (x,()) (fun G h1 _=>Qz (QT hT) 8 G _ h1) (QCE x) ?_
  refine Q0 (QdP QS x (Qo x x.scans.n) h s.1 s.2.1 s.2.2) ?_;refine QF (Q4.2 ?_) (QF (Q4.2 ?_) (QI (fun q => ?_) (fun q => ?_)))
  ·repeat' first|with_reducible refine QN ?_ ?_|exact trivial|with_reducible rfl|exact qlr _|exact qRr|exact QZ _ _ _ _|refine And.intro ?_ ?_
  ·repeat' first|with_reducible refine QN ?_ ?_|exact trivial|with_reducible rfl|exact qlr _|exact qRr|exact QZ _ _ _ _|exact QAD _|exact rfl|refine And.intro ?_ ?_
  ·simp only[Vd,hv,q];refine⟨rfl,rfl,_,QaD [] [] 0 6,?_⟩
   repeat' first|with_reducible refine QN ?_ ?_|exact trivial|with_reducible rfl|exact qlr _|exact qRr|exact QZ _ _ _ _|exact rfl|refine And.intro ?_ ?_
  ·simp only[Vd,hv,q];refine⟨rfl,rfl,_,QZ7 s.1 s.2.1 s.2.2 s.2.1 s.2.2 s.1 0,?_⟩
   repeat' first|with_reducible refine QN ?_ ?_|exact trivial|with_reducible rfl|exact qlr _|exact qRr|exact QZ _ _ _ _|exact rfl|refine And.intro ?_ ?_
theorem QUx(d:Puz)(sc:Nat→QG)(hang:Rw Jn)(lo fo:Int)(hs:Xr ⟨d,⟨0,sc⟩,hang,lo,fo⟩)(hx:(QE.mk d ⟨0,sc⟩ hang lo fo).ok=true)(hr:K5 ⟨d,⟨0,sc⟩,hang,lo,fo⟩=false):QQ Try.prog 25 (wFC (Jq Vd (⟨d,⟨0,sc⟩,hang,lo,fo⟩,()))):=by
 have hd:=hs.d;have hd:d.ps.n≤1000:=hd;have hT:Qc (Ko QS (opO ⟨d,⟨0,sc⟩,hang,lo,fo⟩ [])):=Q6.add (jb ⟨d,⟨0,sc⟩,hang,lo,fo⟩ hs hx hr);have hw:i64.wrap ((d.ps.n:Int)-0)=d.ps.n:=(w64 (by omega) (by omega)).trans (by omega)
 have hv:JJ ⟨d,⟨0,sc⟩,hang,lo,fo⟩=match decide ((d.ps.n:Int)>lo)with
   | true=>([],[],0,6)
   | false=>([],[],1,0):=by
  simp only[JJ,hx,hr,GN,onT,Jp,X2];simp only[show(d.ps.n:Int)-((([]:List QB).length:Int)-QH [] (-2))=d.ps.n by simp[QH]]
  cases decide ((d.ps.n:Int)>lo)<;>rfl
 refine X8 (c:=Qr Try.f25) (E:=mkE Try.prog (Ko QS (opO ⟨d,⟨0,sc⟩,hang,lo,fo⟩ []))) (H:=hnd (mkE Try.prog (Ko QS (opO ⟨d,⟨0,sc⟩,hang,lo,fo⟩ []))) 8) (QT hT) Try.func25 (by kernel_rfl) (by kernel_rfl) (N:=8) (by decide) (⟨d,⟨0,sc⟩,hang,lo,fo⟩,()) (fun G h1 _=>Qz (QT hT) 8 G _ h1) (QCE _) ?_
 refine Q0 (QWs QS d sc hang lo fo) ?_;refine QF (Q4.2 ?_) (QI (fun _=>QI (fun q => ?_) (fun q => ?_)) (fun q=>by cases q))
 ·repeat' first|with_reducible refine QN ?_ ?_|exact trivial|with_reducible rfl|exact qlr _|exact qRr|exact QZ _ _ _ _|refine And.intro ?_ ?_
 ·rw[hw]at q;simp only[Vd,hv,q];refine⟨rfl,rfl,_,QR3 [] [] 0 6,?_⟩
  repeat' first|with_reducible refine QN ?_ ?_|exact trivial|with_reducible rfl|exact qlr _|exact qRr|exact QZ _ _ _ _|exact rfl|refine And.intro ?_ ?_
 ·rw[hw]at q;simp only[Vd,hv,q];refine⟨rfl,rfl,_,QSz [] [] 1 0,?_⟩
  repeat' first|with_reducible refine QN ?_ ?_|exact trivial|with_reducible rfl|exact qlr _|exact qRr|exact QZ _ _ _ _|exact rfl|refine And.intro ?_ ?_
theorem QWE(hx:(Vd (x,())).1=true):QQ Try.prog 25 (wFC (Jq Vd (x,()))):=by
 obtain⟨h1,h2,h3⟩:=qdt hx;have hs:Xr x:=⟨h1,h2,h3⟩;cases ho:x.ok with
 | false=>exact QM7 x 1 (QBM x hs ho) (by decide) (by simp only[JJ,ho])
 | true=>cases hr:K5 x with
  | true=>exact QM7 x 11 (QAq x hs ho hr) (by decide) (by simp only[JJ,ho,hr])
  | false=>
   by_cases hp:0<x.scans.n
   ·exact QVf x hs ho hr hp
   ·obtain⟨d,⟨n,sc⟩,hang,lo,fo⟩:=x;obtain rfl:n=0:=by simp only at hp;omega
    exact QUx d sc hang lo fo hs ho hr
theorem QKf:QQ Try.prog 25 QII:=Gg (by kernel_rfl) fun|(x,()),hx=>QWE x hx
def QVJ(b:Nat)(f:List QB)(moved turned:Int):List (Nat×Blk):=[(120,.cells 0 38 [.slz b 0 f.length (.of 0)]),rwL b f,(112,.cells 0 92 [.int false .i64 moved]),(104,.cells 0 92 [.int false .i64 turned])]
def qX:JSt:=⟨53,[(6,.ptr 104 0 0),(7,.ptr 112 0 0),(8,.ptr 120 0 0),(29,.int false .i64 f.length),(30,.int false .i64 k)],QVJ 464 f moved turned,472⟩
def QDn:JSt:=⟨53,[(8,.ptr 120 0 0)],[(120,.cells 0 38 [.slz 464 0 f.length (.of 0)]),rwL 464 f],472⟩
def QKT:Ex→List Nat
 | .normal=>[6,7,8,29,30]
 | .exit _=>[8]
 | .ret=>[]
def vX:AV := .tup [.slz 0 0 f.length (.of 0),.int false .i64 e]
noncomputable abbrev QDP:List AV:=
  [.nilp,.ptr 53 0 0,.ptr 104 0 0,.ptr 112 0 0,.ptr 120 0 0,vi (f.length:Int),vi (i64.wrap ((k:Int)+1))]
noncomputable abbrev QA0:Nat×Blk:=
  (104,.cells 0 92 [vi turned])
noncomputable abbrev QDH:Nat×Blk:=
  (112,.cells 0 92 [vi moved])
noncomputable abbrev Gf:Nat×Blk:=
  (120,.cells 0 38 [.slz 464 0 f.length cO])
noncomputable abbrev QB1:List AV:=
  [vj (-1),vj 0]
noncomputable abbrev QNN(moved:Int)(turned:Int):List (Nat×Blk):=
  [(QA0 turned),(QDH moved),(Gf f),(464,.rowz true 56 [.int .i64,.int .i64] f.length fun i=>bif decide (i=k)then J1 QB1 0 (bif decide (k=k)then J1 [.int true
  .i64 0] 1 (QA.enc (f.getD k ⟨0,0⟩))else QA.enc (f.getD k ⟨0,0⟩))else bif decide (i=k)then J1 [vj 0] 1 (QA.enc (f.getD k ⟨0,0⟩))else QA.enc (f.getD i
  ⟨0,0⟩))]
noncomputable abbrev QH0(moved:Int)(turned:Int):List (Nat×Blk):=
  [(QA0 turned),(QDH moved),(Gf f),(464,.rowz true 56 [.int .i64,.int .i64] f.length fun i=>bif decide (i=k)then J1 QB1 0 (QA.enc (f.getD k ⟨0,0⟩))else QA.enc
  (f.getD i ⟨0,0⟩))]
theorem QZD(g:Nat→Value):exec (mkE Try.prog Qn) (hnd (mkE Try.prog Qn) 3) (Qd Try.f33 0) (JSt.inst (qX f moved turned k) g) (KS [] QKT) = .br (decide ((k:Int)<(f.length:Int)))
  (.need (decide ((0:Int)≤(k:Int))) (.br (i64.wrap (↑(BitVec.ofInt 64 (turned.fdiv ((2:Int)^min k 64)) &&& BitVec.ofInt 64 (1:Int)).toNat:Int)==1) (.need
  (decide ((0:Int)≤(k:Int)∧(k:Int)<(f.length:Int))&&decide (f.length≤f.length)) (.need (decide (k<f.length)) (.need (decide ((0:Int)≤(k:Int))) (.br
  (i64.wrap (↑(BitVec.ofInt 64 (moved.fdiv ((2:Int)^min k 64)) &&& BitVec.ofInt 64 (1:Int)).toNat:Int)==1) (.need (decide ((0:Int)≤(k:Int)∧(k:Int) <
  (f.length:Int))&&decide (f.length≤f.length)) (.need (decide (k<f.length)) (.leaf (.tup (QDP f k)) ((QNN f k moved turned))))) (.leaf (.tup (QDP f k)) ([(QA0 turned),
  (QDH moved),(Gf f),(464,.rowz true 56 [.int .i64,.int .i64] f.length fun i=>bif decide (i=k)then J1 [vj 0] 1 (QA.enc (f.getD k ⟨0,0⟩))else QA.enc
  (f.getD i ⟨0,0⟩))])))))) (.need (decide ((0:Int)≤(k:Int))) (.br (i64.wrap (↑(BitVec.ofInt 64 (moved.fdiv ((2:Int)^min k 64)) &&& BitVec.ofInt 64 (1:Int)).toNat
  : Int)==1) (.need (decide ((0:Int)≤(k:Int)∧(k:Int)<(f.length:Int))&&decide (f.length≤f.length)) (.need (decide (k<f.length)) (.leaf (.tup (QDP f k)) ((QH0 f
  k moved turned))))) (.leaf (.tup (QDP f k)) ([(QA0 turned),(QDH moved),(Gf f),(464,.rowz true 56 [.int .i64,.int .i64] f.length fun i=>QA.enc (f.getD i ⟨0,0⟩))]))))))
  (.leaf (.tup [.ptr 0 0 0,.ptr 53 0 0,.ptr 120 0 0]) ([(Gf f),(464,.rowz true 56 [.int .i64,.int .i64] f.length fun i=>QA.enc (f.getD i ⟨0,0⟩))])):=by kernel_rfl
theorem QVl:Kc (mkE Try.prog (Ko pb (opE x e))) (hnd (mkE Try.prog (Ko pb (opE x e))) 1) Try.f33 (QX.vals 0 ((x,()):QE×Unit)) (QX.blks 0 ((x,()):QE×Unit)) 8 =
  QD.need (pb ([x.d.play.length = x.d.play.length, x.d.play.slack = x.d.play.slack, x.d.play.loose = x.d.play.loose, x.d.play.damp.lo = x.d.play.damp.lo, x.d.play.damp.hi = x.d.play.damp.hi, x.d.wide = x.d.wide, x.d.high = x.d.high, x.d.turn = x.d.turn, (0 : Nat) = (0 : Nat), x.d.ps.n = x.d.ps.n, Cap.of (0 : Nat) = Cap.of (0 : Nat), (0 : Nat) = (0 : Nat), x.scans.n = x.scans.n, Cap.of (0 : Nat) = Cap.of (0 : Nat), (0 : Nat) = (0 : Nat), x.hang.n = x.hang.n, Cap.of (0 : Nat) = Cap.of (0 : Nat), x.lost = x.lost, x.foreign = x.foreign, x.d.ps.n ≤ x.d.ps.n, QC (28 : Nat) x.d.ps.n (fun i => QA.enc (x.d.ps.get i)) fun i => QA.enc (x.d.ps.get i), x.scans.n ≤ x.scans.n, QC (28 : Nat) x.scans.n (fun i => QA.enc (x.scans.get i)) fun i => QA.enc (x.scans.get i), x.hang.n ≤ x.hang.n, QC (4 : Nat) x.hang.n (fun i => QA.enc (x.hang.get i)) fun i => QA.enc (x.hang.get i)])) (QD.br (e != (0 : Int)) (QD.leaf (AV.tup [AV.nils, AV.int false i64 e]) ([])) (QD.fail ("a call without a contract"))) := by kernel_rfl
theorem QYf(d:Puz)(s:Nat→QG)(hang:Rw Jn)(lo fo:Int):Kc (mkE Try.prog (Ko pb (opO ⟨d,⟨0,s⟩,hang,lo,fo⟩ []))) (hnd (mkE Try.prog (Ko pb (opO ⟨d,⟨0,s⟩,hang,lo,fo⟩ []))) 8) Try.f33 (QX.vals 0 ((⟨d,⟨0,s⟩,hang,lo,fo⟩,()):QE×Unit)) (QX.blks 0 ((⟨d,⟨0,s⟩,hang,lo,fo⟩,()):QE×Unit)) 8 =
  QD.need (pb ([d.play.length = d.play.length, d.play.slack = d.play.slack, d.play.loose = d.play.loose, d.play.damp.lo = d.play.damp.lo, d.play.damp.hi = d.play.damp.hi, d.wide = d.wide, d.high = d.high, d.turn = d.turn, (0 : Nat) = (0 : Nat), d.ps.n = d.ps.n, Cap.of (0 : Nat) = Cap.of (0 : Nat), (0 : Nat) = (0 : Nat), (0 : Nat) = (0 : Nat), Cap.of (0 : Nat) = Cap.of (0 : Nat), (0 : Nat) = (0 : Nat), hang.n = hang.n, Cap.of (0 : Nat) = Cap.of (0 : Nat), lo = lo, fo = fo, d.ps.n ≤ d.ps.n, QC (28 : Nat) d.ps.n (fun i => QA.enc (d.ps.get i)) fun i => QA.enc (d.ps.get i), (0 : Nat) ≤ (0 : Nat), QC (28 : Nat) (0 : Nat) (fun i => QA.enc ((Rw.mk (0 : Nat) s).get i)) fun i => QA.enc ((Rw.mk (0 : Nat) s).get i), hang.n ≤ hang.n, QC (4 : Nat) hang.n (fun i => QA.enc (hang.get i)) fun i => QA.enc (hang.get i)])) (QD.br (true) (QD.br (decide (i64.wrap ((↑d.ps.n : Int) - (0 : Int)) > lo)) (QD.leaf (AV.tup [AV.nils, AV.int true i64 (6 : Int)]) ([])) (QD.leaf (AV.tup [AV.nils, AV.int true i64 (0 : Int)]) ([]))) (QD.need (false) (QD.fail ("scan.go:188")))) := by kernel_rfl
def zn(U:UC):Tab:=Qe (Ko pb (opO x C)) 77 (Jj pb U)
abbrev QGq(P:Program)(T:Tab)(f f2:List QB)(moved turned:Int):Hnd:={ hnd (mkE P T) 8 with loop:=fun _=>KN 8 [] (qX f moved turned (0:Nat)) [(True,.exit 0,QDn f2)] }
theorem QaQ(has':Int→Bool)(many' n':Int)(f':List QB)(moved' turned':Int)(f2:List QB):Kc (mkE Try.prog (zn pb x C (tdU x C (QM Try.f53 0).1 (QM Try.f53 0).2 [] noH 0 0 [] 0 0 has' many' n' f' moved' turned'))) (QGq Try.prog (zn pb x C (tdU x C
  (QM Try.f53 0).1 (QM Try.f53 0).2 [] noH 0 0 [] 0 0 has' many' n' f' moved' turned')) f' f2 moved' turned') Try.f33 (QX.vals 0 ((x,()):QE×Unit)) (QX.blks 0 ((x,
  ()):QE×Unit)) 8 = .need (pb ([x.d.play.length=x.d.play.length,x.d.play.slack=x.d.play.slack,x.d.play.loose=x.d.play.loose,x.d.play.damp.lo=x.d.play.damp.lo,
  x.d.play.damp.hi=x.d.play.damp.hi,x.d.wide=x.d.wide,x.d.high=x.d.high,x.d.turn=x.d.turn,0=0,x.d.ps.n=x.d.ps.n,cO=cO,0=0,x.scans.n=x.scans.n,
  cO=cO,0=0,x.hang.n=x.hang.n,cO=cO,x.lost=x.lost,x.foreign=x.foreign,x.d.ps.n≤x.d.ps.n,QC 28 x.d.ps.n (fun i=>QA.enc (x.d.ps.get
  i)) fun i=>QA.enc (x.d.ps.get i),x.scans.n≤x.scans.n,QC 28 x.scans.n (fun i=>QA.enc (x.scans.get i)) fun i=>QA.enc (x.scans.get i),x.hang.n≤x.hang.n,QC 4
  x.hang.n (fun i=>QA.enc (x.hang.get i)) fun i=>QA.enc (x.hang.get i)])) (.need (pb ([0=0,0=0,0=0,0=0,0=0,0=0,0=0,0=0,0=0,0=0,0=0,0=0,([]
  : List MapEntry)=[],qD (.int true .i64 0) noH fun i => .int false .i64 (QH [] i),LoopState.ready=LoopState.ready,(none:Option Code)=none,Array.mk [12]=Array.mk
  [12],(QM Try.f53 0).1=(QM Try.f53 0).1,(QM Try.f53 0).2=(QM Try.f53 0).2,0=0,0=0,(0:Int)=0,Fn.func 62=Fn.func 62,0=0,0=0,0=0,0=0,0 =
  0,0=0,0=0,0=0,0=0,0=0,(0:Int)=0,false=false,0=0,0=0,0=0,0=0,Fn.func 76=Fn.func 76,0=0,0=0,(0:Int)=0,(0:Int)=0,0=0,0=0,(0
  : Int)=0,(0:Int)=0,Fn.func 77=Fn.func 77,0=0,0=0,0=0,0=0,0=0,0=0,0=0,0=0,0=0,0=0,0=0,0=0,Fn.func 62=Fn.func 62,0=0,0=0,0=0,
  0=0,0=0,0=0,x.d.play.length=x.d.play.length,x.d.play.slack=x.d.play.slack,x.d.play.loose=x.d.play.loose,x.d.play.damp.lo=x.d.play.damp.lo,x.d.play.damp.hi =
  x.d.play.damp.hi,x.d.wide=x.d.wide,x.d.high=x.d.high,x.d.turn=x.d.turn,0=0,x.d.ps.n=x.d.ps.n,cO=cO,0=0,x.scans.n=x.scans.n,cO=cO,
  0=0,x.hang.n=x.hang.n,cO=cO,x.lost=x.lost,x.foreign=x.foreign,0=0,C.length=C.length,cO=cO,C.length=C.length,Kd 2 C.length
  (fun i=>(QJ C i).length) (fun i=>(QJ C i).length) (fun i j=>QA.enc ((QJ C i).getD j ⟨0,0⟩)) fun i j=>QA.enc ((QJ C i).getD j ⟨0,0⟩),x.d.ps.n≤x.d.ps.n,
  QC 28 x.d.ps.n (fun i=>QA.enc (x.d.ps.get i)) fun i=>QA.enc (x.d.ps.get i),x.scans.n≤x.scans.n,QC 28 x.scans.n (fun i=>QA.enc (x.scans.get i)) fun i=>
  QA.enc (x.scans.get i),x.hang.n≤x.hang.n,QC 4 x.hang.n (fun i=>QA.enc (x.hang.get i)) fun i=>QA.enc (x.hang.get i)])) (.br (!decide (many'>0)) (.leaf (.tup
  [.nils,vj 6]) ([])) (.ask (0=0) (.ask (0=0) (.ask (0=0) (.ask (0=0) (.ask (0=0) (.ask (0=0) (.ask ((f'.length:Int)=(f'.length:Int)) (.ask ((0:Int) =
  0) (.ask (0=0) (.ask (f'.length=f'.length) (.ask (cO=cO) (.ask (f'.length≤f'.length) (.ask (QC 2 f'.length (fun i=>QA.enc (f'.getD i ⟨0,0⟩)) fun i=>
  QA.enc (f'.getD i ⟨0,0⟩)) (.ask (moved'=moved') (.ask (turned'=turned') (.asm (True) (.all (fun(g0:Nat→Value) => .leaf (.tup [.slz 464 0 f2.length cO,.int true
  .i64 0]) ([(464,.rowz true 56 [.int .i64,.int .i64] f2.length fun i=>QA.enc (f2.getD i ⟨0,0⟩))]))))))))))))))))))))):=by kernel_rfl
noncomputable abbrev QK7:List AV:=
  [.ptr 104 0 0,.ptr 112 0 0,.ptr 120 0 0,vi (f.length:Int),vi (i64.wrap ((k:Int)+1))]
abbrev QMV:List Prop:=
  [0=0,0=0,0=0,0=0]
abbrev QOQ(k':Nat):List Prop:=
  [0=0,0=0,(f.length:Int)=(f'.length:Int),i64.wrap ((k:Int)+1)=(k':Int),0=0,f.length=f'.length,cO=cO,f'.length≤f.length]
theorem QXe(moved turned:Int)(k k':Nat):QK 8 (QK7 f k) ((QNN f k moved turned)) (qX f' moved turned k')=(some (QMV++(QOQ f f' k k')++[QC 2 f'.length (fun i=>bif decide (i=k)then J1 QB1 0 (bif
  decide (k=k)then J1 [vj 0] 1 (QA.enc (f.getD k ⟨0,0⟩))else QA.enc (f.getD k ⟨0,0⟩))else bif decide (i=k)then J1 [vj 0] 1 (QA.enc (f.getD
  k ⟨0,0⟩))else QA.enc (f.getD i ⟨0,0⟩)) fun i=>QA.enc (f'.getD i ⟨0,0⟩),moved=moved,turned=turned])):=by kernel_rfl
theorem Qcb(moved turned:Int)(k k':Nat):QK 8 [AV.ptr (104:Nat) (0:Nat) (0:Nat),AV.ptr (112:Nat) (0:Nat) (0:Nat),AV.ptr (120:Nat) (0:Nat) (0:Nat),AV.int false i64 (↑f.length:Int),AV.int false i64 (i64.wrap ((↑k:Int)+(1:Int)))] ([((104:Nat),Blk.cells (0:Nat) (92:Nat) [AV.int false i64 turned]),((112:Nat),Blk.cells (0:Nat) (92:Nat) [AV.int false i64 moved]),((120:Nat),Blk.cells (0:Nat) (38:Nat) [AV.slz (464:Nat) (0:Nat) f.length (Cap.of (0:Nat))]),((464:Nat),Blk.rowz true (56:Nat) [CK.int i64,CK.int i64] f.length fun i=>bif decide (i=k)then J1 [AV.int true i64 (0:Int)] (1:Nat) (QA.enc (f.getD k (QB.mk (0:Int) (0:Int))))else QA.enc (f.getD i (QB.mk (0:Int) (0:Int))))]) (qX f' moved turned k')=(
  some [(0:Nat)=(0:Nat),(0:Nat)=(0:Nat),(0:Nat)=(0:Nat),(0:Nat)=(0:Nat),(0:Nat)=(0:Nat),(0:Nat)=(0:Nat),(↑f.length:Int)=(↑f'.length :
  Int),i64.wrap ((↑k:Int)+(1:Int))=(↑k':Int),(0:Nat)=(0:Nat),f.length=f'.length,Cap.of (0:Nat)=Cap.of (0:Nat),f'.length≤f.length,QC (2 :
  Nat) f'.length (fun i=>bif decide (i=k)then J1 [AV.int true i64 (0:Int)] (1:Nat) (QA.enc (f.getD k (QB.mk (0:Int) (0:Int))))else QA.enc (f.getD i
  (QB.mk (0:Int) (0:Int)))) fun i=>QA.enc (f'.getD i (QB.mk (0:Int) (0:Int))),moved=moved,turned=turned]):=by kernel_rfl
theorem QcX(moved turned:Int)(k k':Nat):QK 8 (QK7 f k) ((QH0 f k moved turned)) (qX f' moved turned k')=(some (QMV++(QOQ f f' k k')++[QC 2 f'.length (fun i=>bif decide (i=k)then J1 QB1 0
  (QA.enc (f.getD k ⟨0,0⟩))else QA.enc (f.getD i ⟨0,0⟩)) fun i=>QA.enc (f'.getD i ⟨0,0⟩),moved=moved,turned=turned])):=by kernel_rfl
theorem QTe(moved turned:Int)(k k':Nat):QK 8 [AV.ptr (104:Nat) (0:Nat) (0:Nat),AV.ptr (112:Nat) (0:Nat) (0:Nat),AV.ptr (120:Nat) (0:Nat) (0:Nat),AV.int false i64 (↑f.length:Int),AV.int false i64 (i64.wrap ((↑k:Int)+(1:Int)))] ([((104:Nat),Blk.cells (0:Nat) (92:Nat) [AV.int false i64 turned]),((112:Nat),Blk.cells (0:Nat) (92:Nat) [AV.int false i64 moved]),((120:Nat),Blk.cells (0:Nat) (38:Nat) [AV.slz (464:Nat) (0:Nat) f.length (Cap.of (0:Nat))]),((464:Nat),Blk.rowz true (56:Nat) [CK.int i64,CK.int i64] f.length fun i=>QA.enc (f.getD i (QB.mk (0:Int) (0:Int))))]) (qX f' moved turned k')=(
  some [(0:Nat)=(0:Nat),(0:Nat)=(0:Nat),(0:Nat)=(0:Nat),(0:Nat)=(0:Nat),(0:Nat)=(0:Nat),(0:Nat)=(0:Nat),(↑f.length:Int)=(↑f'.length :
  Int),i64.wrap ((↑k:Int)+(1:Int))=(↑k':Int),(0:Nat)=(0:Nat),f.length=f'.length,Cap.of (0:Nat)=Cap.of (0:Nat),f'.length≤f.length,QC (2 :
  Nat) f'.length (fun i=>QA.enc (f.getD i (QB.mk (0:Int) (0:Int)))) fun i=>QA.enc (f'.getD i (QB.mk (0:Int) (0:Int))),moved=moved,turned=turned]):=by kernel_rfl
theorem QZj:QK 8 [AV.ptr (120:Nat) (0:Nat) (0:Nat)] ([((120:Nat),Blk.cells (0:Nat) (38:Nat) [AV.slz (464:Nat) (0:Nat) f.length (Cap.of (0:Nat))]),((464:Nat),Blk.rowz true (56:Nat) [CK.int i64,CK.int i64] f.length fun i=>QA.enc (f.getD i (QB.mk (0:Int) (0:Int))))]) (QDn f')=(
  some [(0:Nat)=(0:Nat),(0:Nat)=(0:Nat),(0:Nat)=(0:Nat),f.length=f'.length,Cap.of (0:Nat)=Cap.of (0:Nat),f'.length≤f.length,QC (2:Nat)
  f'.length (fun i=>QA.enc (f.getD i (QB.mk (0:Int) (0:Int)))) fun i=>QA.enc (f'.getD i (QB.mk (0:Int) (0:Int)))]):=by kernel_rfl
theorem Qa5(f:List QB)(e':Int):QK 8 [(AV.tup [AV.nils,AV.int false i64 e])] ([]) (Km 8 (vX f e') [Ke 56 0 f ⟨0,0⟩])=(
  some [f.length=(0:Nat),e=e',f.length=(0:Nat)]):=by kernel_rfl
theorem QX2:QK 8 [(AV.tup [AV.nils,AV.int true i64 (6:Int)])] ([]) (Km 8 (vX f e') [Ke 56 0 f ⟨0,0⟩])=(
  some [f.length=(0:Nat),(6:Int)=e',f.length=(0:Nat)]):=by kernel_rfl
theorem QRk:QK 8 [(AV.tup [AV.nils,AV.int true i64 (0:Int)])] ([]) (Km 8 (vX f e') [Ke 56 0 f ⟨0,0⟩])=(
  some [f.length=(0:Nat),(0:Int)=e',f.length=(0:Nat)]):=by kernel_rfl
theorem QaW:QK 8 [(AV.tup [AV.nils,AV.int true i64 (6:Int)])] ([]) (Km 8 (vX f e') [Ke 56 0 f ⟨0,0⟩])=(
  some [f.length=(0:Nat),(6:Int)=e',f.length=(0:Nat)]):=by kernel_rfl
theorem QUM(f2:List QB)(f:List QB)(e':Int):QK 8 [(AV.tup [AV.slz (464:Nat) (0:Nat) f2.length (Cap.of (0:Nat)),AV.int true i64 (0:Int)])] ([((464:Nat),Blk.rowz true (56:Nat) [CK.int i64,CK.int i64] f2.length fun i=>QA.enc (f2.getD i (QB.mk (0:Int) (0:Int))))]) (Km 8 (vX f e') [Ke 56 0 f ⟨0,0⟩])=(
  some [(0:Nat)=(0:Nat),f2.length=f.length,Cap.of (0:Nat)=Cap.of (0:Nat),(0:Int)=e',f.length≤f2.length,QC (2:Nat) f.length (fun i=>QA.enc (f2.getD i
  (QB.mk (0:Int) (0:Int)))) fun i=>QA.enc (f.getD i (QB.mk (0:Int) (0:Int)))]):=by kernel_rfl
def bitV(s:Int)(k:Nat):Bool:=i64.wrap (((BitVec.ofInt 64 (s.fdiv (2^min k 64)) &&& BitVec.ofInt 64 1).toNat:Nat):Int)==1
def YI(m t:Int)(k:Nat)(c:QB):QB:=match bitV m k with
 | true=>⟨-1,0⟩
 | false=>match bitV t k with
  | true=>⟨c.cell,0⟩
  | false=>c
def Kv(f:List QB)(m t:Int):Nat→List QB
 | 0=>f
 | k+1=>(Kv f m t k).set k (YI m t k ((Kv f m t k).getD k ⟨0,0⟩))
theorem je(f:List QB)(m t:Int):∀ k,(Kv f m t k).length=f.length
 | 0=>rfl
 | k+1=>by rw[Kv,List.length_set];exact je f m t k
theorem QCN{L:List QB}{k:Nat}(h:k<L.length){c:QB}(G:Nat→Nat→Int)(h1:∀ i,i≠k→eqF 2 0 (G i) (QA.enc (L.getD i ⟨0,0⟩)))(h2:eqF 2 0 (G k) (QA.enc c)):QC 2 (L.set k c).length G (fun i=>QA.enc ((L.set k c).getD i ⟨0,0⟩)):=by
 intro i hi;show eqF 2 0 (G i) (QA.enc ((L.set k c).getD i ⟨0,0⟩))
 by_cases e:i=k
 ·subst e;rw[List.getD_eq_getElem?_getD,List.getElem?_set_self h];exact h2
 ·rw[List.getD_eq_getElem?_getD,List.getElem?_set_ne (fun q=>e q.symm),←List.getD_eq_getElem?_getD];exact h1 i e
theorem QXA(hf:f.length≤1000):Ji (fun k=>qX (Kv f moved turned k) moved turned k) (fun k=>k≤f.length) (fun k=>f.length-k) (fun _ e J=>e = .exit 0∧J=QDn (Kv f moved turned f.length)) 8 QKT [] (mkE Try.prog Qn) (fun _=>hnd (mkE Try.prog Qn) 3) (Qd Try.f33 0):=by
 refine⟨fun k g hk=>Q0 (QZD (Kv f moved turned k) moved turned k g) ?_⟩;have hl:=je f moved turned k;have hl2:=je f moved turned (k+1);refine QI (fun h => ?_) (fun h => ?_)
 ·have h:k<f.length:=by have:=qdt h;rw[hl]at this;omega
  have hw:=K6 h hf;refine QF (by simp) (QI (fun ht=>QF (by rw[hl];simp;omega) (QF (by rw[hl];simp;omega) (QF (by simp) (QI (fun hm=>QF (by rw[hl];simp;omega) (QF (by rw[hl];simp;omega) ?_)) (fun hm => ?_))))) (fun ht=>QF (by simp) (QI (fun hm=>QF (by rw[hl];simp;omega) (QF (by rw[hl];simp;omega) ?_)) (fun hm => ?_))))
  ·refine⟨k+1,h,by show f.length-(k+1)<f.length-k;omega,fun _ _ h=>h,rfl,rfl,_,QXe (Kv f moved turned k) (Kv f moved turned (k+1)) moved turned k (k+1),?_⟩
   have e1:YI moved turned k ((Kv f moved turned k).getD k ⟨0,0⟩)=⟨-1,0⟩:=by simp only[YI,bitV,ht,hm]
   repeat' first|with_reducible refine QN ?_ ?_|exact trivial|with_reducible rfl|exact qlr _|exact qRr|exact QZ _ _ _ _|exact hw|exact hl.trans hl2.symm|exact hl2.trans hl.symm|exact congrArg (fun n:Nat=>(n:Int)) (hl.trans hl2.symm)|exact hl2.symm|exact Nat.le_of_eq (hl2.trans hl.symm)|exact QCN (by rw[hl];exact h) _ (fun i hi=>by simp only[decide_eq_false hi,cond_false];exact Xe _ _ _) (by rw[e1];simp only[decide_true,cond_true];exact⟨rfl,rfl,trivial⟩)|refine And.intro ?_ ?_
  ·refine⟨k+1,h,by show f.length-(k+1)<f.length-k;omega,fun _ _ h=>h,rfl,rfl,_,Qcb (Kv f moved turned k) (Kv f moved turned (k+1)) moved turned k (k+1),?_⟩
   have e1:YI moved turned k ((Kv f moved turned k).getD k ⟨0,0⟩)=⟨((Kv f moved turned k).getD k ⟨0,0⟩).cell,0⟩:=by simp only[YI,bitV,ht,hm]
   repeat' first|with_reducible refine QN ?_ ?_|exact trivial|with_reducible rfl|exact qlr _|exact qRr|exact QZ _ _ _ _|exact hw|exact hl.trans hl2.symm|exact hl2.trans hl.symm|exact congrArg (fun n:Nat=>(n:Int)) (hl.trans hl2.symm)|exact hl2.symm|exact Nat.le_of_eq (hl2.trans hl.symm)|exact QCN (by rw[hl];exact h) _ (fun i hi=>by simp only[decide_eq_false hi,cond_false];exact Xe _ _ _) (by rw[e1];simp only[decide_true,cond_true];exact⟨rfl,rfl,trivial⟩)|refine And.intro ?_ ?_
  ·refine⟨k+1,h,by show f.length-(k+1)<f.length-k;omega,fun _ _ h=>h,rfl,rfl,_,QcX (Kv f moved turned k) (Kv f moved turned (k+1)) moved turned k (k+1),?_⟩
   have e1:YI moved turned k ((Kv f moved turned k).getD k ⟨0,0⟩)=⟨-1,0⟩:=by simp only[YI,bitV,ht,hm]
   repeat' first|with_reducible refine QN ?_ ?_|exact trivial|with_reducible rfl|exact qlr _|exact qRr|exact QZ _ _ _ _|exact hw|exact hl.trans hl2.symm|exact hl2.trans hl.symm|exact congrArg (fun n:Nat=>(n:Int)) (hl.trans hl2.symm)|exact hl2.symm|exact Nat.le_of_eq (hl2.trans hl.symm)|exact QCN (by rw[hl];exact h) _ (fun i hi=>by simp only[decide_eq_false hi,cond_false];exact Xe _ _ _) (by rw[e1];simp only[decide_true,cond_true];exact⟨rfl,rfl,trivial⟩)|refine And.intro ?_ ?_
  ·refine⟨k+1,h,by show f.length-(k+1)<f.length-k;omega,fun _ _ h=>h,rfl,rfl,_,QTe (Kv f moved turned k) (Kv f moved turned (k+1)) moved turned k (k+1),?_⟩
   have e1:YI moved turned k ((Kv f moved turned k).getD k ⟨0,0⟩)=(Kv f moved turned k).getD k ⟨0,0⟩:=by simp only[YI,bitV,ht,hm]
   repeat' first|with_reducible refine QN ?_ ?_|exact trivial|with_reducible rfl|exact qlr _|exact qRr|exact QZ _ _ _ _|exact hw|exact hl.trans hl2.symm|exact hl2.trans hl.symm|exact congrArg (fun n:Nat=>(n:Int)) (hl.trans hl2.symm)|exact hl2.symm|exact Nat.le_of_eq (hl2.trans hl.symm)|exact QCN (by rw[hl];exact h) _ (fun i hi=>Xe _ _ _) (by rw[e1];exact Xe _ _ _)|refine And.intro ?_ ?_
 ·have:k=f.length:=by have:=of_decide_eq_false h;rw[hl]at this;omega
  subst this;refine⟨_,⟨rfl,rfl⟩,rfl,rfl,_,QZj (Kv f moved turned f.length) (Kv f moved turned f.length),?_⟩
  repeat' first|with_reducible refine QN ?_ ?_|exact trivial|with_reducible rfl|exact qlr _|exact qRr|exact QZ _ _ _ _|refine And.intro ?_ ?_
theorem QaG{T:Tab}(hT:Qc T)(f:List QB)(moved turned:Int)(hf:f.length≤1000)(G:Ctx)(hrd:G.rd=none)(hG:G.n=8):KH (mkE Try.prog T) G (QGq Try.prog T f (Kv f moved turned f.length) moved turned) (Qr Try.f33):=by
 refine Jd (body:=Qd Try.f33 0) (QT hT) hrd (by kernel_rfl) ?_
 refine Ze (E:=mkE Try.prog Qn) rfl (Ju (n0:=8) (QT Q6) (by omega) (fun s hs=>Qz (QT Q6) 3 G _ hrd) (fun s hs=>(by decide:8≤472)) ?_ (QXA f moved turned hf) (s0:=0) (Nat.zero_le _) ?_)
 ·rintro s e J ⟨_,rfl⟩;exact(by decide:8≤472)
 ·rintro e J ⟨rfl,rfl⟩;exact⟨_,List.mem_cons_self,trivial,rfl,rfl⟩
def tdS:Res TdS:=onT x (Qo x x.scans.n) tdY x.scans.n [] (0,0,[],0,0) noH
def Qu:List QB×Int:=match x.ok with
 | false=>([],1)
 | true=>match K5 x with
  | true=>([],11)
  | false=>match tdS x with
   | .stop s _ | .go s _=>match decide (s.1>0)with
    | false=>([],6)
    | true=>(Kv s.2.2.1 s.2.2.2.1 s.2.2.2.2 s.2.2.1.length,0)
def XC:WF (QE×Unit):=fun|(x,_)=>(decide (x.d.ps.n≤1000∧x.scans.n≤1000∧x.hang.n≤1000),vX (Qu x).1 (Qu x).2,[Ke 56 0 (Qu x).1 ⟨0,0⟩])
def QRR:FC:=wFC XC
theorem QEv:WOk (XC (x,())).2.1 (XC (x,())).2.2:=⟨rfl,by simp[XC,Ke,Blk.own,Blk.all],rfl⟩
theorem QNo(ht:QQ Try.prog 49 (uFC (opE x e)))(he:e≠0)(hv:Qu x=([],e)):QQ Try.prog 33 (wFC (Jq XC (x,()))):=by
 have hT:Qc (Ko QS (opE x e)):=Q6.add ht;refine X8 (c:=Qr Try.f33) (E:=mkE Try.prog (Ko QS (opE x e))) (H:=hnd (mkE Try.prog (Ko QS (opE x e))) 1) (QT hT) Try.func33 (by kernel_rfl) (by kernel_rfl) (N:=8) (by decide) (x,()) (fun G h1 _=>Qz (QT hT) 1 G _ h1) (QEv x) ?_
 refine Q0 (QVl QS x e) ?_;refine QF (Q4.2 ?_) (QI (fun _ => ?_) (fun h=>by simp at h;exact absurd h he))
 ·repeat' first|with_reducible refine QN ?_ ?_|exact trivial|with_reducible rfl|exact qlr _|exact qRr|exact QZ _ _ _ _|refine And.intro ?_ ?_
 ·simp only[XC,hv];refine⟨rfl,rfl,_,Qa5 e [] e,?_⟩
  repeat' first|with_reducible refine QN ?_ ?_|exact trivial|with_reducible rfl|exact qlr _|exact qRr|exact QZ _ _ _ _|exact rfl|refine And.intro ?_ ?_
theorem Qcc{x:QE}:∀(d:Nat) (l:List QB) (s:TdS) (h:Int→Bool) {s':TdS} {h':Int→Bool},l.length+d=x.scans.n→(s.2.2.1.length=0∨s.2.2.1.length=x.scans.n)→onT x (Qo x x.scans.n) tdY d l s h = .go s' h'→s'.2.2.1.length=0∨s'.2.2.1.length=x.scans.n:=fun d l s h {s' h'} hn hg he=>QC0 (G:=fun s:TdS=>s.2.2.1.length=0∨s.2.2.1.length=x.scans.n) (fun s l hg hl=>by
  show(KI s.2.1 l s.2.2.1).length=0∨(KI s.2.1 l s.2.2.1).length=x.scans.n;unfold KI;split
  ·exact .inr hl
  ·exact hg) d l s h hn hg he
theorem QVw(hs:Xr x)(hx:x.ok=true)(hr:K5 x=false)(hpos:0<x.scans.n):QQ Try.prog 33 (wFC (Jq XC (x,()))):=by
 have hg:=Vn hx;have hss:=hs.s;have hC:=QCD (x:=x) hg.d.n9;have hon:=QIs hg hC hpos x.scans.n [] (0,0,[],0,0) noH (by simp) (fun c hc=>by cases hc) (fun q=>by cases q)
 obtain⟨s,h,he⟩:=ZL (C:=Qo x x.scans.n) (x:=x) (Y:=tdY) (fun _ _=>rfl) x.scans.n [] (0,0,[],0,0) noH;rw[he]at hon
 have hlen:s.2.2.1.length≤1000:=by
  rcases Qcc (x:=x) x.scans.n [] (0,0,[],0,0) noH (by simp) (.inl rfl) he with q|q<;>omega
 have hT:Qc (zn QS x (Qo x x.scans.n) (tdU x (Qo x x.scans.n) Yf YV [] noH 0 0 [] 0 0 h s.1 s.2.1 s.2.2.1 s.2.2.2.1 s.2.2.2.2)):=(Q6.add (jb x hs hx hr)).add hon
 have hv:Qu x=match decide (s.1>0)with
   | false=>([],6)
   | true=>(Kv s.2.2.1 s.2.2.2.1 s.2.2.2.2 s.2.2.1.length,0):=by
  simp only[Qu,hx,hr,tdS,he]
 refine X8 (c:=Qr Try.f33) (E:=mkE Try.prog (zn QS x (Qo x x.scans.n) (tdU x (Qo x x.scans.n) Yf YV [] noH 0 0 [] 0 0 h s.1 s.2.1 s.2.2.1 s.2.2.2.1 s.2.2.2.2))) (H:=QGq Try.prog (zn QS x (Qo x x.scans.n) (tdU x (Qo x x.scans.n) Yf YV [] noH 0 0 [] 0 0 h s.1 s.2.1 s.2.2.1 s.2.2.2.1 s.2.2.2.2)) s.2.2.1 (Kv s.2.2.1 s.2.2.2.1 s.2.2.2.2 s.2.2.1.length) s.2.2.2.1 s.2.2.2.2) (QT hT) Try.func33 (by kernel_rfl) (by kernel_rfl) (N:=8) (by decide) (x,()) (fun G h1 h2=>QaG hT _ _ _ hlen G h1 h2) (QEv x) ?_
 refine Q0 (QaQ QS x (Qo x x.scans.n) h s.1 s.2.1 s.2.2.1 s.2.2.2.1 s.2.2.2.2 (Kv s.2.2.1 s.2.2.2.1 s.2.2.2.2 s.2.2.1.length)) ?_;refine QF (Q4.2 ?_) (QF (Q4.2 ?_) (QI (fun q => ?_) (fun q => ?_)))
 ·repeat' first|with_reducible refine QN ?_ ?_|exact trivial|with_reducible rfl|exact qlr _|exact qRr|exact QZ _ _ _ _|refine And.intro ?_ ?_
 ·repeat' first|with_reducible refine QN ?_ ?_|exact trivial|with_reducible rfl|exact qlr _|exact qRr|exact QZ _ _ _ _|exact QAD _|exact rfl|refine And.intro ?_ ?_
 ·have q:decide (s.1>0)=false:=by simpa using q
  simp only[XC,hv,q];refine⟨rfl,rfl,_,QaW [] 6,?_⟩
  repeat' first|with_reducible refine QN ?_ ?_|exact trivial|with_reducible rfl|exact qlr _|exact qRr|exact QZ _ _ _ _|exact rfl|refine And.intro ?_ ?_
 ·have q:decide (s.1>0)=true:=by simpa using q
  repeat' first|refine Qb (p:=_=_) rfl ?_|refine Qb (p:=_≤_) (qlr _) ?_|refine Qb (p:=QC _ _ _ _) (qRr) ?_
  refine KO fun _=>KK fun g => ?_;simp only[XC,hv,q];refine⟨rfl,rfl,_,QUM _ _ 0,?_⟩
  repeat' first|with_reducible refine QN ?_ ?_|exact trivial|with_reducible rfl|exact qlr _|exact qRr|exact QZ _ _ _ _|exact rfl|refine And.intro ?_ ?_
theorem QVr(d:Puz)(sc:Nat→QG)(hang:Rw Jn)(lo fo:Int)(hs:Xr ⟨d,⟨0,sc⟩,hang,lo,fo⟩)(hx:(QE.mk d ⟨0,sc⟩ hang lo fo).ok=true)(hr:K5 ⟨d,⟨0,sc⟩,hang,lo,fo⟩=false):QQ Try.prog 33 (wFC (Jq XC (⟨d,⟨0,sc⟩,hang,lo,fo⟩,()))):=by
 have hd:=hs.d;have hd:d.ps.n≤1000:=hd;have hT:Qc (Ko QS (opO ⟨d,⟨0,sc⟩,hang,lo,fo⟩ [])):=Q6.add (jb ⟨d,⟨0,sc⟩,hang,lo,fo⟩ hs hx hr);have hw:i64.wrap ((d.ps.n:Int)-0)=d.ps.n:=(w64 (by omega) (by omega)).trans (by omega)
 have hv:Qu ⟨d,⟨0,sc⟩,hang,lo,fo⟩=match decide ((d.ps.n:Int)>lo)with
   | true=>([],6)
   | false=>([],0):=by
  simp only[Qu,hx,hr,tdS,onT,Jp,X2];simp only[show(d.ps.n:Int)-((([]:List QB).length:Int)-QH [] (-2))=d.ps.n by simp[QH]]
  cases decide ((d.ps.n:Int)>lo)<;>rfl
 refine X8 (c:=Qr Try.f33) (E:=mkE Try.prog (Ko QS (opO ⟨d,⟨0,sc⟩,hang,lo,fo⟩ []))) (H:=hnd (mkE Try.prog (Ko QS (opO ⟨d,⟨0,sc⟩,hang,lo,fo⟩ []))) 8) (QT hT) Try.func33 (by kernel_rfl) (by kernel_rfl) (N:=8) (by decide) (⟨d,⟨0,sc⟩,hang,lo,fo⟩,()) (fun G h1 _=>Qz (QT hT) 8 G _ h1) (QEv _) ?_
 refine Q0 (QYf QS d sc hang lo fo) ?_;refine QF (Q4.2 ?_) (QI (fun _=>QI (fun q => ?_) (fun q => ?_)) (fun q=>by cases q))
 ·repeat' first|with_reducible refine QN ?_ ?_|exact trivial|with_reducible rfl|exact qlr _|exact qRr|exact QZ _ _ _ _|refine And.intro ?_ ?_
 ·rw[hw]at q;simp only[XC,hv,q];refine⟨rfl,rfl,_,QX2 [] 6,?_⟩
  repeat' first|with_reducible refine QN ?_ ?_|exact trivial|with_reducible rfl|exact qlr _|exact qRr|exact QZ _ _ _ _|exact rfl|refine And.intro ?_ ?_
 ·rw[hw]at q;simp only[XC,hv,q];refine⟨rfl,rfl,_,QRk [] 0,?_⟩
  repeat' first|with_reducible refine QN ?_ ?_|exact trivial|with_reducible rfl|exact qlr _|exact qRr|exact QZ _ _ _ _|exact rfl|refine And.intro ?_ ?_
theorem QSF(hx:(XC (x,())).1=true):QQ Try.prog 33 (wFC (Jq XC (x,()))):=by
 obtain⟨h1,h2,h3⟩:=qdt hx;have hs:Xr x:=⟨h1,h2,h3⟩;cases ho:x.ok with
 | false=>exact QNo x 1 (QBM x hs ho) (by decide) (by simp only[Qu,ho])
 | true=>cases hr:K5 x with
  | true=>exact QNo x 11 (QAq x hs ho hr) (by decide) (by simp only[Qu,ho,hr])
  | false=>
   by_cases hp:0<x.scans.n
   ·exact QVw x hs ho hr hp
   ·obtain⟨d,⟨n,sc⟩,hang,lo,fo⟩:=x;obtain rfl:n=0:=by simp only at hp;omega
    exact QVr d sc hang lo fo hs ho hr
theorem QJD:QQ Try.prog 33 QRR:=Gg (by kernel_rfl) fun|(x,()),hx=>QSF x hx
end Go.Proofs.Ytbpffdkemeoajaa
