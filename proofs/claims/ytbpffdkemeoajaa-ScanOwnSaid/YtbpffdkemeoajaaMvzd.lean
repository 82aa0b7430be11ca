/- - -/
import Derived.Test.YtbpffdkemeoajaaMvzc
import Derived.Test.YtbpffdkemeoajaaMvt
open Go.IntKind (i64)
set_option maxRecDepth 100000
namespace Go.Proofs.Ytbpffdkemeoajaa
open Go.SX
variable (pb:List Prop→Bool)(f:Nat→Int)(x:QE)(e:Int)(k k' n:Nat)(C:List (List QB))
def YQ(U:UC):Tab:=Qb (J8 pb (opO x C)) 77 (Vf pb U)
def Y8(f g:List QB)(m e:Int):AV := .tup [.slz 0 0 f.length (.of 0),.slz 1 0 g.length (.of 0),.int false .i64 m,.int false .i64 e]
def Y7(f g:List QB):List (Nat×Blk):=[Kf 56 0 f ⟨0,0⟩,Kf 56 1 g ⟨0,0⟩]
theorem QNp:Kd (mkE Try.prog (J8 pb (opE x e))) (hnd (mkE Try.prog (J8 pb (opE x e))) 1) Try.f25 (QU.vals 0 ((x,()):QE×Unit)) (QU.blks 0 ((x,()):QE×Unit)) 8 =
  QC.need (pb ([x.d.play.length = x.d.play.length, x.d.play.slack = x.d.play.slack, x.d.play.loose = x.d.play.loose, x.d.play.damp.lo = x.d.play.damp.lo, x.d.play.damp.hi = x.d.play.damp.hi, x.d.wide = x.d.wide, x.d.high = x.d.high, x.d.turn = x.d.turn, (0 : Nat) = (0 : Nat), x.d.ps.n = x.d.ps.n, Cap.of (0 : Nat) = Cap.of (0 : Nat), (0 : Nat) = (0 : Nat), x.scans.n = x.scans.n, Cap.of (0 : Nat) = Cap.of (0 : Nat), (0 : Nat) = (0 : Nat), x.hang.n = x.hang.n, Cap.of (0 : Nat) = Cap.of (0 : Nat), x.lost = x.lost, x.foreign = x.foreign, x.d.ps.n ≤ x.d.ps.n, QD (28 : Nat) x.d.ps.n (fun i => QA.enc (x.d.ps.get i)) fun i => QA.enc (x.d.ps.get i), x.scans.n ≤ x.scans.n, QD (28 : Nat) x.scans.n (fun i => QA.enc (x.scans.get i)) fun i => QA.enc (x.scans.get i), x.hang.n ≤ x.hang.n, QD (4 : Nat) x.hang.n (fun i => QA.enc (x.hang.get i)) fun i => QA.enc (x.hang.get i)])) (QC.br (e != (0 : Int)) (QC.leaf (AV.tup [AV.nils, AV.nils, AV.int true i64 (0 : Int), AV.int false i64 e]) ([])) (QC.fail ("a call without a contract"))) := by kernel_rfl
theorem QPJ(d:Puz)(s:Nat→QG)(hang:Rw Jn)(lo fo:Int):Kd (mkE Try.prog (J8 pb (opO ⟨d,⟨0,s⟩,hang,lo,fo⟩ []))) (hnd (mkE Try.prog (J8 pb (opO ⟨d,⟨0,s⟩,hang,lo,fo⟩ []))) 8) Try.f25 (QU.vals 0 ((⟨d,⟨0,s⟩,hang,lo,fo⟩,()):QE×Unit)) (QU.blks 0 ((⟨d,⟨0,s⟩,hang,lo,fo⟩,()):QE×Unit)) 8 =
  QC.need (pb ([d.play.length = d.play.length, d.play.slack = d.play.slack, d.play.loose = d.play.loose, d.play.damp.lo = d.play.damp.lo, d.play.damp.hi = d.play.damp.hi, d.wide = d.wide, d.high = d.high, d.turn = d.turn, (0 : Nat) = (0 : Nat), d.ps.n = d.ps.n, Cap.of (0 : Nat) = Cap.of (0 : Nat), (0 : Nat) = (0 : Nat), (0 : Nat) = (0 : Nat), Cap.of (0 : Nat) = Cap.of (0 : Nat), (0 : Nat) = (0 : Nat), hang.n = hang.n, Cap.of (0 : Nat) = Cap.of (0 : Nat), lo = lo, fo = fo, d.ps.n ≤ d.ps.n, QD (28 : Nat) d.ps.n (fun i => QA.enc (d.ps.get i)) fun i => QA.enc (d.ps.get i), (0 : Nat) ≤ (0 : Nat), QD (28 : Nat) (0 : Nat) (fun i => QA.enc ((Rw.mk (0 : Nat) s).get i)) fun i => QA.enc ((Rw.mk (0 : Nat) s).get i), hang.n ≤ hang.n, QD (4 : Nat) hang.n (fun i => QA.enc (hang.get i)) fun i => QA.enc (hang.get i)])) (QC.br (true) (QC.br (decide (i64.wrap ((↑d.ps.n : Int) - (0 : Int)) > lo)) (QC.leaf (AV.tup [AV.nils, AV.nils, AV.int true i64 (0 : Int), AV.int true i64 (6 : Int)]) ([])) (QC.leaf (AV.tup [AV.nils, AV.nils, AV.int true i64 (1 : Int), AV.int true i64 (0 : Int)]) ([]))) (QC.need (false) (QC.fail ("scan.go:188")))) := by kernel_rfl
abbrev QKi:List Prop:=
  [x.d.play.length=x.d.play.length,x.d.play.slack=x.d.play.slack,x.d.play.loose=x.d.play.loose,x.d.play.damp.lo=x.d.play.damp.lo,x.d.play.damp.hi=x.d.play.damp.hi,
  x.d.wide=x.d.wide,x.d.high=x.d.high,x.d.turn=x.d.turn,0=0,x.d.ps.n=x.d.ps.n,cO=cO,0=0,x.scans.n=x.scans.n,cO=cO,0=0,x.hang.n =
  x.hang.n,cO=cO,x.lost=x.lost,x.foreign=x.foreign,x.d.ps.n≤x.d.ps.n,QD 28 x.d.ps.n (fun i=>QA.enc (x.d.ps.get i)) fun i=>QA.enc (x.d.ps.get i),
  x.scans.n≤x.scans.n,QD 28 x.scans.n (fun i=>QA.enc (x.scans.get i)) fun i=>QA.enc (x.scans.get i),x.hang.n≤x.hang.n,QD 4 x.hang.n (fun i=>QA.enc
  (x.hang.get i)) fun i=>QA.enc (x.hang.get i)]
abbrev QFq(x:QE):List Prop:=
  [0=0,0=0,0=0,0=0,0=0,0=0,0=0,0=0,0=0,0=0,0=0,0=0,([]:List MapEntry)=[],Hu (.int true .i64 0) noH fun i => .int false .i64 (QL [] i),
  LoopState.ready=LoopState.ready,(none:Option Code)=none,Array.mk [18]=Array.mk [18],(QT Try.f25 0).1=(QT Try.f25 0).1,(QT Try.f25 0).2=(QT Try.f25
  0).2,x.d.play.length=x.d.play.length,x.d.play.slack=x.d.play.slack,x.d.play.loose=x.d.play.loose,x.d.play.damp.lo=x.d.play.damp.lo,x.d.play.damp.hi=x.d.play.damp.hi,
  x.d.wide=x.d.wide,x.d.high=x.d.high,x.d.turn=x.d.turn,0=0,x.d.ps.n=x.d.ps.n,cO=cO,0=0,x.scans.n=x.scans.n,cO=cO,0=0,x.hang.n =
  x.hang.n,cO=cO,x.lost=x.lost,x.foreign=x.foreign,0=0,0=0,0=0,0=0,0=0,0=0,0=0,0=0,(0:Int)=0,0=0,0=0,0=0,0=0,(0:Int) =
  0,x.d.play.length=x.d.play.length,x.d.play.slack=x.d.play.slack,x.d.play.loose=x.d.play.loose,x.d.play.damp.lo=x.d.play.damp.lo,x.d.play.damp.hi=x.d.play.damp.hi,
  x.d.wide=x.d.wide,x.d.high=x.d.high,x.d.turn=x.d.turn,0=0,x.d.ps.n=x.d.ps.n,cO=cO,0=0,x.scans.n=x.scans.n,cO=cO,0=0,x.hang.n =
  x.hang.n,cO=cO,x.lost=x.lost,x.foreign=x.foreign,0=0,0=0,(0:Int)=0,0=0,0=0,(0:Int)=0,(0:Int)=0,false=false,0=0,0=0,Fn.func
  76=Fn.func 76,0=0,0=0,(0:Int)=0,0=0,0=0,0=0,0=0,Fn.func 77=Fn.func 77,0=0,0=0,0=0,0=0,0=0,0=0,0=0,0=0,0=0,0=0,0=0,0 =
  0,x.d.play.length=x.d.play.length,x.d.play.slack=x.d.play.slack,x.d.play.loose=x.d.play.loose,x.d.play.damp.lo=x.d.play.damp.lo,x.d.play.damp.hi=x.d.play.damp.hi,
  x.d.wide=x.d.wide,x.d.high=x.d.high,x.d.turn=x.d.turn,0=0,x.d.ps.n=x.d.ps.n,cO=cO,0=0,x.scans.n=x.scans.n,cO=cO,0=0,x.hang.n =
  x.hang.n,cO=cO,x.lost=x.lost,x.foreign=x.foreign,x.d.play.length=x.d.play.length,x.d.play.slack=x.d.play.slack,x.d.play.loose=x.d.play.loose,
  x.d.play.damp.lo=x.d.play.damp.lo,x.d.play.damp.hi=x.d.play.damp.hi,x.d.wide=x.d.wide,x.d.high=x.d.high,x.d.turn=x.d.turn,0=0,x.d.ps.n=x.d.ps.n,cO =
  cO,0=0,x.scans.n=x.scans.n,cO=cO,0=0,x.hang.n=x.hang.n,cO=cO,x.lost=x.lost,x.foreign=x.foreign,0=0,C.length=C.length,
  cO=cO,C.length=C.length,K0 2 C.length (fun i=>(QM C i).length) (fun i=>(QM C i).length) (fun i j=>QA.enc ((QM C i).getD j ⟨0,0⟩)) fun i j=>
  QA.enc ((QM C i).getD j ⟨0,0⟩),x.d.ps.n≤x.d.ps.n,QD 28 x.d.ps.n (fun i=>QA.enc (x.d.ps.get i)) fun i=>QA.enc (x.d.ps.get i),x.scans.n≤x.scans.n,QD 28
  x.scans.n (fun i=>QA.enc (x.scans.get i)) fun i=>QA.enc (x.scans.get i),x.hang.n≤x.hang.n,QD 4 x.hang.n (fun i=>QA.enc (x.hang.get i)) fun i=>QA.enc
  (x.hang.get i)]
noncomputable abbrev QJ8(f':List QB)(g':List QB):List (Nat×Blk):=
  [(241,.rowz true 56 [.int .i64,.int .i64] f'.length fun i=>QA.enc (f'.getD i ⟨0,0⟩)),(242,.rowz true 56 [.int .i64,.int .i64] g'.length fun i=>QA.enc (g'.getD i ⟨0,
  0⟩))]
theorem QT8(has':Int→Bool)(many':Int)(f' g':List QB):Kd (mkE Try.prog (YQ pb x C (trU x C (QT Try.f25 0).1 (QT Try.f25 0).2 [] noH 0 [] [] has' many' f' g'))) (hnd (mkE Try.prog (YQ pb x C (trU x C (QT Try.f25
  0).1 (QT Try.f25 0).2 [] noH 0 [] [] has' many' f' g'))) 8) Try.f25 (QU.vals 0 ((x,()):QE×Unit)) (QU.blks 0 ((x,()):QE×Unit)) 8 = .need (pb ((QKi x)))
  (.need (pb ((QFq C x))) (.br (many'==0) (.leaf (.tup [.nils,.nils,vj 0,vj 6]) ([])) (.leaf (.tup [.slz 241 0 f'.length cO,.slz 242 0 g'.length
  cO,vi many',vj 0]) ((QJ8 f' g'))))):=by kernel_rfl
theorem QRJ(has':Int→Bool)(many':Int)(f' g':List QB):Kd (mkE Try.prog (YQ pb x C (trV x C (QT Try.f25 0).1 (QT Try.f25 0).2 [] noH 0 [] [] has' many' f' g'))) (hnd (mkE Try.prog (YQ pb x C (trV x C (QT Try.f25
  0).1 (QT Try.f25 0).2 [] noH 0 [] [] has' many' f' g'))) 8) Try.f25 (QU.vals 0 ((x,()):QE×Unit)) (QU.blks 0 ((x,()):QE×Unit)) 8 = .need (pb ((QKi x)))
  (.need (pb ((QFq C x))) (.br (many'==0) (.leaf (.tup [.nils,.nils,vj 0,vj 6]) ([])) (.leaf (.tup [.slz 241 0 f'.length cO,.slz 242 0 g'.length
  cO,vi many',vj 0]) ((QJ8 f' g'))))):=by kernel_rfl
theorem QTG(f g:List QB)(m e':Int):QK 8 [(AV.tup [AV.nils,AV.nils,AV.int true i64 (0:Int),AV.int false i64 e])] ([]) (Kr 8 (Y8 f g m e') (Y7 f g))=(
  some [f.length=(0:Nat),g.length=(0:Nat),(0:Int)=m,e=e',f.length=(0:Nat),g.length=(0:Nat)]):=by kernel_rfl
theorem QVc(f g:List QB)(m e':Int):QK 8 [(AV.tup [AV.nils,AV.nils,AV.int true i64 (0:Int),AV.int true i64 (6:Int)])] ([]) (Kr 8 (Y8 f g m e') (Y7 f g))=(
  some [f.length=(0:Nat),g.length=(0:Nat),(0:Int)=m,(6:Int)=e',f.length=(0:Nat),g.length=(0:Nat)]):=by kernel_rfl
theorem QOo(f g:List QB)(m e':Int):QK 8 [(AV.tup [AV.nils,AV.nils,AV.int true i64 (1:Int),AV.int true i64 (0:Int)])] ([]) (Kr 8 (Y8 f g m e') (Y7 f g))=(
  some [f.length=(0:Nat),g.length=(0:Nat),(1:Int)=m,(0:Int)=e',f.length=(0:Nat),g.length=(0:Nat)]):=by kernel_rfl
theorem QQB(f g:List QB)(m e':Int):QK 8 [(AV.tup [AV.nils,AV.nils,AV.int true i64 (0:Int),AV.int true i64 (6:Int)])] ([]) (Kr 8 (Y8 f g m e') (Y7 f g))=(
  some [f.length=(0:Nat),g.length=(0:Nat),(0:Int)=m,(6:Int)=e',f.length=(0:Nat),g.length=(0:Nat)]):=by kernel_rfl
theorem QNL(many':Int)(f' g':List QB)(f g:List QB)(m e':Int):QK 8 [(AV.tup [AV.slz (241:Nat) (0:Nat) f'.length (Cap.of (0:Nat)),AV.slz (242:Nat) (0:Nat) g'.length (Cap.of (0:Nat)),AV.int false i64 many',AV.int true i64 (0:Int)])] ([((241:Nat),Blk.rowz true (56:Nat) [CK.int i64,CK.int i64] f'.length fun i=>QA.enc (f'.getD i (QB.mk (0:Int) (0:Int)))),((242:Nat),Blk.rowz true (56:Nat) [CK.int i64,CK.int i64] g'.length fun i=>QA.enc (g'.getD i (QB.mk (0:Int) (0:Int))))]) (Kr 8 (Y8 f g m e') (Y7 f g))=(
  some [(0:Nat)=(0:Nat),f'.length=f.length,Cap.of (0:Nat)=Cap.of (0:Nat),(0:Nat)=(0:Nat),g'.length=g.length,Cap.of (0:Nat)=Cap.of (0:Nat),many'=m,
  (0:Int)=e',f.length≤f'.length,QD (2:Nat) f.length (fun i=>QA.enc (f'.getD i (QB.mk (0:Int) (0:Int)))) fun i=>QA.enc (f.getD i (QB.mk (0:Int) (0 :
  Int))),g.length≤g'.length,QD (2:Nat) g.length (fun i=>QA.enc (g'.getD i (QB.mk (0:Int) (0:Int)))) fun i=>QA.enc (g.getD i (QB.mk (0:Int) (0:Int)))]):=by kernel_rfl
theorem QNe(f g:List QB)(m e':Int):QK 8 [(AV.tup [AV.nils,AV.nils,AV.int true i64 (0:Int),AV.int true i64 (6:Int)])] ([]) (Kr 8 (Y8 f g m e') (Y7 f g))=(
  some [f.length=(0:Nat),g.length=(0:Nat),(0:Int)=m,(6:Int)=e',f.length=(0:Nat),g.length=(0:Nat)]):=by kernel_rfl
theorem QPN(many':Int)(f' g':List QB)(f g:List QB)(m e':Int):QK 8 [(AV.tup [AV.slz (241:Nat) (0:Nat) f'.length (Cap.of (0:Nat)),AV.slz (242:Nat) (0:Nat) g'.length (Cap.of (0:Nat)),AV.int false i64 many',AV.int true i64 (0:Int)])] ([((241:Nat),Blk.rowz true (56:Nat) [CK.int i64,CK.int i64] f'.length fun i=>QA.enc (f'.getD i (QB.mk (0:Int) (0:Int)))),((242:Nat),Blk.rowz true (56:Nat) [CK.int i64,CK.int i64] g'.length fun i=>QA.enc (g'.getD i (QB.mk (0:Int) (0:Int))))]) (Kr 8 (Y8 f g m e') (Y7 f g))=(
  some [(0:Nat)=(0:Nat),f'.length=f.length,Cap.of (0:Nat)=Cap.of (0:Nat),(0:Nat)=(0:Nat),g'.length=g.length,Cap.of (0:Nat)=Cap.of (0:Nat),many'=m,
  (0:Int)=e',f.length≤f'.length,QD (2:Nat) f.length (fun i=>QA.enc (f'.getD i (QB.mk (0:Int) (0:Int)))) fun i=>QA.enc (f.getD i (QB.mk (0:Int) (0 :
  Int))),g.length≤g'.length,QD (2:Nat) g.length (fun i=>QA.enc (g'.getD i (QB.mk (0:Int) (0:Int)))) fun i=>QA.enc (g.getD i (QB.mk (0:Int) (0:Int)))]):=by kernel_rfl
def zk:Res TrS:=onT x (Qt x x.scans.n) trY x.scans.n [] (0,[],[]) noH
def JS:List QB×List QB×Int×Int:=match x.ok with
 | false=>([],[],0,1)
 | true=>match VB x with
  | true=>([],[],0,11)
  | false=>match zk x with
   | .stop s _ | .go s _=>match s.1==0 with
    | true=>([],[],0,6)
    | false=>(s.2.1,s.2.2,s.1,0)
def VP:WF (QE×Unit):=fun|(x,_)=>(decide (x.d.ps.n≤1000∧x.scans.n≤1000∧x.hang.n≤1000),Y8 (JS x).1 (JS x).2.1 (JS x).2.2.1 (JS x).2.2.2,Y7 (JS x).1 (JS x).2.1)
def QKo:FC:=wFC VP
theorem H5:WOk (VP (x,())).2.1 (VP (x,())).2.2:=⟨rfl,by simp[VP,Y7,Kf,Blk.own,Blk.all],rfl⟩
theorem QJp(ht:QQ Try.prog 49 (uFC (opE x e)))(he:e≠0)(hv:JS x=([],[],0,e)):QQ Try.prog 25 (wFC (XO VP (x,()))):=by
 have hT:QV (J8 Qn (opE x e)):=KR.add ht;refine Wb (c:=Qr Try.f25) (E:=mkE Try.prog (J8 Qn (opE x e))) (H:=hnd (mkE Try.prog (J8 Qn (opE x e))) 1) (QS hT) Try.func25 (by kernel_rfl) (by kernel_rfl) (N:=8) (by decide) (x,()) (fun G h1 _=>Q3 (QS hT) 1 G _ h1) (H5 x) ?_
 refine KB (QNp Qn x e) ?_;refine QF (JB.2 ?_) (QI (fun _ => ?_) (fun h=>by simp at h;exact absurd h he))
 ·repeat' first|with_reducible refine QO ?_ ?_|exact trivial|with_reducible rfl|exact qlr _|exact qRr|exact Qh _ _ _ _|refine And.intro ?_ ?_
 ·simp only[VP,hv];refine⟨rfl,rfl,_,QTG e [] [] 0 e,?_⟩
  repeat' first|with_reducible refine QO ?_ ?_|exact trivial|with_reducible rfl|exact qlr _|exact qRr|exact Qh _ _ _ _|exact rfl|refine And.intro ?_ ?_
theorem QTL(hs:ZH x)(hx:x.ok=true)(hr:VB x=false)(hpos:0<x.scans.n):QQ Try.prog 25 (wFC (XO VP (x,()))):=by
 have hg:=YF hx;have hC:=QLH (x:=x) hg.d.n9;have hon:=QKs hg hC hpos x.scans.n [] (0,[],[]) noH (by simp) (fun c hc=>by cases hc)
 cases he:onT x (Qt x x.scans.n) trY x.scans.n [] (0,[],[]) noH with
 | go s h=>
  rw[he]at hon;have hT:QV (YQ Qn x (Qt x x.scans.n) (trU x (Qt x x.scans.n) Jw Jx [] noH 0 [] [] h s.1 s.2.1 s.2.2)):=(KR.add (Ha x hs hx hr)).add hon
  have hv:JS x=match s.1==0 with
    | true=>([],[],0,6)
    | false=>(s.2.1,s.2.2,s.1,0):=by
   simp only[JS,hx,hr,zk,he]
  refine Wb (c:=Qr Try.f25) (E:=mkE Try.prog (YQ Qn x (Qt x x.scans.n) (trU x (Qt x x.scans.n) Jw Jx [] noH 0 [] [] h s.1 s.2.1 s.2.2))) (H:=hnd (mkE Try.prog (YQ Qn x (Qt x x.scans.n) (trU x (Qt x x.scans.n) Jw Jx [] noH 0 [] [] h s.1 s.2.1 s.2.2))) 8) (QS hT) Try.func25 (by kernel_rfl) (by kernel_rfl) (N:=8) (by decide) (x,()) (fun G h1 _=>Q3 (QS hT) 8 G _ h1) (H5 x) ?_
  refine KB (QT8 Qn x (Qt x x.scans.n) h s.1 s.2.1 s.2.2) ?_;refine QF (JB.2 ?_) (QF (JB.2 ?_) (QI (fun q => ?_) (fun q => ?_)))
  ·repeat' first|with_reducible refine QO ?_ ?_|exact trivial|with_reducible rfl|exact qlr _|exact qRr|exact Qh _ _ _ _|refine And.intro ?_ ?_
  ·repeat' first|with_reducible refine QO ?_ ?_|exact trivial|with_reducible rfl|exact qlr _|exact qRr|exact Qh _ _ _ _|exact QCr _|exact rfl|refine And.intro ?_ ?_
  ·simp only[VP,hv,q];refine⟨rfl,rfl,_,QQB [] [] 0 6,?_⟩
   repeat' first|with_reducible refine QO ?_ ?_|exact trivial|with_reducible rfl|exact qlr _|exact qRr|exact Qh _ _ _ _|exact rfl|refine And.intro ?_ ?_
  ·simp only[VP,hv,q];refine⟨rfl,rfl,_,QNL s.1 s.2.1 s.2.2 s.2.1 s.2.2 s.1 0,?_⟩
   repeat' first|with_reducible refine QO ?_ ?_|exact trivial|with_reducible rfl|exact qlr _|exact qRr|exact Qh _ _ _ _|exact rfl|refine And.intro ?_ ?_
 | stop s h=>
  rw[he]at hon;have hT:QV (YQ Qn x (Qt x x.scans.n) (trV x (Qt x x.scans.n) Jw Jx [] noH 0 [] [] h s.1 s.2.1 s.2.2)):=(KR.add (Ha x hs hx hr)).add hon
  have hv:JS x=match s.1==0 with
    | true=>([],[],0,6)
    | false=>(s.2.1,s.2.2,s.1,0):=by
   simp only[JS,hx,hr,zk,he]
  refine Wb (c:=Qr Try.f25) (E:=mkE Try.prog (YQ Qn x (Qt x x.scans.n) (trV x (Qt x x.scans.n) Jw Jx [] noH 0 [] [] h s.1 s.2.1 s.2.2))) (H:=hnd (mkE Try.prog (YQ Qn x (Qt x x.scans.n) (trV x (Qt x x.scans.n) Jw Jx [] noH 0 [] [] h s.1 s.2.1 s.2.2))) 8) (QS hT) Try.func25 (by kernel_rfl) (by kernel_rfl) (N:=8) (by decide) (x,()) (fun G h1 _=>Q3 (QS hT) 8 G _ h1) (H5 x) ?_
  refine KB (QRJ Qn x (Qt x x.scans.n) h s.1 s.2.1 s.2.2) ?_;refine QF (JB.2 ?_) (QF (JB.2 ?_) (QI (fun q => ?_) (fun q => ?_)))
  ·repeat' first|with_reducible refine QO ?_ ?_|exact trivial|with_reducible rfl|exact qlr _|exact qRr|exact Qh _ _ _ _|refine And.intro ?_ ?_
  ·repeat' first|with_reducible refine QO ?_ ?_|exact trivial|with_reducible rfl|exact qlr _|exact qRr|exact Qh _ _ _ _|exact QCr _|exact rfl|refine And.intro ?_ ?_
  ·simp only[VP,hv,q];refine⟨rfl,rfl,_,QNe [] [] 0 6,?_⟩
   repeat' first|with_reducible refine QO ?_ ?_|exact trivial|with_reducible rfl|exact qlr _|exact qRr|exact Qh _ _ _ _|exact rfl|refine And.intro ?_ ?_
  ·simp only[VP,hv,q];refine⟨rfl,rfl,_,QPN s.1 s.2.1 s.2.2 s.2.1 s.2.2 s.1 0,?_⟩
   repeat' first|with_reducible refine QO ?_ ?_|exact trivial|with_reducible rfl|exact qlr _|exact qRr|exact Qh _ _ _ _|exact rfl|refine And.intro ?_ ?_
theorem QUm(d:Puz)(sc:Nat→QG)(hang:Rw Jn)(lo fo:Int)(hs:ZH ⟨d,⟨0,sc⟩,hang,lo,fo⟩)(hx:(QE.mk d ⟨0,sc⟩ hang lo fo).ok=true)(hr:VB ⟨d,⟨0,sc⟩,hang,lo,fo⟩=false):QQ Try.prog 25 (wFC (XO VP (⟨d,⟨0,sc⟩,hang,lo,fo⟩,()))):=by
 have hd:=hs.d;have hd:d.ps.n≤1000:=hd;have hT:QV (J8 Qn (opO ⟨d,⟨0,sc⟩,hang,lo,fo⟩ [])):=KR.add (Ha ⟨d,⟨0,sc⟩,hang,lo,fo⟩ hs hx hr);have hw:i64.wrap ((d.ps.n:Int)-0)=d.ps.n:=(w64 (by omega) (by omega)).trans (by omega)
 have hv:JS ⟨d,⟨0,sc⟩,hang,lo,fo⟩=match decide ((d.ps.n:Int)>lo)with
   | true=>([],[],0,6)
   | false=>([],[],1,0):=by
  simp only[JS,hx,hr,zk,onT,Vv,Yl];simp only[show(d.ps.n:Int)-((([]:List QB).length:Int)-QL [] (-2))=d.ps.n by simp[QL]]
  cases decide ((d.ps.n:Int)>lo)<;>rfl
 refine Wb (c:=Qr Try.f25) (E:=mkE Try.prog (J8 Qn (opO ⟨d,⟨0,sc⟩,hang,lo,fo⟩ []))) (H:=hnd (mkE Try.prog (J8 Qn (opO ⟨d,⟨0,sc⟩,hang,lo,fo⟩ []))) 8) (QS hT) Try.func25 (by kernel_rfl) (by kernel_rfl) (N:=8) (by decide) (⟨d,⟨0,sc⟩,hang,lo,fo⟩,()) (fun G h1 _=>Q3 (QS hT) 8 G _ h1) (H5 _) ?_
 refine KB (QPJ Qn d sc hang lo fo) ?_;refine QF (JB.2 ?_) (QI (fun _=>QI (fun q => ?_) (fun q => ?_)) (fun q=>by cases q))
 ·repeat' first|with_reducible refine QO ?_ ?_|exact trivial|with_reducible rfl|exact qlr _|exact qRr|exact Qh _ _ _ _|refine And.intro ?_ ?_
 ·rw[hw]at q;simp only[VP,hv,q];refine⟨rfl,rfl,_,QVc [] [] 0 6,?_⟩
  repeat' first|with_reducible refine QO ?_ ?_|exact trivial|with_reducible rfl|exact qlr _|exact qRr|exact Qh _ _ _ _|exact rfl|refine And.intro ?_ ?_
 ·rw[hw]at q;simp only[VP,hv,q];refine⟨rfl,rfl,_,QOo [] [] 1 0,?_⟩
  repeat' first|with_reducible refine QO ?_ ?_|exact trivial|with_reducible rfl|exact qlr _|exact qRr|exact Qh _ _ _ _|exact rfl|refine And.intro ?_ ?_
theorem QOu(hx:(VP (x,())).1=true):QQ Try.prog 25 (wFC (XO VP (x,()))):=by
 obtain⟨h1,h2,h3⟩:=qdt hx;have hs:ZH x:=⟨h1,h2,h3⟩;cases ho:x.ok with
 | false=>exact QJp x 1 (QJQ x hs ho) (by decide) (by simp only[JS,ho])
 | true=>cases hr:VB x with
  | true=>exact QJp x 11 (QHf x hs ho hr) (by decide) (by simp only[JS,ho,hr])
  | false=>
   by_cases hp:0<x.scans.n
   ·exact QTL x hs ho hr hp
   ·obtain⟨d,⟨n,sc⟩,hang,lo,fo⟩:=x;obtain rfl:n=0:=by simp only at hp;omega
    exact QUm d sc hang lo fo hs ho hr
theorem QRh:QQ Try.prog 25 QKo:=QDC (by kernel_rfl) fun|(x,()),hx=>QOu x hx
def QLo(b:Nat)(f:Nat→Int)(k:Nat):Nat×Blk:=(b,.rowz true 3 [.int .i64] k fun i _=>f i)
def Vi(k:Nat):JSt:=⟨42,[(2,.slz 440 0 k (.of 0)),(6,.ptr 368 0 0),(27,.int false .i64 n),(28,.int false .i64 k)],[(368,.cells 1 95 (WY f)),QLo 440 f k],448⟩
def QEm:JSt:=⟨42,[(2,.slz 440 0 n (.of 0)),(6,.ptr 368 0 0)],[(368,.cells 1 95 (WY f)),QLo 440 f n],448⟩
def QH7:Ex→List Nat
 | .normal=>[2,6,27,28]
 | .exit _=>[2,6]
 | .ret=>[]
def G3(f:List Int)(a e:Int):AV := .tup [.slz 0 0 f.length (.of 0),.int false .i64 a,.int false .i64 e]
noncomputable abbrev Xj:List AV:=
  [.nilp,.ptr 42 0 0,.slz 520 0 (k+1) cO,.ptr 368 0 0,vi (n:Int),vi (i64.wrap ((k:Int)+1))]
noncomputable abbrev JH:Nat×Blk:=
  (368,.cells 1 95 [vi (f 0),vi (f 1),vi (f 2),vi (f 3),vi (f 4),vi (f 5),vi (f 6),
  .int false .i64 (f 7),vi (f 8),vi (f 9),vi (f 10),vi (f 11),vi (f 12)])
noncomputable abbrev QHV:List (Nat×Blk):=
  [(520,.rowz true 3 [.int .i64] (k+1) (QX k (fun i x=>f i) (QR [[vi (f 10)]] 0))),(JH f)]
noncomputable abbrev QJN:List (Nat×Blk):=
  [(520,.rowz true 3 [.int .i64] (k+1) (QX k (fun i x=>f i) (QR [[vi (f 11)]] 0))),(JH f)]
theorem QOP(n k:Nat)(g:Nat→Value):exec (mkF Try.prog Q8) (hnd (mkF Try.prog Q8) 3) (Qa Try.f20 0) (JSt.inst (Vi f n k) g) (KL [] QH7) = .br (decide ((k:Int)<(n:Int))) (.need (decide ((0 :
  Int)≤(k:Int)∧(k:Int)<12)) (.br (decide ((k:Int)=0)) (.need (decide (k≤k)&&(true&&decide ((k+1+(k+1) / 4+192)*8≤281474976710656∧k+1 ≤
  9223372036854775807))) (.leaf (.tup (Xj k n)) ([(520,.rowz true 3 [.int .i64] (k+1) (QX k (fun i x=>f i) (QR [[vi (f 0)]] 0))),(JH f)]))) (.br (decide
  ((k:Int)=1)) (.need (decide (k≤k)&&(true&&decide ((k+1+(k+1) / 4+192)*8≤281474976710656∧k+1≤9223372036854775807))) (.leaf (.tup (Xj k n)) ([(520,.rowz
  true 3 [.int .i64] (k+1) (QX k (fun i x=>f i) (QR [[vi (f 1)]] 0))),(JH f)]))) (.br (decide ((k:Int)=2)) (.need (decide (k≤k)&&(true&&decide ((k +
  1+(k+1) / 4+192)*8≤281474976710656∧k+1≤9223372036854775807))) (.leaf (.tup (Xj k n)) ([(520,.rowz true 3 [.int .i64] (k+1) (QX k (fun i x=>f i) (QR
  [[vi (f 2)]] 0))),(JH f)]))) (.br (decide ((k:Int)=3)) (.need (decide (k≤k)&&(true&&decide ((k+1+(k+1) / 4+192)*8≤281474976710656∧k+1 ≤
  9223372036854775807))) (.leaf (.tup (Xj k n)) ([(520,.rowz true 3 [.int .i64] (k+1) (QX k (fun i x=>f i) (QR [[vi (f 3)]] 0))),(JH f)]))) (.br (decide
  ((k:Int)=4)) (.need (decide (k≤k)&&(true&&decide ((k+1+(k+1) / 4+192)*8≤281474976710656∧k+1≤9223372036854775807))) (.leaf (.tup (Xj k n)) ([(520,.rowz
  true 3 [.int .i64] (k+1) (QX k (fun i x=>f i) (QR [[vi (f 4)]] 0))),(JH f)]))) (.br (decide ((k:Int)=5)) (.need (decide (k≤k)&&(true&&decide ((k +
  1+(k+1) / 4+192)*8≤281474976710656∧k+1≤9223372036854775807))) (.leaf (.tup (Xj k n)) ([(520,.rowz true 3 [.int .i64] (k+1) (QX k (fun i x=>f i) (QR
  [[vi (f 5)]] 0))),(JH f)]))) (.br (decide ((k:Int)=6)) (.need (decide (k≤k)&&(true&&decide ((k+1+(k+1) / 4+192)*8≤281474976710656∧k+1 ≤
  9223372036854775807))) (.leaf (.tup (Xj k n)) ([(520,.rowz true 3 [.int .i64] (k+1) (QX k (fun i x=>f i) (QR [[vi (f 6)]] 0))),(JH f)]))) (.br (decide
  ((k:Int)=7)) (.need (decide (k≤k)&&(true&&decide ((k+1+(k+1) / 4+192)*8≤281474976710656∧k+1≤9223372036854775807))) (.leaf (.tup (Xj k n)) ([(520,.rowz
  true 3 [.int .i64] (k+1) (QX k (fun i x=>f i) (QR [[vi (f 7)]] 0))),(JH f)]))) (.br (decide ((k:Int)=8)) (.need (decide (k≤k)&&(true&&decide ((k +
  1+(k+1) / 4+192)*8≤281474976710656∧k+1≤9223372036854775807))) (.leaf (.tup (Xj k n)) ([(520,.rowz true 3 [.int .i64] (k+1) (QX k (fun i x=>f i) (QR
  [[vi (f 8)]] 0))),(JH f)]))) (.br (decide ((k:Int)=9)) (.need (decide (k≤k)&&(true&&decide ((k+1+(k+1) / 4+192)*8≤281474976710656∧k+1 ≤
  9223372036854775807))) (.leaf (.tup (Xj k n)) ([(520,.rowz true 3 [.int .i64] (k+1) (QX k (fun i x=>f i) (QR [[vi (f 9)]] 0))),(JH f)]))) (.br (decide
  ((k:Int)=10)) (.need (decide (k≤k)&&(true&&decide ((k+1+(k+1) / 4+192)*8≤281474976710656∧k+1≤9223372036854775807))) (.leaf (.tup (Xj k n)) ((QHV f
  k)))) (.need (decide (k≤k)&&(true&&decide ((k+1+(k+1) / 4+192)*8≤281474976710656∧k+1≤9223372036854775807))) (.leaf (.tup (Xj k n)) ((QJN f
  k)))))))))))))))) (.leaf (.tup [.ptr 0 0 0,.ptr 42 0 0,.slz 440 0 k cO,.ptr 368 0 0]) ([(440,.rowz true 3 [.int .i64] k fun i x=>f i),(JH f)])):=by kernel_rfl
theorem QVG:Kd (mkE Try.prog (J8 pb (opE x e))) (hnd (mkE Try.prog (J8 pb (opE x e))) 1) Try.f20 (QU.vals 0 ((x,()):QE×Unit)) (QU.blks 0 ((x,()):QE×Unit)) 8 =
  QC.need (pb ([x.d.play.length = x.d.play.length, x.d.play.slack = x.d.play.slack, x.d.play.loose = x.d.play.loose, x.d.play.damp.lo = x.d.play.damp.lo, x.d.play.damp.hi = x.d.play.damp.hi, x.d.wide = x.d.wide, x.d.high = x.d.high, x.d.turn = x.d.turn, (0 : Nat) = (0 : Nat), x.d.ps.n = x.d.ps.n, Cap.of (0 : Nat) = Cap.of (0 : Nat), (0 : Nat) = (0 : Nat), x.scans.n = x.scans.n, Cap.of (0 : Nat) = Cap.of (0 : Nat), (0 : Nat) = (0 : Nat), x.hang.n = x.hang.n, Cap.of (0 : Nat) = Cap.of (0 : Nat), x.lost = x.lost, x.foreign = x.foreign, x.d.ps.n ≤ x.d.ps.n, QD (28 : Nat) x.d.ps.n (fun i => QA.enc (x.d.ps.get i)) fun i => QA.enc (x.d.ps.get i), x.scans.n ≤ x.scans.n, QD (28 : Nat) x.scans.n (fun i => QA.enc (x.scans.get i)) fun i => QA.enc (x.scans.get i), x.hang.n ≤ x.hang.n, QD (4 : Nat) x.hang.n (fun i => QA.enc (x.hang.get i)) fun i => QA.enc (x.hang.get i)])) (QC.br (e != (0 : Int)) (QC.leaf (AV.tup [AV.nils, AV.int true i64 (0 : Int), AV.int false i64 e]) ([])) (QC.fail ("a call without a contract"))) := by kernel_rfl
def vd(U:UC):Tab:=Qb (J8 pb (opO x C)) 77 (Vf pb U)
abbrev QBe(P:Program)(T:Tab)(f:Nat→Int)(n:Nat):Hnd:={ hnd (mkE P T) 8 with loop:=fun _=>KF 8 [] (Vi f n (0:Nat)) [(True,.exit 0,QEm f n)] }
theorem QPQ(x:QE)(C:List (List QB))(has':Int→Bool)(many':Int)(f':Nat→Int):Kd (mkE Try.prog (vd pb x C (plU x C (QT Try.f50 0).1 (QT Try.f50 0).2 [] noH 0 (fun _=>0) has' many' f'))) (QBe Try.prog (vd pb x C (plU x C (QT Try.f50
  0).1 (QT Try.f50 0).2 [] noH 0 (fun _=>0) has' many' f')) f' x.scans.n) Try.f20 (QU.vals 0 ((x,()):QE×Unit)) (QU.blks 0 ((x,()):QE×Unit)) 8 = .need (pb
  ([x.d.play.length=x.d.play.length,x.d.play.slack=x.d.play.slack,x.d.play.loose=x.d.play.loose,x.d.play.damp.lo=x.d.play.damp.lo,x.d.play.damp.hi=x.d.play.damp.hi,
  x.d.wide=x.d.wide,x.d.high=x.d.high,x.d.turn=x.d.turn,0=0,x.d.ps.n=x.d.ps.n,cO=cO,0=0,x.scans.n=x.scans.n,cO=cO,0=0,x.hang.n =
  x.hang.n,cO=cO,x.lost=x.lost,x.foreign=x.foreign,x.d.ps.n≤x.d.ps.n,QD 28 x.d.ps.n (fun i=>QA.enc (x.d.ps.get i)) fun i=>QA.enc (x.d.ps.get i),
  x.scans.n≤x.scans.n,QD 28 x.scans.n (fun i=>QA.enc (x.scans.get i)) fun i=>QA.enc (x.scans.get i),x.hang.n≤x.hang.n,QD 4 x.hang.n (fun i=>QA.enc
  (x.hang.get i)) fun i=>QA.enc (x.hang.get i)])) (.need (pb ([0=0,0=0,0=0,0=0,0=0,0=0,0=0,0=0,0=0,0=0,0=0,0=0,([]:List MapEntry)=[],
  Hu (.int true .i64 0) noH fun i => .int false .i64 (QL [] i),LoopState.ready=LoopState.ready,(none:Option Code)=none,Array.mk [12]=Array.mk [12],(QT Try.f50
  0).1=(QT Try.f50 0).1,(QT Try.f50 0).2=(QT Try.f50 0).2,0=0,0=0,(0:Int)=0,(0:Int)=0,(0:Int)=0,(0:Int)=0,(0:Int)=0,(0:Int)=0,(0
  : Int)=0,(0:Int)=0,(0:Int)=0,(0:Int)=0,(0:Int)=0,(0:Int)=0,(0:Int)=0,Fn.func 51=Fn.func 51,0=0,0=0,0=0,0=0,0=0,0=0,false =
  false,0=0,0=0,0=0,0=0,Fn.func 76=Fn.func 76,0=0,0=0,(0:Int)=0,(0:Int)=0,(0:Int)=0,(0:Int)=0,(0:Int)=0,(0:Int)=0,(0:Int)=0,(0
  : Int)=0,(0:Int)=0,(0:Int)=0,(0:Int)=0,(0:Int)=0,(0:Int)=0,(0:Int)=0,Fn.func 77=Fn.func 77,0=0,0=0,0=0,0=0,0=0,0=0,0=0,0 =
  0,0=0,0=0,0=0,0=0,Fn.func 51=Fn.func 51,x.d.play.length=x.d.play.length,x.d.play.slack=x.d.play.slack,x.d.play.loose=x.d.play.loose,x.d.play.damp.lo =
  x.d.play.damp.lo,x.d.play.damp.hi=x.d.play.damp.hi,x.d.wide=x.d.wide,x.d.high=x.d.high,x.d.turn=x.d.turn,0=0,x.d.ps.n=x.d.ps.n,cO=cO,0=0,
  x.scans.n=x.scans.n,cO=cO,0=0,x.hang.n=x.hang.n,cO=cO,x.lost=x.lost,x.foreign=x.foreign,0=0,C.length=C.length,cO=cO,
  C.length=C.length,K0 2 C.length (fun i=>(QM C i).length) (fun i=>(QM C i).length) (fun i j=>QA.enc ((QM C i).getD j ⟨0,0⟩)) fun i j=>QA.enc ((QM C
  i).getD j ⟨0,0⟩),x.d.ps.n≤x.d.ps.n,QD 28 x.d.ps.n (fun i=>QA.enc (x.d.ps.get i)) fun i=>QA.enc (x.d.ps.get i),x.scans.n≤x.scans.n,QD 28 x.scans.n (fun i=>
  QA.enc (x.scans.get i)) fun i=>QA.enc (x.scans.get i),x.hang.n≤x.hang.n,QD 4 x.hang.n (fun i=>QA.enc (x.hang.get i)) fun i=>QA.enc (x.hang.get i)])) (.br
  (!decide (many'>0)) (.leaf (.tup [.nils,vj 0,vj 6]) ([])) (.ask (0=0) (.ask (0=0) (.ask (0=0) (.ask ((x.scans.n:Int)=(x.scans.n:Int)) (.ask
  ((0:Int)=0) (.ask (f' 0=f' 0) (.ask (f' 1=f' 1) (.ask (f' 2=f' 2) (.ask (f' 3=f' 3) (.ask (f' 4=f' 4) (.ask (f' 5=f' 5) (.ask (f' 6=f' 6) (.ask (f' 7=f' 7) (.ask
  (f' 8=f' 8) (.ask (f' 9=f' 9) (.ask (f' 10=f' 10) (.ask (f' 11=f' 11) (.ask (f' 12=f' 12) (.ask (0=0) (.asm (True) (.all (fun(g0:Nat→Value) => .leaf (.tup [.slz 440
  0 x.scans.n cO,vi (f' 12),vj 0]) ([(440,.rowz true 3 [.int .i64] x.scans.n fun i x=>f' i)]))))))))))))))))))))))))):=by kernel_rfl
noncomputable abbrev Xg:List AV:=
  [.slz 520 0 (k+1) cO,.ptr 368 0 0,vi (n:Int),vi (i64.wrap ((k:Int)+1))]
abbrev Xc:List Prop:=
  [0=0,k+1=k',cO=cO,0=0,0=0,(n:Int)=(n:Int),i64.wrap ((k:Int)+1)=(k':Int),f 0=f 0,f 1=f 1,f 2=f 2,f 3=f 3,f 4=f 4,f
  5=f 5,f 6=f 6,f 7=f 7,f 8=f 8,f 9=f 9,f 10=f 10,f 11=f 11,f 12=f 12]
theorem QQx(n k k':Nat):QK 8 (Xg k n) ([(520,.rowz true 3 [.int .i64] (k+1) (QX k (fun i x=>f i) (QR [[vi (f 0)]] 0))),(JH f)]) (Vi f n k')=(some ((Xc f k k' n)++[k'
  ≤ k+1,QD 1 k' (QX k (fun i x=>f i) (QR [[vi (f 0)]] 0)) fun i x=>f i])):=by kernel_rfl
theorem QNj(n k k':Nat):QK 8 (Xg k n) ([(520,.rowz true 3 [.int .i64] (k+1) (QX k (fun i x=>f i) (QR [[vi (f 1)]] 0))),(JH f)]) (Vi f n k')=(some ((Xc f k k' n)++[k'
  ≤ k+1,QD 1 k' (QX k (fun i x=>f i) (QR [[vi (f 1)]] 0)) fun i x=>f i])):=by kernel_rfl
theorem QNo(n k k':Nat):QK 8 (Xg k n) ([(520,.rowz true 3 [.int .i64] (k+1) (QX k (fun i x=>f i) (QR [[vi (f 2)]] 0))),(JH f)]) (Vi f n k')=(some ((Xc f k k' n)++[k'
  ≤ k+1,QD 1 k' (QX k (fun i x=>f i) (QR [[vi (f 2)]] 0)) fun i x=>f i])):=by kernel_rfl
theorem QVI(n k k':Nat):QK 8 (Xg k n) ([(520,.rowz true 3 [.int .i64] (k+1) (QX k (fun i x=>f i) (QR [[vi (f 3)]] 0))),(JH f)]) (Vi f n k')=(some ((Xc f k k' n)++[k'
  ≤ k+1,QD 1 k' (QX k (fun i x=>f i) (QR [[vi (f 3)]] 0)) fun i x=>f i])):=by kernel_rfl
theorem QQo(n k k':Nat):QK 8 (Xg k n) ([(520,.rowz true 3 [.int .i64] (k+1) (QX k (fun i x=>f i) (QR [[vi (f 4)]] 0))),(JH f)]) (Vi f n k')=(some ((Xc f k k' n)++[k'
  ≤ k+1,QD 1 k' (QX k (fun i x=>f i) (QR [[vi (f 4)]] 0)) fun i x=>f i])):=by kernel_rfl
theorem QS5(n k k':Nat):QK 8 (Xg k n) ([(520,.rowz true 3 [.int .i64] (k+1) (QX k (fun i x=>f i) (QR [[vi (f 5)]] 0))),(JH f)]) (Vi f n k')=(some ((Xc f k k' n)++[k'
  ≤ k+1,QD 1 k' (QX k (fun i x=>f i) (QR [[vi (f 5)]] 0)) fun i x=>f i])):=by kernel_rfl
theorem QUF(n k k':Nat):QK 8 (Xg k n) ([(520,.rowz true 3 [.int .i64] (k+1) (QX k (fun i x=>f i) (QR [[vi (f 6)]] 0))),(JH f)]) (Vi f n k')=(some ((Xc f k k' n)++[k'
  ≤ k+1,QD 1 k' (QX k (fun i x=>f i) (QR [[vi (f 6)]] 0)) fun i x=>f i])):=by kernel_rfl
theorem QWh(n k k':Nat):QK 8 (Xg k n) ([(520,.rowz true 3 [.int .i64] (k+1) (QX k (fun i x=>f i) (QR [[vi (f 7)]] 0))),(JH f)]) (Vi f n k')=(some ((Xc f k k' n)++[k'
  ≤ k+1,QD 1 k' (QX k (fun i x=>f i) (QR [[vi (f 7)]] 0)) fun i x=>f i])):=by kernel_rfl
theorem QSh(n k k':Nat):QK 8 (Xg k n) ([(520,.rowz true 3 [.int .i64] (k+1) (QX k (fun i x=>f i) (QR [[vi (f 8)]] 0))),(JH f)]) (Vi f n k')=(some ((Xc f k k' n)++[k'
  ≤ k+1,QD 1 k' (QX k (fun i x=>f i) (QR [[vi (f 8)]] 0)) fun i x=>f i])):=by kernel_rfl
theorem QRF(n k k':Nat):QK 8 (Xg k n) ([(520,.rowz true 3 [.int .i64] (k+1) (QX k (fun i x=>f i) (QR [[vi (f 9)]] 0))),(JH f)]) (Vi f n k')=(some ((Xc f k k' n)++[k'
  ≤ k+1,QD 1 k' (QX k (fun i x=>f i) (QR [[vi (f 9)]] 0)) fun i x=>f i])):=by kernel_rfl
theorem QO5(n k k':Nat):QK 8 (Xg k n) ((QHV f k)) (Vi f n k')=(some ((Xc f k k' n)++[k'≤k+1,QD 1 k' (QX k (fun i x=>f i) (QR [[vi (f 10)]] 0)) fun i x=>f i])):=by kernel_rfl
theorem QRf(n k k':Nat):QK 8 (Xg k n) ((QJN f k)) (Vi f n k')=(some ((Xc f k k' n)++[k'≤k+1,QD 1 k' (QX k (fun i x=>f i) (QR [[vi (f 11)]] 0)) fun i x=>f i])):=by kernel_rfl
theorem QWY(n k:Nat):QK 8 [AV.slz (440:Nat) (0:Nat) k (Cap.of (0:Nat)),AV.ptr (368:Nat) (0:Nat) (0:Nat)] ([((440:Nat),Blk.rowz true (3:Nat) [CK.int i64] k fun i x=>f i),((368:Nat),Blk.cells (1:Nat) (95:Nat) [AV.int false i64 (f (0:Nat)),AV.int false i64 (f (1:Nat)),AV.int false i64 (f (2:Nat)),AV.int false i64 (f (3:Nat)),AV.int false i64 (f (4:Nat)),AV.int false i64 (f (5:Nat)),AV.int false i64 (f (6:Nat)),AV.int false i64 (f (7:Nat)),AV.int false i64 (f (8:Nat)),AV.int false i64 (f (9:Nat)),AV.int false i64 (f (10:Nat)),AV.int false i64 (f (11:Nat)),AV.int false i64 (f (12:Nat))])]) (QEm f n)=(
  some [(0:Nat)=(0:Nat),k=n,Cap.of (0:Nat)=Cap.of (0:Nat),(0:Nat)=(0:Nat),(0:Nat)=(0:Nat),f (0:Nat)=f (0:Nat),f (1:Nat)=f (1:Nat),f (2 :
  Nat)=f (2:Nat),f (3:Nat)=f (3:Nat),f (4:Nat)=f (4:Nat),f (5:Nat)=f (5:Nat),f (6:Nat)=f (6:Nat),f (7:Nat)=f (7:Nat),f (8:Nat)=f (8:Nat),
  f (9:Nat)=f (9:Nat),f (10:Nat)=f (10:Nat),f (11:Nat)=f (11:Nat),f (12:Nat)=f (12:Nat),n≤k,QD (1:Nat) n (fun i x=>f i) fun i x=>f i]):=by kernel_rfl
theorem QUt(f:List Int)(a e':Int):QK 8 [(AV.tup [AV.nils,AV.int true i64 (0:Int),AV.int false i64 e])] ([]) (Kr 8 (G3 f a e') [Kf 3 0 f 0])=(
  some [f.length=(0:Nat),(0:Int)=a,e=e',f.length=(0:Nat)]):=by kernel_rfl
theorem QRz(f:List Int)(a e':Int):QK 8 [(AV.tup [AV.nils,AV.int true i64 (0:Int),AV.int true i64 (6:Int)])] ([]) (Kr 8 (G3 f a e') [Kf 3 0 f 0])=(
  some [f.length=(0:Nat),(0:Int)=a,(6:Int)=e',f.length=(0:Nat)]):=by kernel_rfl
theorem QUh(x:QE)(f':Nat→Int)(f:List Int)(a e':Int):QK 8 [(AV.tup [AV.slz (440:Nat) (0:Nat) x.scans.n (Cap.of (0:Nat)),AV.int false i64 (f' (12:Nat)),AV.int true i64 (0:Int)])] ([((440:Nat),Blk.rowz true (3:Nat) [CK.int i64] x.scans.n fun i x=>f' i)]) (Kr 8 (G3 f a e') [Kf 3 0 f 0])=(
  some [(0:Nat)=(0:Nat),x.scans.n=f.length,Cap.of (0:Nat)=Cap.of (0:Nat),f' (12:Nat)=a,(0:Int)=e',f.length≤x.scans.n,QD (1:Nat) f.length (fun i x
  => f' i) fun i=>QA.enc (f.getD i (0:Int))]):=by kernel_rfl
theorem XZ:QD 1 (k+1) (QX k (fun i _=>f i) (QR [[.int false .i64 (f k)]] 0)) (fun i _=>f i):=by
 intro i hi;show eqF 1 0 (QX k (fun i _=>f i) (QR [[.int false .i64 (f k)]] 0) i) (fun _=>f i)
 by_cases h:i<k
 ·have e2:QX k (fun i _=>f i) (QR [[.int false .i64 (f k)]] 0) i=fun _=>f i:=by funext j;rw[XI,if_pos h]
  rw[e2];exact zQ _ _ _
 ·have q:i=k:=by omega
  subst q;have e2:QX i (fun i _=>f i) (QR [[.int false .i64 (f i)]] 0) i=QR [[.int false .i64 (f i)]] 0 0:=by funext j;rw[XI,if_neg h,Nat.sub_self]
  rw[e2];exact⟨rfl,trivial⟩
theorem QRe(hn:n≤12):JW (fun k=>Vi f n k) (fun k=>k≤n) (fun k=>n-k) (fun _ e J=>e = .exit 0∧J=QEm f n) 8 QH7 [] (mkF Try.prog Q8) (fun _=>hnd (mkF Try.prog Q8) 3) (Qa Try.f20 0):=by
 refine⟨fun k g hk=>KB (QOP f n k g) ?_⟩;refine QI (fun h => ?_) (fun h => ?_)
 ·have h:k<n:=by have:=qdt h;omega
  have hw:=JO h (by omega:n≤1000)
  refine QF (by simp;omega) ?_
  refine QI (fun q => ?_) (fun q => ?_)
  ·refine QF (by simp;omega) ⟨k+1,h,by show n-(k+1)<n-k;omega,fun _ _ h=>h,rfl,rfl,_,QQx f n k (k+1),?_⟩
   obtain rfl:k=0:=by have:=qdt q;omega
   repeat' first|with_reducible refine QO ?_ ?_|exact trivial|with_reducible rfl|exact qlr _|exact qRr|exact Qh _ _ _ _|exact hw|exact XZ f 0|refine And.intro ?_ ?_
  have q0:¬ (k:Int)=0:=of_decide_eq_false q;clear q;refine QI (fun q => ?_) (fun q => ?_)
  ·refine QF (by simp;omega) ⟨k+1,h,by show n-(k+1)<n-k;omega,fun _ _ h=>h,rfl,rfl,_,QNj f n k (k+1),?_⟩
   obtain rfl:k=1:=by have:=qdt q;omega
   repeat' first|with_reducible refine QO ?_ ?_|exact trivial|with_reducible rfl|exact qlr _|exact qRr|exact Qh _ _ _ _|exact hw|exact XZ f 1|refine And.intro ?_ ?_
  have q1:¬ (k:Int)=1:=of_decide_eq_false q;clear q;refine QI (fun q => ?_) (fun q => ?_)
  ·refine QF (by simp;omega) ⟨k+1,h,by show n-(k+1)<n-k;omega,fun _ _ h=>h,rfl,rfl,_,QNo f n k (k+1),?_⟩
   obtain rfl:k=2:=by have:=qdt q;omega
   repeat' first|with_reducible refine QO ?_ ?_|exact trivial|with_reducible rfl|exact qlr _|exact qRr|exact Qh _ _ _ _|exact hw|exact XZ f 2|refine And.intro ?_ ?_
  have q2:¬ (k:Int)=2:=of_decide_eq_false q;clear q;refine QI (fun q => ?_) (fun q => ?_)
  ·refine QF (by simp;omega) ⟨k+1,h,by show n-(k+1)<n-k;omega,fun _ _ h=>h,rfl,rfl,_,QVI f n k (k+1),?_⟩
   obtain rfl:k=3:=by have:=qdt q;omega
   repeat' first|with_reducible refine QO ?_ ?_|exact trivial|with_reducible rfl|exact qlr _|exact qRr|exact Qh _ _ _ _|exact hw|exact XZ f 3|refine And.intro ?_ ?_
  have q3:¬ (k:Int)=3:=of_decide_eq_false q;clear q;refine QI (fun q => ?_) (fun q => ?_)
  ·refine QF (by simp;omega) ⟨k+1,h,by show n-(k+1)<n-k;omega,fun _ _ h=>h,rfl,rfl,_,QQo f n k (k+1),?_⟩
   obtain rfl:k=4:=by have:=qdt q;omega
   repeat' first|with_reducible refine QO ?_ ?_|exact trivial|with_reducible rfl|exact qlr _|exact qRr|exact Qh _ _ _ _|exact hw|exact XZ f 4|refine And.intro ?_ ?_
  have q4:¬ (k:Int)=4:=of_decide_eq_false q;clear q;refine QI (fun q => ?_) (fun q => ?_)
  ·refine QF (by simp;omega) ⟨k+1,h,by show n-(k+1)<n-k;omega,fun _ _ h=>h,rfl,rfl,_,QS5 f n k (k+1),?_⟩
   obtain rfl:k=5:=by have:=qdt q;omega
   repeat' first|with_reducible refine QO ?_ ?_|exact trivial|with_reducible rfl|exact qlr _|exact qRr|exact Qh _ _ _ _|exact hw|exact XZ f 5|refine And.intro ?_ ?_
  have q5:¬ (k:Int)=5:=of_decide_eq_false q;clear q;refine QI (fun q => ?_) (fun q => ?_)
  ·refine QF (by simp;omega) ⟨k+1,h,by show n-(k+1)<n-k;omega,fun _ _ h=>h,rfl,rfl,_,QUF f n k (k+1),?_⟩
   obtain rfl:k=6:=by have:=qdt q;omega
   repeat' first|with_reducible refine QO ?_ ?_|exact trivial|with_reducible rfl|exact qlr _|exact qRr|exact Qh _ _ _ _|exact hw|exact XZ f 6|refine And.intro ?_ ?_
  have q6:¬ (k:Int)=6:=of_decide_eq_false q;clear q;refine QI (fun q => ?_) (fun q => ?_)
  ·refine QF (by simp;omega) ⟨k+1,h,by show n-(k+1)<n-k;omega,fun _ _ h=>h,rfl,rfl,_,QWh f n k (k+1),?_⟩
   obtain rfl:k=7:=by have:=qdt q;omega
   repeat' first|with_reducible refine QO ?_ ?_|exact trivial|with_reducible rfl|exact qlr _|exact qRr|exact Qh _ _ _ _|exact hw|exact XZ f 7|refine And.intro ?_ ?_
  have q7:¬ (k:Int)=7:=of_decide_eq_false q;clear q;refine QI (fun q => ?_) (fun q => ?_)
  ·refine QF (by simp;omega) ⟨k+1,h,by show n-(k+1)<n-k;omega,fun _ _ h=>h,rfl,rfl,_,QSh f n k (k+1),?_⟩
   obtain rfl:k=8:=by have:=qdt q;omega
   repeat' first|with_reducible refine QO ?_ ?_|exact trivial|with_reducible rfl|exact qlr _|exact qRr|exact Qh _ _ _ _|exact hw|exact XZ f 8|refine And.intro ?_ ?_
  have q8:¬ (k:Int)=8:=of_decide_eq_false q;clear q;refine QI (fun q => ?_) (fun q => ?_)
  ·refine QF (by simp;omega) ⟨k+1,h,by show n-(k+1)<n-k;omega,fun _ _ h=>h,rfl,rfl,_,QRF f n k (k+1),?_⟩
   obtain rfl:k=9:=by have:=qdt q;omega
   repeat' first|with_reducible refine QO ?_ ?_|exact trivial|with_reducible rfl|exact qlr _|exact qRr|exact Qh _ _ _ _|exact hw|exact XZ f 9|refine And.intro ?_ ?_
  have q9:¬ (k:Int)=9:=of_decide_eq_false q;clear q;refine QI (fun q => ?_) (fun q => ?_)
  ·refine QF (by simp;omega) ⟨k+1,h,by show n-(k+1)<n-k;omega,fun _ _ h=>h,rfl,rfl,_,QO5 f n k (k+1),?_⟩
   obtain rfl:k=10:=by have:=qdt q;omega
   repeat' first|with_reducible refine QO ?_ ?_|exact trivial|with_reducible rfl|exact qlr _|exact qRr|exact Qh _ _ _ _|exact hw|exact XZ f 10|refine And.intro ?_ ?_
  have q10:¬ (k:Int)=10:=of_decide_eq_false q;clear q;refine QF (by simp;omega) ⟨k+1,h,by show n-(k+1)<n-k;omega,fun _ _ h=>h,rfl,rfl,_,QRf f n k (k+1),?_⟩
  obtain rfl:k=11:=by omega
  repeat' first|with_reducible refine QO ?_ ?_|exact trivial|with_reducible rfl|exact qlr _|exact qRr|exact Qh _ _ _ _|exact hw|exact XZ f 11|refine And.intro ?_ ?_
 ·have:k=n:=by have:=of_decide_eq_false h;omega
  subst this;refine⟨_,⟨rfl,rfl⟩,rfl,rfl,_,QWY f k k,?_⟩
  repeat' first|with_reducible refine QO ?_ ?_|exact trivial|with_reducible rfl|exact qlr _|exact qRr|exact Qh _ _ _ _|refine And.intro ?_ ?_
theorem QTo{T:Tab}(hT:QV T)(f:Nat→Int)(n:Nat)(hn:n≤12)(G:Ctx)(hrd:G.rd=none)(hG:G.n=8):KH (mkE Try.prog T) G (QBe Try.prog T f n) (Qr Try.f20):=by
 refine J6 (body:=Qa Try.f20 0) (QS hT) hrd (by kernel_rfl) ?_
 refine W7 (E:=mkF Try.prog Q8) rfl (J3 (n0:=8) (qb KR) (by omega) (fun s hs=>Q3 (qb KR) 3 G _ hrd) (fun s hs=>(by decide:8≤448)) ?_ (QRe f n hn) (s0:=0) (Nat.zero_le _) ?_)
 ·rintro s e J ⟨_,rfl⟩;exact(by decide:8≤448)
 ·rintro e J ⟨rfl,rfl⟩;exact⟨_,List.mem_cons_self,trivial,rfl,rfl⟩
def QDT:Res PlS:=onT x (Qt x x.scans.n) plY x.scans.n [] (0,fun _=>0) noH
def KO:List Int×Int×Int:=match x.ok with
 | false=>([],0,1)
 | true=>match VB x with
  | true=>([],0,11)
  | false=>match QDT x with
   | .stop s _ | .go s _=>match decide (s.1>0)with
    | false=>([],0,6)
    | true=>((List.range x.scans.n).map s.2,s.2 12,0)
def Xu:WF (QE×Unit):=fun|(x,_)=>(decide (x.d.ps.n≤1000∧x.scans.n≤1000∧x.hang.n≤1000),G3 (KO x).1 (KO x).2.1 (KO x).2.2,[Kf 3 0 (KO x).1 0])
def QI8:FC:=wFC Xu
theorem QIw:WOk (Xu (x,())).2.1 (Xu (x,())).2.2:=⟨rfl,by simp[Xu,Kf,Blk.own,Blk.all],rfl⟩
theorem QMJ(ht:QQ Try.prog 49 (uFC (opE x e)))(he:e≠0)(hv:KO x=([],0,e)):QQ Try.prog 20 (wFC (XO Xu (x,()))):=by
 have hT:QV (J8 Qn (opE x e)):=KR.add ht;refine Wb (c:=Qr Try.f20) (E:=mkE Try.prog (J8 Qn (opE x e))) (H:=hnd (mkE Try.prog (J8 Qn (opE x e))) 1) (QS hT) Try.func20 (by kernel_rfl) (by kernel_rfl) (N:=8) (by decide) (x,()) (fun G h1 _=>Q3 (QS hT) 1 G _ h1) (QIw x) ?_
 refine KB (QVG Qn x e) ?_;refine QF (JB.2 ?_) (QI (fun _ => ?_) (fun h=>by simp at h;exact absurd h he))
 ·repeat' first|with_reducible refine QO ?_ ?_|exact trivial|with_reducible rfl|exact qlr _|exact qRr|exact Qh _ _ _ _|refine And.intro ?_ ?_
 ·simp only[Xu,hv];refine⟨rfl,rfl,_,QUt e [] 0 e,?_⟩
  repeat' first|with_reducible refine QO ?_ ?_|exact trivial|with_reducible rfl|exact qlr _|exact qRr|exact Qh _ _ _ _|exact rfl|refine And.intro ?_ ?_
theorem QNu:QD 1 ((List.range n).map f).length (fun i _=>f i) (fun i=>QA.enc (((List.range n).map f).getD i (0:Int))):=by
 intro i hi;show eqF 1 0 (fun _=>f i) (QA.enc (((List.range n).map f).getD i (0:Int)));have hi:i<n:=by simpa using hi
 have:((List.range n).map f).getD i (0:Int)=f i:=by simp[List.getD_eq_getElem?_getD,hi]
 rw[this];exact⟨rfl,trivial⟩
theorem QUT(hs:ZH x)(hx:x.ok=true)(hr:VB x=false):QQ Try.prog 20 (wFC (XO Xu (x,()))):=by
 have hg:=YF hx;have hss:=hg.s;have hC:=QLH (x:=x) hg.d.n9;have hon:=QGA hg hC x.scans.n [] (0,fun _=>0) noH (by simp) (fun c hc=>by cases hc) trivial
 obtain⟨s,h,he⟩:=Gx (C:=Qt x x.scans.n) (x:=x) (Y:=plY) (fun _ _=>rfl) x.scans.n [] (0,fun _=>0) noH;rw[he]at hon;have hT:QV (vd Qn x (Qt x x.scans.n) (plU x (Qt x x.scans.n) Xw X1 [] noH 0 (fun _=>0) h s.1 s.2)):=(KR.add (Ha x hs hx hr)).add hon
 have hv:KO x=match decide (s.1>0)with
   | false=>([],0,6)
   | true=>((List.range x.scans.n).map s.2,s.2 12,0):=by
  simp only[KO,hx,hr,QDT,he]
 refine Wb (c:=Qr Try.f20) (E:=mkE Try.prog (vd Qn x (Qt x x.scans.n) (plU x (Qt x x.scans.n) Xw X1 [] noH 0 (fun _=>0) h s.1 s.2))) (H:=QBe Try.prog (vd Qn x (Qt x x.scans.n) (plU x (Qt x x.scans.n) Xw X1 [] noH 0 (fun _=>0) h s.1 s.2)) s.2 x.scans.n) (QS hT) Try.func20 (by kernel_rfl) (by kernel_rfl) (N:=8) (by decide) (x,()) (fun G h1 h2=>QTo hT _ _ hss G h1 h2) (QIw x) ?_
 refine KB (QPQ Qn x (Qt x x.scans.n) h s.1 s.2) ?_;refine QF (JB.2 ?_) (QF (JB.2 ?_) (QI (fun q => ?_) (fun q => ?_)))
 ·repeat' first|with_reducible refine QO ?_ ?_|exact trivial|with_reducible rfl|exact qlr _|exact qRr|exact Qh _ _ _ _|refine And.intro ?_ ?_
 ·repeat' first|with_reducible refine QO ?_ ?_|exact trivial|with_reducible rfl|exact qlr _|exact qRr|exact Qh _ _ _ _|exact QCr _|exact rfl|refine And.intro ?_ ?_
 ·have q:decide (s.1>0)=false:=by simpa using q
  simp only[Xu,hv,q];refine⟨rfl,rfl,_,QRz [] 0 6,?_⟩
  repeat' first|with_reducible refine QO ?_ ?_|exact trivial|with_reducible rfl|exact qlr _|exact qRr|exact Qh _ _ _ _|exact rfl|refine And.intro ?_ ?_
 ·have q:decide (s.1>0)=true:=by simpa using q
  repeat' first|refine Qc (p:=_=_) rfl ?_|refine Qc (p:=_≤_) (qlr _) ?_|refine Qc (p:=_≤_) (Nat.zero_le _) ?_|refine Qc (p:=QD _ _ _ _) (qRr) ?_|refine Qc (p:=QD _ _ _ _) (fun i hi=>absurd hi (Nat.not_lt_zero i)) ?_
  refine KY fun _=>KX fun g => ?_;simp only[Xu,hv,q];refine⟨rfl,rfl,_,QUh x s.2 _ _ 0,?_⟩
  repeat' first|with_reducible refine QO ?_ ?_|exact trivial|with_reducible rfl|exact qlr _|exact qRr|exact Qh _ _ _ _|exact(by simp:x.scans.n=((List.range x.scans.n).map s.2).length)|exact(by simp:((List.range x.scans.n).map s.2).length≤x.scans.n)|exact QNu _ _|exact rfl|refine And.intro ?_ ?_
theorem QPS(hx:(Xu (x,())).1=true):QQ Try.prog 20 (wFC (XO Xu (x,()))):=by
 obtain⟨h1,h2,h3⟩:=qdt hx;have hs:ZH x:=⟨h1,h2,h3⟩;cases ho:x.ok with
 | false=>exact QMJ x 1 (QJQ x hs ho) (by decide) (by simp only[KO,ho])
 | true=>cases hr:VB x with
  | true=>exact QMJ x 11 (QHf x hs ho hr) (by decide) (by simp only[KO,ho,hr])
  | false=>exact QUT x hs ho hr
theorem QQS:QQ Try.prog 20 QI8:=QDC (by kernel_rfl) fun|(x,()),hx=>QPS x hx
structure QIY where
 off:Sp
 wide:Sp
 deep:Sp
instance : Enc QIY where
  enc x := .agg [.int false .i64 x.off.lo,.int false .i64 x.off.hi,.int false .i64 x.wide.lo,.int false .i64 x.wide.hi,.int false .i64 x.deep.lo,.int false .i64 x.deep.hi]
  dec | .agg [.int _ .i64 a0,.int _ .i64 a1,.int _ .i64 a2,.int _ .i64 a3,.int _ .i64 a4,.int _ .i64 a5] => some ⟨⟨a0,a1⟩,⟨a2,a3⟩,⟨a4,a5⟩⟩ | _ => none
  ok v x h := by
    split at h <;> (try (cases h; done))
    simp only[qsI]at h; subst h; exact⟨fun _ => rfl,rfl⟩
theorem QQU{p:Qk}{t h:Edge}(hB:Qs.B ⟨p,t,h⟩):((-100000≤(Qd p t h).lo∧(Qd p t h).lo≤100000) ∧ -100000≤(Qd p t h).hi∧(Qd p t h).hi≤100000)∧((-100000≤(Qe t h).lo∧(Qe t h).lo≤100000) ∧ -100000≤(Qe t h).hi∧(Qe t h).hi≤100000) ∧
  ((-100000≤(Qf t h).lo∧(Qf t h).lo≤100000) ∧ -100000≤(Qf t h).hi∧(Qf t h).hi≤100000)∧(0≤p.damp.lo∧p.damp.lo≤100)∧0≤p.damp.hi∧p.damp.hi≤100:=by
 obtain⟨h1,h2,h3⟩:=hB;unfold Jq at h1;unfold Jz at h2 h3;simp only[Qd,Qe,Qf]at *;omega
def V5(s:Sp)(lo hi:Int)(d:Sp):Bool:=decide ((-100000≤s.lo∧s.lo≤100000)∧(-100000≤s.hi∧s.hi≤100000)∧(-500≤lo∧lo≤500)∧(-500≤hi∧hi≤500)∧0≤d.hi∧d.hi≤100)
def QG7:Int×Int×Int×Unit→Bool×AV:=fun|(n,(a,(b,_)))=>(true,.bool false (QY n a b))
def QK7:FC:=Q5 (Q6 QG7)
theorem QWg(n:Int)(a:Int)(b:Int):Q2 (mkE Try.prog Wj) (hnd (mkE Try.prog Wj) 0) false Try.f79 (Qm.enc ((n,a,b,()):Int×Int×Int×Unit)) [] 0 =
  QC.br (decide (a≤n)) (QC.leaf (AV.bool false (decide (n≤b))) ([])) (QC.leaf (AV.bool true false) ([])):=by kernel_rfl
theorem QTT:QQ Try.prog 79 QK7:=by
 refine KC GP 0 Try.func79 (by kernel_rfl) (by kernel_rfl) ?_
 rintro⟨n,a,b,⟨⟩⟩ hp;rw[QWg n a b];simp only[QG7,QC.den,AV.same,AV.sameL,and_true,true_and]at hp ⊢
 (repeat' (first|(refine And.intro ?_ ?_)|(intro _)))<;>simp_all [QY]<;>omega
def GX:Tab:=Qb Wj 79 QK7
theorem QFR:QV GX:=GP.add QTT
def QK5:Sp×Int×Int×Unit→Bool×AV:=fun|(s,(a,(b,_)))=>(true,.bool false (s.isIn a b))
def QHt:FC:=Q5 (Q6 QK5)
theorem QPi(s:Sp)(a:Int)(b:Int):Q2 (mkE Try.prog GX) (hnd (mkE Try.prog GX) 0) false Try.f80 (Qm.enc ((s,a,b,()):Sp×Int×Int×Unit)) [] 0 =
  QC.br (decide (a≤s.lo)) (QC.br (decide (s.lo≤s.hi)) (QC.leaf (AV.bool false (decide (s.hi≤b))) ([])) (QC.leaf (AV.bool true false) ([]))) (QC.leaf (AV.bool true
  false) ([])):=by kernel_rfl
theorem QVB:QQ Try.prog 80 QHt:=by
 refine KC QFR 0 Try.func80 (by kernel_rfl) (by kernel_rfl) ?_
 rintro⟨s,a,b,⟨⟩⟩ hp;rw[QPi s a b];simp only[QK5,QC.den,AV.same,AV.sameL,and_true,true_and]at hp ⊢
 (repeat' (first|(refine And.intro ?_ ?_)|(intro _)))<;>simp_all [Sp.isIn]<;>omega
def QA0:Tab:=Qb GX 80 QHt
theorem QH1:QV QA0:=QFR.add QVB
def QGu:Edge×Unit→Bool×AV:=fun|(a,_)=>(true,.bool false a.ok)
def QJr:FC:=Q5 (Q6 QGu)
theorem QPs(a:Edge):Q2 (mkE Try.prog QA0) (hnd (mkE Try.prog QA0) 0) false Try.f57 (Qm.enc ((a,()):Edge×Unit)) [] 0 =
  QC.br (a.kind==(0:Int)) (QC.leaf (AV.bool true true) ([])) (QC.need (true) (QC.br (QY a.kind (1:Int) (2:Int)) (QC.need (true) (QC.br (a.at_.isIn (0:Int)
  (10000:Int)) (QC.need (true) (QC.br (a.wide.isIn (1:Int) (3000:Int)) (QC.need (true) (QC.leaf (AV.bool false (a.deep.isIn (1:Int) (3000:Int))) ([]))) (QC.leaf
  (AV.bool true false) ([])))) (QC.leaf (AV.bool true false) ([])))) (QC.leaf (AV.bool true false) ([])))):=by kernel_rfl
theorem QOQ:QQ Try.prog 57 QJr:=by
 refine KC QH1 0 Try.func57 (by kernel_rfl) (by kernel_rfl) ?_
 rintro⟨a,⟨⟩⟩ hp;rw[QPs a];simp only[QGu,QC.den,AV.same,AV.sameL,and_true,true_and]at hp ⊢
 have hw:QY a.kind 1 2=((a.kind==1)||(a.kind==2)):=by
  unfold QY;rw[Bool.eq_iff_iff];simp only[qdE,qbO,beq_iff_eq];omega
 simp only[hw];unfold Edge.ok;cases (a.kind==0)<;>cases ((a.kind==1)||(a.kind==2))<;>cases a.at_.isIn 0 10000<;>cases a.wide.isIn 1 3000<;>simp
def Hq:Tab:=Qb QA0 57 QJr
theorem QKb:QV Hq:=QH1.add QOQ
def QLj:Qk×Unit→Bool×AV:=fun|(p,_)=>(true,.bool false p.ok)
def QGc:FC:=Q5 (Q6 QLj)
theorem QWP(p:Qk):Q2 (mkE Try.prog Hq) (hnd (mkE Try.prog Hq) 0) false Try.f67 (Qm.enc ((p,()):Qk×Unit)) [] 0 =
  QC.need (true) (QC.br (QY p.length (1:Int) (10000:Int)) (QC.need (true) (QC.br (QY p.slack (0:Int) (500:Int)) (QC.need (true) (QC.br (QY p.loose (0 :
  Int) (500:Int)) (QC.need (true) (QC.leaf (AV.bool false (p.damp.isIn (0:Int) (100:Int))) ([]))) (QC.leaf (AV.bool true false) ([])))) (QC.leaf (AV.bool true false)
  ([])))) (QC.leaf (AV.bool true false) ([]))):=by kernel_rfl
theorem QQg:QQ Try.prog 67 QGc:=by
 refine KC QKb 0 Try.func67 (by kernel_rfl) (by kernel_rfl) ?_
 rintro⟨p,⟨⟩⟩ hp;rw[QWP p];simp only[QLj,QC.den,AV.same,AV.sameL,and_true,true_and]at hp ⊢
 (repeat' (first|(refine And.intro ?_ ?_)|(intro _)))<;>simp_all [Qk.ok]
def GW:Tab:=Qb Hq 67 QGc
theorem QIa:QV GW:=QKb.add QQg
def QF2:Qk×Edge×Edge×Unit→Bool×AV:=fun|(p,(t,(h,_)))=>(decide (Qs.B ⟨p,t,h⟩),Enc.enc (⟨Qd p t h,Qe t h,Qf t h⟩:QIY))
def QMb:FC:=Q5 (Q6 QF2)
theorem QWX(p:Qk)(t:Edge)(h:Edge):Q2 (mkE Try.prog GW) (hnd (mkE Try.prog GW) 0) false Try.f104 (Qm.enc ((p,t,h,()):Qk×Edge×Edge×Unit)) [] 0 =
  QC.leaf (AV.agg [AV.int false i64 (i64.wrap (i64.wrap (t.at_.lo+h.at_.lo)-p.length)),AV.int false i64 (i64.wrap (i64.wrap
  (t.at_.hi+h.at_.hi)-p.length)),AV.int false i64 (i64.wrap (h.wide.lo-t.wide.hi)),AV.int false i64 (i64.wrap (h.wide.hi-t.wide.lo)),AV.int
  false i64 (i64.wrap (h.deep.lo-t.deep.hi)),AV.int false i64 (i64.wrap (h.deep.hi-t.deep.lo))]) ([]):=by kernel_rfl
theorem QSi:QQ Try.prog 104 QMb:=by
 refine KC QIa 0 Try.func104 (by kernel_rfl) (by kernel_rfl) ?_
 rintro⟨p,t,h,⟨⟩⟩ hp;rw[QWX p t h];simp only[QF2,QC.den,AV.same,AV.sameL,and_true,true_and]at hp ⊢;have hq:=qdt hp;obtain⟨h1,h2,h3⟩:=hq;unfold Jq at h1;unfold Jz at h2 h3;simp only at h1 h2 h3;simp only[Enc.enc,AV.same,AV.sameL,true_and,and_true,Qd,Qe,Qf];rw[w64 (n:=t.at_.lo+h.at_.lo) (by omega) (by omega),w64 (n:=t.at_.hi+h.at_.hi) (by omega) (by omega)]
 rw[w64 (by omega) (by omega),w64 (by omega) (by omega),w64 (by omega) (by omega),w64 (by omega) (by omega),w64 (by omega) (by omega),w64 (by omega) (by omega)]
 refine⟨?_,?_,?_,?_,?_,?_⟩<;>omega
def HQ:Tab:=Qb GW 104 QMb
theorem QK8:QV HQ:=QIa.add QSi
def QJJ:Sp×Int×Int×Sp×Unit→Bool×AV:=fun|(s,(lo,(hi,(d,_))))=>(V5 s lo hi d,.bool false (KW s.lo s.hi lo hi d.hi))
def QHO:FC:=Q5 (Q6 QJJ)
theorem QSG(s:Sp)(lo:Int)(hi:Int)(d:Sp):Q2 (mkE Try.prog HQ) (hnd (mkE Try.prog HQ) 0) false Try.f105 (Qm.enc ((s,lo,hi,d,()):Sp×Int×Int×Sp×Unit)) [] 0 =
  QC.br (decide (i64.wrap (s.lo*i64.wrap ((1000:Int)+d.hi))≥i64.wrap ((1000:Int)*lo))) (QC.leaf (AV.bool false (decide (i64.wrap (s.hi
  * i64.wrap ((1000:Int)+d.hi))≤i64.wrap ((1000:Int)*hi)))) ([])) (QC.leaf (AV.bool true false) ([])):=by kernel_rfl
theorem QNB:QQ Try.prog 105 QHO:=by
 refine KC QK8 0 Try.func105 (by kernel_rfl) (by kernel_rfl) ?_
 rintro⟨s,lo,hi,d,⟨⟩⟩ hp;rw[QSG s lo hi d];simp only[QJJ,QC.den,AV.same,AV.sameL,and_true,true_and]at hp ⊢;have hq:=qdt hp;obtain⟨h1,h2,h3,h4,h5⟩:=hq;exact zL h1 h2 h3 h4 h5
def YL:Tab:=Qb HQ 105 QHO
theorem qA:QV YL:=QK8.add QNB
end Go.Proofs.Ytbpffdkemeoajaa
