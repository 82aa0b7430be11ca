/- - -/
import Derived.Test.YtbpffdkemeoajaaMwzf
open Go.IntKind (i64)
set_option maxRecDepth 100000
namespace Go.Proofs.Ytbpffdkemeoajaa
open Go.SX
variable (pb:List Prop→Bool)(f:List QB)(x:QE)(g:List QB)(e moved turned m:Int)(f':List QB)(k:Nat)(e':Int)(C:List (List QB))
def Ym(U:UC):Tab:=Qd (Ka pb (opO x C)) 77 (Jd pb U)
def Z1(m e:Int):AV := .tup [.slz 0 0 f.length (.of 0),.slz 1 0 g.length (.of 0),.int false .i64 m,.int false .i64 e]
def ZE:List (Nat×Blk):=[KN 56 0 f ⟨0,0⟩,KN 56 1 g ⟨0,0⟩]
theorem QSX:KR (mkE Try.prog (Ka pb (opE x e))) (hnd (mkE Try.prog (Ka pb (opE x e))) 1) Try.f25 (QX.vals 0 ((x,()):QE×Unit)) (QX.blks 0 ((x,()):QE×Unit)) 8 =
  QD.need (pb ([x.d.play.length = x.d.play.length, x.d.play.slack = x.d.play.slack, x.d.play.loose = x.d.play.loose, x.d.play.damp.lo = x.d.play.damp.lo, x.d.play.damp.hi = x.d.play.damp.hi, x.d.wide = x.d.wide, x.d.high = x.d.high, x.d.turn = x.d.turn, (0 : Nat) = (0 : Nat), x.d.ps.n = x.d.ps.n, Cap.of (0 : Nat) = Cap.of (0 : Nat), (0 : Nat) = (0 : Nat), x.scans.n = x.scans.n, Cap.of (0 : Nat) = Cap.of (0 : Nat), (0 : Nat) = (0 : Nat), x.hang.n = x.hang.n, Cap.of (0 : Nat) = Cap.of (0 : Nat), x.lost = x.lost, x.foreign = x.foreign, x.d.ps.n ≤ x.d.ps.n, QC (28 : Nat) x.d.ps.n (fun i => QA.enc (x.d.ps.get i)) fun i => QA.enc (x.d.ps.get i), x.scans.n ≤ x.scans.n, QC (28 : Nat) x.scans.n (fun i => QA.enc (x.scans.get i)) fun i => QA.enc (x.scans.get i), x.hang.n ≤ x.hang.n, QC (4 : Nat) x.hang.n (fun i => QA.enc (x.hang.get i)) fun i => QA.enc (x.hang.get i)])) (QD.br (e != (0 : Int)) (QD.leaf (AV.tup [AV.nils, AV.nils, AV.int true i64 (0 : Int), AV.int false i64 e]) ([])) (QD.fail ("a call without a contract"))) := by kernel_rfl
theorem QTY(d:Puz)(s:Nat→QT)(hang:Rw Jn)(lo fo:Int):KR (mkE Try.prog (Ka pb (opO ⟨d,⟨0,s⟩,hang,lo,fo⟩ []))) (hnd (mkE Try.prog (Ka pb (opO ⟨d,⟨0,s⟩,hang,lo,fo⟩ []))) 8) Try.f25 (QX.vals 0 ((⟨d,⟨0,s⟩,hang,lo,fo⟩,()):QE×Unit)) (QX.blks 0 ((⟨d,⟨0,s⟩,hang,lo,fo⟩,()):QE×Unit)) 8 =
  QD.need (pb ([d.play.length = d.play.length, d.play.slack = d.play.slack, d.play.loose = d.play.loose, d.play.damp.lo = d.play.damp.lo, d.play.damp.hi = d.play.damp.hi, d.wide = d.wide, d.high = d.high, d.turn = d.turn, (0 : Nat) = (0 : Nat), d.ps.n = d.ps.n, Cap.of (0 : Nat) = Cap.of (0 : Nat), (0 : Nat) = (0 : Nat), (0 : Nat) = (0 : Nat), Cap.of (0 : Nat) = Cap.of (0 : Nat), (0 : Nat) = (0 : Nat), hang.n = hang.n, Cap.of (0 : Nat) = Cap.of (0 : Nat), lo = lo, fo = fo, d.ps.n ≤ d.ps.n, QC (28 : Nat) d.ps.n (fun i => QA.enc (d.ps.get i)) fun i => QA.enc (d.ps.get i), (0 : Nat) ≤ (0 : Nat), QC (28 : Nat) (0 : Nat) (fun i => QA.enc ((Rw.mk (0 : Nat) s).get i)) fun i => QA.enc ((Rw.mk (0 : Nat) s).get i), hang.n ≤ hang.n, QC (4 : Nat) hang.n (fun i => QA.enc (hang.get i)) fun i => QA.enc (hang.get i)])) (QD.br (true) (QD.br (decide (i64.wrap ((↑d.ps.n : Int) - (0 : Int)) > lo)) (QD.leaf (AV.tup [AV.nils, AV.nils, AV.int true i64 (0 : Int), AV.int true i64 (6 : Int)]) ([])) (QD.leaf (AV.tup [AV.nils, AV.nils, AV.int true i64 (1 : Int), AV.int true i64 (0 : Int)]) ([]))) (QD.need (false) (QD.fail ("scan.go:188")))) := by kernel_rfl
abbrev QKz:List Prop:=
  [x.d.play.length=x.d.play.length,x.d.play.slack=x.d.play.slack,x.d.play.loose=x.d.play.loose,x.d.play.damp.lo=x.d.play.damp.lo,x.d.play.damp.hi=x.d.play.damp.hi,
  x.d.wide=x.d.wide,x.d.high=x.d.high,x.d.turn=x.d.turn,0=0,x.d.ps.n=x.d.ps.n,cO=cO,0=0,x.scans.n=x.scans.n,cO=cO,0=0,x.hang.n =
  x.hang.n,cO=cO,x.lost=x.lost,x.foreign=x.foreign,x.d.ps.n≤x.d.ps.n,QC 28 x.d.ps.n (fun i=>QA.enc (x.d.ps.get i)) fun i=>QA.enc (x.d.ps.get i),
  x.scans.n≤x.scans.n,QC 28 x.scans.n (fun i=>QA.enc (x.scans.get i)) fun i=>QA.enc (x.scans.get i),x.hang.n≤x.hang.n,QC 4 x.hang.n (fun i=>QA.enc
  (x.hang.get i)) fun i=>QA.enc (x.hang.get i)]
abbrev QIi(x:QE):List Prop:=
  [0=0,0=0,0=0,0=0,0=0,0=0,0=0,0=0,0=0,0=0,0=0,0=0,([]:List MapEntry)=[],jq (.int true .i64 0) noH fun i => .int false .i64 (QG [] i),
  LoopState.ready=LoopState.ready,(none:Option Code)=none,Array.mk [18]=Array.mk [18],(QK Try.f25 0).1=(QK Try.f25 0).1,(QK Try.f25 0).2=(QK Try.f25
  0).2,x.d.play.length=x.d.play.length,x.d.play.slack=x.d.play.slack,x.d.play.loose=x.d.play.loose,x.d.play.damp.lo=x.d.play.damp.lo,x.d.play.damp.hi=x.d.play.damp.hi,
  x.d.wide=x.d.wide,x.d.high=x.d.high,x.d.turn=x.d.turn,0=0,x.d.ps.n=x.d.ps.n,cO=cO,0=0,x.scans.n=x.scans.n,cO=cO,0=0,x.hang.n =
  x.hang.n,cO=cO,x.lost=x.lost,x.foreign=x.foreign,0=0,0=0,0=0,0=0,0=0,0=0,0=0,0=0,(0:Int)=0,0=0,0=0,0=0,0=0,(0:Int) =
  0,x.d.play.length=x.d.play.length,x.d.play.slack=x.d.play.slack,x.d.play.loose=x.d.play.loose,x.d.play.damp.lo=x.d.play.damp.lo,x.d.play.damp.hi=x.d.play.damp.hi,
  x.d.wide=x.d.wide,x.d.high=x.d.high,x.d.turn=x.d.turn,0=0,x.d.ps.n=x.d.ps.n,cO=cO,0=0,x.scans.n=x.scans.n,cO=cO,0=0,x.hang.n =
  x.hang.n,cO=cO,x.lost=x.lost,x.foreign=x.foreign,0=0,0=0,(0:Int)=0,0=0,0=0,(0:Int)=0,(0:Int)=0,false=false,0=0,0=0,Fn.func
  76=Fn.func 76,0=0,0=0,(0:Int)=0,0=0,0=0,0=0,0=0,Fn.func 77=Fn.func 77,0=0,0=0,0=0,0=0,0=0,0=0,0=0,0=0,0=0,0=0,0=0,0 =
  0,x.d.play.length=x.d.play.length,x.d.play.slack=x.d.play.slack,x.d.play.loose=x.d.play.loose,x.d.play.damp.lo=x.d.play.damp.lo,x.d.play.damp.hi=x.d.play.damp.hi,
  x.d.wide=x.d.wide,x.d.high=x.d.high,x.d.turn=x.d.turn,0=0,x.d.ps.n=x.d.ps.n,cO=cO,0=0,x.scans.n=x.scans.n,cO=cO,0=0,x.hang.n =
  x.hang.n,cO=cO,x.lost=x.lost,x.foreign=x.foreign,x.d.play.length=x.d.play.length,x.d.play.slack=x.d.play.slack,x.d.play.loose=x.d.play.loose,
  x.d.play.damp.lo=x.d.play.damp.lo,x.d.play.damp.hi=x.d.play.damp.hi,x.d.wide=x.d.wide,x.d.high=x.d.high,x.d.turn=x.d.turn,0=0,x.d.ps.n=x.d.ps.n,cO =
  cO,0=0,x.scans.n=x.scans.n,cO=cO,0=0,x.hang.n=x.hang.n,cO=cO,x.lost=x.lost,x.foreign=x.foreign,0=0,C.length=C.length,
  cO=cO,C.length=C.length,KM 2 C.length (fun i=>(QH C i).length) (fun i=>(QH C i).length) (fun i j=>QA.enc ((QH C i).getD j ⟨0,0⟩)) fun i j=>
  QA.enc ((QH C i).getD j ⟨0,0⟩),x.d.ps.n≤x.d.ps.n,QC 28 x.d.ps.n (fun i=>QA.enc (x.d.ps.get i)) fun i=>QA.enc (x.d.ps.get i),x.scans.n≤x.scans.n,QC 28
  x.scans.n (fun i=>QA.enc (x.scans.get i)) fun i=>QA.enc (x.scans.get i),x.hang.n≤x.hang.n,QC 4 x.hang.n (fun i=>QA.enc (x.hang.get i)) fun i=>QA.enc
  (x.hang.get i)]
noncomputable abbrev QMZ(g':List QB):List (Nat×Blk):=
  [(241,.rowz true 56 [.int .i64,.int .i64] f'.length fun i=>QA.enc (f'.getD i ⟨0,0⟩)),(242,.rowz true 56 [.int .i64,.int .i64] g'.length fun i=>QA.enc (g'.getD i ⟨0,
  0⟩))]
theorem QU5(has':Int→Bool)(many':Int)(f' g':List QB):KR (mkE Try.prog (Ym pb x C (trU x C (QK Try.f25 0).1 (QK Try.f25 0).2 [] noH 0 [] [] has' many' f' g'))) (hnd (mkE Try.prog (Ym pb x C (trU x C (QK Try.f25
  0).1 (QK Try.f25 0).2 [] noH 0 [] [] has' many' f' g'))) 8) Try.f25 (QX.vals 0 ((x,()):QE×Unit)) (QX.blks 0 ((x,()):QE×Unit)) 8 = .need (pb ((QKz x)))
  (.need (pb ((QIi C x))) (.br (many'==0) (.leaf (.tup [.nils,.nils,vj 0,vj 6]) ([])) (.leaf (.tup [.slz 241 0 f'.length cO,.slz 242 0 g'.length
  cO,vi many',vj 0]) ((QMZ f' g'))))):=by kernel_rfl
theorem QYY(has':Int→Bool)(many':Int)(f' g':List QB):KR (mkE Try.prog (Ym pb x C (trV x C (QK Try.f25 0).1 (QK Try.f25 0).2 [] noH 0 [] [] has' many' f' g'))) (hnd (mkE Try.prog (Ym pb x C (trV x C (QK Try.f25
  0).1 (QK Try.f25 0).2 [] noH 0 [] [] has' many' f' g'))) 8) Try.f25 (QX.vals 0 ((x,()):QE×Unit)) (QX.blks 0 ((x,()):QE×Unit)) 8 = .need (pb ((QKz x)))
  (.need (pb ((QIi C x))) (.br (many'==0) (.leaf (.tup [.nils,.nils,vj 0,vj 6]) ([])) (.leaf (.tup [.slz 241 0 f'.length cO,.slz 242 0 g'.length
  cO,vi many',vj 0]) ((QMZ f' g'))))):=by kernel_rfl
theorem QS1(f g:List QB)(m e':Int):QL 8 [(AV.tup [AV.nils,AV.nils,AV.int true i64 (0:Int),AV.int false i64 e])] ([]) (KW 8 (Z1 f g m e') (ZE f g))=(
  some [f.length=(0:Nat),g.length=(0:Nat),(0:Int)=m,e=e',f.length=(0:Nat),g.length=(0:Nat)]):=by kernel_rfl
theorem QRl:QL 8 [(AV.tup [AV.nils,AV.nils,AV.int true i64 (0:Int),AV.int true i64 (6:Int)])] ([]) (KW 8 (Z1 f g m e') (ZE f g))=(
  some [f.length=(0:Nat),g.length=(0:Nat),(0:Int)=m,(6:Int)=e',f.length=(0:Nat),g.length=(0:Nat)]):=by kernel_rfl
theorem QR0:QL 8 [(AV.tup [AV.nils,AV.nils,AV.int true i64 (1:Int),AV.int true i64 (0:Int)])] ([]) (KW 8 (Z1 f g m e') (ZE f g))=(
  some [f.length=(0:Nat),g.length=(0:Nat),(1:Int)=m,(0:Int)=e',f.length=(0:Nat),g.length=(0:Nat)]):=by kernel_rfl
theorem QU2:QL 8 [(AV.tup [AV.nils,AV.nils,AV.int true i64 (0:Int),AV.int true i64 (6:Int)])] ([]) (KW 8 (Z1 f g m e') (ZE f g))=(
  some [f.length=(0:Nat),g.length=(0:Nat),(0:Int)=m,(6:Int)=e',f.length=(0:Nat),g.length=(0:Nat)]):=by kernel_rfl
theorem QQX(many':Int)(f' g':List QB)(f g:List QB)(m e':Int):QL 8 [(AV.tup [AV.slz (241:Nat) (0:Nat) f'.length (Cap.of (0:Nat)),AV.slz (242:Nat) (0:Nat) g'.length (Cap.of (0:Nat)),AV.int false i64 many',AV.int true i64 (0:Int)])] ([((241:Nat),Blk.rowz true (56:Nat) [CK.int i64,CK.int i64] f'.length fun i=>QA.enc (f'.getD i (QB.mk (0:Int) (0:Int)))),((242:Nat),Blk.rowz true (56:Nat) [CK.int i64,CK.int i64] g'.length fun i=>QA.enc (g'.getD i (QB.mk (0:Int) (0:Int))))]) (KW 8 (Z1 f g m e') (ZE f g))=(
  some [(0:Nat)=(0:Nat),f'.length=f.length,Cap.of (0:Nat)=Cap.of (0:Nat),(0:Nat)=(0:Nat),g'.length=g.length,Cap.of (0:Nat)=Cap.of (0:Nat),many'=m,
  (0:Int)=e',f.length≤f'.length,QC (2:Nat) f.length (fun i=>QA.enc (f'.getD i (QB.mk (0:Int) (0:Int)))) fun i=>QA.enc (f.getD i (QB.mk (0:Int) (0 :
  Int))),g.length≤g'.length,QC (2:Nat) g.length (fun i=>QA.enc (g'.getD i (QB.mk (0:Int) (0:Int)))) fun i=>QA.enc (g.getD i (QB.mk (0:Int) (0:Int)))]):=by kernel_rfl
theorem QQu:QL 8 [(AV.tup [AV.nils,AV.nils,AV.int true i64 (0:Int),AV.int true i64 (6:Int)])] ([]) (KW 8 (Z1 f g m e') (ZE f g))=(
  some [f.length=(0:Nat),g.length=(0:Nat),(0:Int)=m,(6:Int)=e',f.length=(0:Nat),g.length=(0:Nat)]):=by kernel_rfl
theorem QU3(many':Int)(f' g':List QB)(f g:List QB)(m e':Int):QL 8 [(AV.tup [AV.slz (241:Nat) (0:Nat) f'.length (Cap.of (0:Nat)),AV.slz (242:Nat) (0:Nat) g'.length (Cap.of (0:Nat)),AV.int false i64 many',AV.int true i64 (0:Int)])] ([((241:Nat),Blk.rowz true (56:Nat) [CK.int i64,CK.int i64] f'.length fun i=>QA.enc (f'.getD i (QB.mk (0:Int) (0:Int)))),((242:Nat),Blk.rowz true (56:Nat) [CK.int i64,CK.int i64] g'.length fun i=>QA.enc (g'.getD i (QB.mk (0:Int) (0:Int))))]) (KW 8 (Z1 f g m e') (ZE f g))=(
  some [(0:Nat)=(0:Nat),f'.length=f.length,Cap.of (0:Nat)=Cap.of (0:Nat),(0:Nat)=(0:Nat),g'.length=g.length,Cap.of (0:Nat)=Cap.of (0:Nat),many'=m,
  (0:Int)=e',f.length≤f'.length,QC (2:Nat) f.length (fun i=>QA.enc (f'.getD i (QB.mk (0:Int) (0:Int)))) fun i=>QA.enc (f.getD i (QB.mk (0:Int) (0 :
  Int))),g.length≤g'.length,QC (2:Nat) g.length (fun i=>QA.enc (g'.getD i (QB.mk (0:Int) (0:Int)))) fun i=>QA.enc (g.getD i (QB.mk (0:Int) (0:Int)))]):=by kernel_rfl
def vv:Res TrS:=onT x (Qk x x.scans.n) trY x.scans.n [] (0,[],[]) noH
def Qz:List QB×List QB×Int×Int:=match x.ok with
 | false=>([],[],0,1)
 | true=>match JE x with
  | true=>([],[],0,11)
  | false=>match vv x with
   | .stop s _ | .go s _=>match s.1==0 with
    | true=>([],[],0,6)
    | false=>(s.2.1,s.2.2,s.1,0)
def VX:WF (QE×Unit):=fun|(x,_)=>(decide (x.d.ps.n≤1000∧x.scans.n≤1000∧x.hang.n≤1000),Z1 (Qz x).1 (Qz x).2.1 (Qz x).2.2.1 (Qz x).2.2.2,ZE (Qz x).1 (Qz x).2.1)
def QNB:FC:=wFC VX
theorem QAD:WOk (VX (x,())).2.1 (VX (x,())).2.2:=⟨rfl,by simp[VX,ZE,KN,Blk.own,Blk.all],rfl⟩
theorem QM3(ht:QO Try.prog 49 (uFC (opE x e)))(he:e≠0)(hv:Qz x=([],[],0,e)):QO Try.prog 25 (wFC (Je VX (x,()))):=by
 have hT:QZ (Ka QY (opE x e)):=Qv.add ht;refine Xt (c:=Qo Try.f25) (E:=mkE Try.prog (Ka QY (opE x e))) (H:=hnd (mkE Try.prog (Ka QY (opE x e))) 1) (QP hT) Try.func25 (by kernel_rfl) (by kernel_rfl) (N:=8) (by decide) (x,()) (fun G h1 _=>Qq (QP hT) 1 G _ h1) (QAD x) ?_
 refine Qt (QSX QY x e) ?_;refine QF (KL.2 ?_) (QI (fun _ => ?_) (fun h=>by simp at h;exact absurd h he))
 ·repeat' first|with_reducible refine QN ?_ ?_|exact trivial|with_reducible rfl|exact qlr _|exact qRr|exact QU _ _ _ _|refine And.intro ?_ ?_
 ·simp only[VX,hv];refine⟨rfl,rfl,_,QS1 e [] [] 0 e,?_⟩
  repeat' first|with_reducible refine QN ?_ ?_|exact trivial|with_reducible rfl|exact qlr _|exact qRr|exact QU _ _ _ _|exact rfl|refine And.intro ?_ ?_
theorem QUd(hs:Xb x)(hx:x.ok=true)(hr:JE x=false)(hpos:0<x.scans.n):QO Try.prog 25 (wFC (Je VX (x,()))):=by
 have hg:=Xc hx;have hC:=QCE (x:=x) hg.d.n9;have hon:=QLy hg hC hpos x.scans.n [] (0,[],[]) noH (by simp) (fun c hc=>by cases hc)
 cases he:onT x (Qk x x.scans.n) trY x.scans.n [] (0,[],[]) noH with
 | go s h=>
  rw[he]at hon;have hT:QZ (Ym QY x (Qk x x.scans.n) (trU x (Qk x x.scans.n) J1 Jt [] noH 0 [] [] h s.1 s.2.1 s.2.2)):=(Qv.add (qO x hs hx hr)).add hon
  have hv:Qz x=match s.1==0 with
    | true=>([],[],0,6)
    | false=>(s.2.1,s.2.2,s.1,0):=by
   simp only[Qz,hx,hr,vv,he]
  refine Xt (c:=Qo Try.f25) (E:=mkE Try.prog (Ym QY x (Qk x x.scans.n) (trU x (Qk x x.scans.n) J1 Jt [] noH 0 [] [] h s.1 s.2.1 s.2.2))) (H:=hnd (mkE Try.prog (Ym QY x (Qk x x.scans.n) (trU x (Qk x x.scans.n) J1 Jt [] noH 0 [] [] h s.1 s.2.1 s.2.2))) 8) (QP hT) Try.func25 (by kernel_rfl) (by kernel_rfl) (N:=8) (by decide) (x,()) (fun G h1 _=>Qq (QP hT) 8 G _ h1) (QAD x) ?_
  refine Qt (QU5 QY x (Qk x x.scans.n) h s.1 s.2.1 s.2.2) ?_;refine QF (KL.2 ?_) (QF (KL.2 ?_) (QI (fun q => ?_) (fun q => ?_)))
  ·repeat' first|with_reducible refine QN ?_ ?_|exact trivial|with_reducible rfl|exact qlr _|exact qRr|exact QU _ _ _ _|refine And.intro ?_ ?_
  ·repeat' first|with_reducible refine QN ?_ ?_|exact trivial|with_reducible rfl|exact qlr _|exact qRr|exact QU _ _ _ _|exact zY _|exact rfl|refine And.intro ?_ ?_
  ·simp only[VX,hv,q];refine⟨rfl,rfl,_,QU2 [] [] 0 6,?_⟩
   repeat' first|with_reducible refine QN ?_ ?_|exact trivial|with_reducible rfl|exact qlr _|exact qRr|exact QU _ _ _ _|exact rfl|refine And.intro ?_ ?_
  ·simp only[VX,hv,q];refine⟨rfl,rfl,_,QQX s.1 s.2.1 s.2.2 s.2.1 s.2.2 s.1 0,?_⟩
   repeat' first|with_reducible refine QN ?_ ?_|exact trivial|with_reducible rfl|exact qlr _|exact qRr|exact QU _ _ _ _|exact rfl|refine And.intro ?_ ?_
 | stop s h=>
  rw[he]at hon;have hT:QZ (Ym QY x (Qk x x.scans.n) (trV x (Qk x x.scans.n) J1 Jt [] noH 0 [] [] h s.1 s.2.1 s.2.2)):=(Qv.add (qO x hs hx hr)).add hon
  have hv:Qz x=match s.1==0 with
    | true=>([],[],0,6)
    | false=>(s.2.1,s.2.2,s.1,0):=by
   simp only[Qz,hx,hr,vv,he]
  refine Xt (c:=Qo Try.f25) (E:=mkE Try.prog (Ym QY x (Qk x x.scans.n) (trV x (Qk x x.scans.n) J1 Jt [] noH 0 [] [] h s.1 s.2.1 s.2.2))) (H:=hnd (mkE Try.prog (Ym QY x (Qk x x.scans.n) (trV x (Qk x x.scans.n) J1 Jt [] noH 0 [] [] h s.1 s.2.1 s.2.2))) 8) (QP hT) Try.func25 (by kernel_rfl) (by kernel_rfl) (N:=8) (by decide) (x,()) (fun G h1 _=>Qq (QP hT) 8 G _ h1) (QAD x) ?_
  refine Qt (QYY QY x (Qk x x.scans.n) h s.1 s.2.1 s.2.2) ?_;refine QF (KL.2 ?_) (QF (KL.2 ?_) (QI (fun q => ?_) (fun q => ?_)))
  ·repeat' first|with_reducible refine QN ?_ ?_|exact trivial|with_reducible rfl|exact qlr _|exact qRr|exact QU _ _ _ _|refine And.intro ?_ ?_
  ·repeat' first|with_reducible refine QN ?_ ?_|exact trivial|with_reducible rfl|exact qlr _|exact qRr|exact QU _ _ _ _|exact zY _|exact rfl|refine And.intro ?_ ?_
  ·simp only[VX,hv,q];refine⟨rfl,rfl,_,QQu [] [] 0 6,?_⟩
   repeat' first|with_reducible refine QN ?_ ?_|exact trivial|with_reducible rfl|exact qlr _|exact qRr|exact QU _ _ _ _|exact rfl|refine And.intro ?_ ?_
  ·simp only[VX,hv,q];refine⟨rfl,rfl,_,QU3 s.1 s.2.1 s.2.2 s.2.1 s.2.2 s.1 0,?_⟩
   repeat' first|with_reducible refine QN ?_ ?_|exact trivial|with_reducible rfl|exact qlr _|exact qRr|exact QU _ _ _ _|exact rfl|refine And.intro ?_ ?_
theorem QZ2(d:Puz)(sc:Nat→QT)(hang:Rw Jn)(lo fo:Int)(hs:Xb ⟨d,⟨0,sc⟩,hang,lo,fo⟩)(hx:(QE.mk d ⟨0,sc⟩ hang lo fo).ok=true)(hr:JE ⟨d,⟨0,sc⟩,hang,lo,fo⟩=false):QO Try.prog 25 (wFC (Je VX (⟨d,⟨0,sc⟩,hang,lo,fo⟩,()))):=by
 have hd:=hs.d;have hd:d.ps.n≤1000:=hd;have hT:QZ (Ka QY (opO ⟨d,⟨0,sc⟩,hang,lo,fo⟩ [])):=Qv.add (qO ⟨d,⟨0,sc⟩,hang,lo,fo⟩ hs hx hr);have hw:i64.wrap ((d.ps.n:Int)-0)=d.ps.n:=(w64 (by omega) (by omega)).trans (by omega)
 have hv:Qz ⟨d,⟨0,sc⟩,hang,lo,fo⟩=match decide ((d.ps.n:Int)>lo)with
   | true=>([],[],0,6)
   | false=>([],[],1,0):=by
  simp only[Qz,hx,hr,vv,onT,Ja,YF];simp only[show(d.ps.n:Int)-((([]:List QB).length:Int)-QG [] (-2))=d.ps.n by simp[QG]]
  cases decide ((d.ps.n:Int)>lo)<;>rfl
 refine Xt (c:=Qo Try.f25) (E:=mkE Try.prog (Ka QY (opO ⟨d,⟨0,sc⟩,hang,lo,fo⟩ []))) (H:=hnd (mkE Try.prog (Ka QY (opO ⟨d,⟨0,sc⟩,hang,lo,fo⟩ []))) 8) (QP hT) Try.func25 (by kernel_rfl) (by kernel_rfl) (N:=8) (by decide) (⟨d,⟨0,sc⟩,hang,lo,fo⟩,()) (fun G h1 _=>Qq (QP hT) 8 G _ h1) (QAD _) ?_
 refine Qt (QTY QY d sc hang lo fo) ?_;refine QF (KL.2 ?_) (QI (fun _=>QI (fun q => ?_) (fun q => ?_)) (fun q=>by cases q))
 ·repeat' first|with_reducible refine QN ?_ ?_|exact trivial|with_reducible rfl|exact qlr _|exact qRr|exact QU _ _ _ _|refine And.intro ?_ ?_
 ·rw[hw]at q;simp only[VX,hv,q];refine⟨rfl,rfl,_,QRl [] [] 0 6,?_⟩
  repeat' first|with_reducible refine QN ?_ ?_|exact trivial|with_reducible rfl|exact qlr _|exact qRr|exact QU _ _ _ _|exact rfl|refine And.intro ?_ ?_
 ·rw[hw]at q;simp only[VX,hv,q];refine⟨rfl,rfl,_,QR0 [] [] 1 0,?_⟩
  repeat' first|with_reducible refine QN ?_ ?_|exact trivial|with_reducible rfl|exact qlr _|exact qRr|exact QU _ _ _ _|exact rfl|refine And.intro ?_ ?_
theorem QYS(hx:(VX (x,())).1=true):QO Try.prog 25 (wFC (Je VX (x,()))):=by
 obtain⟨h1,h2,h3⟩:=qdt hx;have hs:Xb x:=⟨h1,h2,h3⟩;cases ho:x.ok with
 | false=>exact QM3 x 1 (QAE x hs ho) (by decide) (by simp only[Qz,ho])
 | true=>cases hr:JE x with
  | true=>exact QM3 x 11 (HR x hs ho hr) (by decide) (by simp only[Qz,ho,hr])
  | false=>
   by_cases hp:0<x.scans.n
   ·exact QUd x hs ho hr hp
   ·obtain⟨d,⟨n,sc⟩,hang,lo,fo⟩:=x;obtain rfl:n=0:=by simp only at hp;omega
    exact QZ2 d sc hang lo fo hs ho hr
theorem QVY:QO Try.prog 25 QNB:=zr (by kernel_rfl) fun|(x,()),hx=>QYS x hx
def QUW(b:Nat)(f:List QB)(moved turned:Int):List (Nat×Blk):=[(120,.cells 0 38 [.slz b 0 f.length (.of 0)]),rwL b f,(112,.cells 0 92 [.int false .i64 moved]),(104,.cells 0 92 [.int false .i64 turned])]
def Wi:JSt:=⟨53,[(6,.ptr 104 0 0),(7,.ptr 112 0 0),(8,.ptr 120 0 0),(29,.int false .i64 f.length),(30,.int false .i64 k)],QUW 464 f moved turned,472⟩
def QFQ:JSt:=⟨53,[(8,.ptr 120 0 0)],[(120,.cells 0 38 [.slz 464 0 f.length (.of 0)]),rwL 464 f],472⟩
def QLG:Ex→List Nat
 | .normal=>[6,7,8,29,30]
 | .exit _=>[8]
 | .ret=>[]
def j4:AV := .tup [.slz 0 0 f.length (.of 0),.int false .i64 e]
noncomputable abbrev QAx:List AV:=
  [.nilp,.ptr 53 0 0,.ptr 104 0 0,.ptr 112 0 0,.ptr 120 0 0,vi (f.length:Int),vi (i64.wrap ((k:Int)+1))]
noncomputable abbrev QAQ:Nat×Blk:=
  (104,.cells 0 92 [vi turned])
noncomputable abbrev QBT:Nat×Blk:=
  (112,.cells 0 92 [vi moved])
noncomputable abbrev GQ:Nat×Blk:=
  (120,.cells 0 38 [.slz 464 0 f.length cO])
noncomputable abbrev QCN:List AV:=
  [vj (-1),vj 0]
noncomputable abbrev QLH(moved:Int)(turned:Int):List (Nat×Blk):=
  [(QAQ turned),(QBT moved),(GQ f),(464,.rowz true 56 [.int .i64,.int .i64] f.length fun i=>bif decide (i=k)then Kq QCN 0 (bif decide (k=k)then Kq [.int true
  .i64 0] 1 (QA.enc (f.getD k ⟨0,0⟩))else QA.enc (f.getD k ⟨0,0⟩))else bif decide (i=k)then Kq [vj 0] 1 (QA.enc (f.getD k ⟨0,0⟩))else QA.enc (f.getD i
  ⟨0,0⟩))]
noncomputable abbrev QL2(moved:Int)(turned:Int):List (Nat×Blk):=
  [(QAQ turned),(QBT moved),(GQ f),(464,.rowz true 56 [.int .i64,.int .i64] f.length fun i=>bif decide (i=k)then Kq QCN 0 (QA.enc (f.getD k ⟨0,0⟩))else QA.enc
  (f.getD i ⟨0,0⟩))]
theorem QQ3(g:Nat→Value):exec (mkE Try.prog Qj) (hnd (mkE Try.prog Qj) 3) (QW Try.f33 0) (JSt.inst (Wi f moved turned k) g) (KF [] QLG) = .br (decide ((k:Int)<(f.length:Int)))
  (.need (decide ((0:Int)≤(k:Int))) (.br (i64.wrap (↑(BitVec.ofInt 64 (turned.fdiv ((2:Int)^min k 64)) &&& BitVec.ofInt 64 (1:Int)).toNat:Int)==1) (.need
  (decide ((0:Int)≤(k:Int)∧(k:Int)<(f.length:Int))&&decide (f.length≤f.length)) (.need (decide (k<f.length)) (.need (decide ((0:Int)≤(k:Int))) (.br
  (i64.wrap (↑(BitVec.ofInt 64 (moved.fdiv ((2:Int)^min k 64)) &&& BitVec.ofInt 64 (1:Int)).toNat:Int)==1) (.need (decide ((0:Int)≤(k:Int)∧(k:Int) <
  (f.length:Int))&&decide (f.length≤f.length)) (.need (decide (k<f.length)) (.leaf (.tup (QAx f k)) ((QLH f k moved turned))))) (.leaf (.tup (QAx f k)) ([(QAQ turned),
  (QBT moved),(GQ f),(464,.rowz true 56 [.int .i64,.int .i64] f.length fun i=>bif decide (i=k)then Kq [vj 0] 1 (QA.enc (f.getD k ⟨0,0⟩))else QA.enc
  (f.getD i ⟨0,0⟩))])))))) (.need (decide ((0:Int)≤(k:Int))) (.br (i64.wrap (↑(BitVec.ofInt 64 (moved.fdiv ((2:Int)^min k 64)) &&& BitVec.ofInt 64 (1:Int)).toNat
  : Int)==1) (.need (decide ((0:Int)≤(k:Int)∧(k:Int)<(f.length:Int))&&decide (f.length≤f.length)) (.need (decide (k<f.length)) (.leaf (.tup (QAx f k)) ((QL2 f
  k moved turned))))) (.leaf (.tup (QAx f k)) ([(QAQ turned),(QBT moved),(GQ f),(464,.rowz true 56 [.int .i64,.int .i64] f.length fun i=>QA.enc (f.getD i ⟨0,0⟩))]))))))
  (.leaf (.tup [.ptr 0 0 0,.ptr 53 0 0,.ptr 120 0 0]) ([(GQ f),(464,.rowz true 56 [.int .i64,.int .i64] f.length fun i=>QA.enc (f.getD i ⟨0,0⟩))])):=by kernel_rfl
theorem QSB:KR (mkE Try.prog (Ka pb (opE x e))) (hnd (mkE Try.prog (Ka pb (opE x e))) 1) Try.f33 (QX.vals 0 ((x,()):QE×Unit)) (QX.blks 0 ((x,()):QE×Unit)) 8 =
  QD.need (pb ([x.d.play.length = x.d.play.length, x.d.play.slack = x.d.play.slack, x.d.play.loose = x.d.play.loose, x.d.play.damp.lo = x.d.play.damp.lo, x.d.play.damp.hi = x.d.play.damp.hi, x.d.wide = x.d.wide, x.d.high = x.d.high, x.d.turn = x.d.turn, (0 : Nat) = (0 : Nat), x.d.ps.n = x.d.ps.n, Cap.of (0 : Nat) = Cap.of (0 : Nat), (0 : Nat) = (0 : Nat), x.scans.n = x.scans.n, Cap.of (0 : Nat) = Cap.of (0 : Nat), (0 : Nat) = (0 : Nat), x.hang.n = x.hang.n, Cap.of (0 : Nat) = Cap.of (0 : Nat), x.lost = x.lost, x.foreign = x.foreign, x.d.ps.n ≤ x.d.ps.n, QC (28 : Nat) x.d.ps.n (fun i => QA.enc (x.d.ps.get i)) fun i => QA.enc (x.d.ps.get i), x.scans.n ≤ x.scans.n, QC (28 : Nat) x.scans.n (fun i => QA.enc (x.scans.get i)) fun i => QA.enc (x.scans.get i), x.hang.n ≤ x.hang.n, QC (4 : Nat) x.hang.n (fun i => QA.enc (x.hang.get i)) fun i => QA.enc (x.hang.get i)])) (QD.br (e != (0 : Int)) (QD.leaf (AV.tup [AV.nils, AV.int false i64 e]) ([])) (QD.fail ("a call without a contract"))) := by kernel_rfl
theorem QQo(d:Puz)(s:Nat→QT)(hang:Rw Jn)(lo fo:Int):KR (mkE Try.prog (Ka pb (opO ⟨d,⟨0,s⟩,hang,lo,fo⟩ []))) (hnd (mkE Try.prog (Ka pb (opO ⟨d,⟨0,s⟩,hang,lo,fo⟩ []))) 8) Try.f33 (QX.vals 0 ((⟨d,⟨0,s⟩,hang,lo,fo⟩,()):QE×Unit)) (QX.blks 0 ((⟨d,⟨0,s⟩,hang,lo,fo⟩,()):QE×Unit)) 8 =
  QD.need (pb ([d.play.length = d.play.length, d.play.slack = d.play.slack, d.play.loose = d.play.loose, d.play.damp.lo = d.play.damp.lo, d.play.damp.hi = d.play.damp.hi, d.wide = d.wide, d.high = d.high, d.turn = d.turn, (0 : Nat) = (0 : Nat), d.ps.n = d.ps.n, Cap.of (0 : Nat) = Cap.of (0 : Nat), (0 : Nat) = (0 : Nat), (0 : Nat) = (0 : Nat), Cap.of (0 : Nat) = Cap.of (0 : Nat), (0 : Nat) = (0 : Nat), hang.n = hang.n, Cap.of (0 : Nat) = Cap.of (0 : Nat), lo = lo, fo = fo, d.ps.n ≤ d.ps.n, QC (28 : Nat) d.ps.n (fun i => QA.enc (d.ps.get i)) fun i => QA.enc (d.ps.get i), (0 : Nat) ≤ (0 : Nat), QC (28 : Nat) (0 : Nat) (fun i => QA.enc ((Rw.mk (0 : Nat) s).get i)) fun i => QA.enc ((Rw.mk (0 : Nat) s).get i), hang.n ≤ hang.n, QC (4 : Nat) hang.n (fun i => QA.enc (hang.get i)) fun i => QA.enc (hang.get i)])) (QD.br (true) (QD.br (decide (i64.wrap ((↑d.ps.n : Int) - (0 : Int)) > lo)) (QD.leaf (AV.tup [AV.nils, AV.int true i64 (6 : Int)]) ([])) (QD.leaf (AV.tup [AV.nils, AV.int true i64 (0 : Int)]) ([]))) (QD.need (false) (QD.fail ("scan.go:188")))) := by kernel_rfl
def GX(U:UC):Tab:=Qd (Ka pb (opO x C)) 77 (Jd pb U)
abbrev QGS(P:Program)(T:Tab)(f f2:List QB)(moved turned:Int):Hnd:={ hnd (mkE P T) 8 with loop:=fun _=>Q7 8 [] (Wi f moved turned (0:Nat)) [(True,.exit 0,QFQ f2)] }
theorem QPV(has':Int→Bool)(many' n':Int)(f':List QB)(moved' turned':Int)(f2:List QB):KR (mkE Try.prog (GX pb x C (tdU x C (QK Try.f53 0).1 (QK Try.f53 0).2 [] noH 0 0 [] 0 0 has' many' n' f' moved' turned'))) (QGS Try.prog (GX pb x C (tdU x C
  (QK Try.f53 0).1 (QK Try.f53 0).2 [] noH 0 0 [] 0 0 has' many' n' f' moved' turned')) f' f2 moved' turned') Try.f33 (QX.vals 0 ((x,()):QE×Unit)) (QX.blks 0 ((x,
  ()):QE×Unit)) 8 = .need (pb ([x.d.play.length=x.d.play.length,x.d.play.slack=x.d.play.slack,x.d.play.loose=x.d.play.loose,x.d.play.damp.lo=x.d.play.damp.lo,
  x.d.play.damp.hi=x.d.play.damp.hi,x.d.wide=x.d.wide,x.d.high=x.d.high,x.d.turn=x.d.turn,0=0,x.d.ps.n=x.d.ps.n,cO=cO,0=0,x.scans.n=x.scans.n,
  cO=cO,0=0,x.hang.n=x.hang.n,cO=cO,x.lost=x.lost,x.foreign=x.foreign,x.d.ps.n≤x.d.ps.n,QC 28 x.d.ps.n (fun i=>QA.enc (x.d.ps.get
  i)) fun i=>QA.enc (x.d.ps.get i),x.scans.n≤x.scans.n,QC 28 x.scans.n (fun i=>QA.enc (x.scans.get i)) fun i=>QA.enc (x.scans.get i),x.hang.n≤x.hang.n,QC 4
  x.hang.n (fun i=>QA.enc (x.hang.get i)) fun i=>QA.enc (x.hang.get i)])) (.need (pb ([0=0,0=0,0=0,0=0,0=0,0=0,0=0,0=0,0=0,0=0,0=0,0=0,([]
  : List MapEntry)=[],jq (.int true .i64 0) noH fun i => .int false .i64 (QG [] i),LoopState.ready=LoopState.ready,(none:Option Code)=none,Array.mk [12]=Array.mk
  [12],(QK Try.f53 0).1=(QK Try.f53 0).1,(QK Try.f53 0).2=(QK Try.f53 0).2,0=0,0=0,(0:Int)=0,Fn.func 62=Fn.func 62,0=0,0=0,0=0,0=0,0 =
  0,0=0,0=0,0=0,0=0,0=0,(0:Int)=0,false=false,0=0,0=0,0=0,0=0,Fn.func 76=Fn.func 76,0=0,0=0,(0:Int)=0,(0:Int)=0,0=0,0=0,(0
  : Int)=0,(0:Int)=0,Fn.func 77=Fn.func 77,0=0,0=0,0=0,0=0,0=0,0=0,0=0,0=0,0=0,0=0,0=0,0=0,Fn.func 62=Fn.func 62,0=0,0=0,0=0,
  0=0,0=0,0=0,x.d.play.length=x.d.play.length,x.d.play.slack=x.d.play.slack,x.d.play.loose=x.d.play.loose,x.d.play.damp.lo=x.d.play.damp.lo,x.d.play.damp.hi =
  x.d.play.damp.hi,x.d.wide=x.d.wide,x.d.high=x.d.high,x.d.turn=x.d.turn,0=0,x.d.ps.n=x.d.ps.n,cO=cO,0=0,x.scans.n=x.scans.n,cO=cO,
  0=0,x.hang.n=x.hang.n,cO=cO,x.lost=x.lost,x.foreign=x.foreign,0=0,C.length=C.length,cO=cO,C.length=C.length,KM 2 C.length
  (fun i=>(QH C i).length) (fun i=>(QH C i).length) (fun i j=>QA.enc ((QH C i).getD j ⟨0,0⟩)) fun i j=>QA.enc ((QH C i).getD j ⟨0,0⟩),x.d.ps.n≤x.d.ps.n,
  QC 28 x.d.ps.n (fun i=>QA.enc (x.d.ps.get i)) fun i=>QA.enc (x.d.ps.get i),x.scans.n≤x.scans.n,QC 28 x.scans.n (fun i=>QA.enc (x.scans.get i)) fun i=>
  QA.enc (x.scans.get i),x.hang.n≤x.hang.n,QC 4 x.hang.n (fun i=>QA.enc (x.hang.get i)) fun i=>QA.enc (x.hang.get i)])) (.br (!decide (many'>0)) (.leaf (.tup
  [.nils,vj 6]) ([])) (.ask (0=0) (.ask (0=0) (.ask (0=0) (.ask (0=0) (.ask (0=0) (.ask (0=0) (.ask ((f'.length:Int)=(f'.length:Int)) (.ask ((0:Int) =
  0) (.ask (0=0) (.ask (f'.length=f'.length) (.ask (cO=cO) (.ask (f'.length≤f'.length) (.ask (QC 2 f'.length (fun i=>QA.enc (f'.getD i ⟨0,0⟩)) fun i=>
  QA.enc (f'.getD i ⟨0,0⟩)) (.ask (moved'=moved') (.ask (turned'=turned') (.asm (True) (.all (fun(g0:Nat→Value) => .leaf (.tup [.slz 464 0 f2.length cO,.int true
  .i64 0]) ([(464,.rowz true 56 [.int .i64,.int .i64] f2.length fun i=>QA.enc (f2.getD i ⟨0,0⟩))]))))))))))))))))))))):=by kernel_rfl
noncomputable abbrev QOX:List AV:=
  [.ptr 104 0 0,.ptr 112 0 0,.ptr 120 0 0,vi (f.length:Int),vi (i64.wrap ((k:Int)+1))]
abbrev QIP:List Prop:=
  [0=0,0=0,0=0,0=0]
abbrev QM2(k':Nat):List Prop:=
  [0=0,0=0,(f.length:Int)=(f'.length:Int),i64.wrap ((k:Int)+1)=(k':Int),0=0,f.length=f'.length,cO=cO,f'.length≤f.length]
theorem QYz(moved turned:Int)(k k':Nat):QL 8 (QOX f k) ((QLH f k moved turned)) (Wi f' moved turned k')=(some (QIP++(QM2 f f' k k')++[QC 2 f'.length (fun i=>bif decide (i=k)then Kq QCN 0 (bif
  decide (k=k)then Kq [vj 0] 1 (QA.enc (f.getD k ⟨0,0⟩))else QA.enc (f.getD k ⟨0,0⟩))else bif decide (i=k)then Kq [vj 0] 1 (QA.enc (f.getD
  k ⟨0,0⟩))else QA.enc (f.getD i ⟨0,0⟩)) fun i=>QA.enc (f'.getD i ⟨0,0⟩),moved=moved,turned=turned])):=by kernel_rfl
theorem QS4(moved turned:Int)(k k':Nat):QL 8 [AV.ptr (104:Nat) (0:Nat) (0:Nat),AV.ptr (112:Nat) (0:Nat) (0:Nat),AV.ptr (120:Nat) (0:Nat) (0:Nat),AV.int false i64 (↑f.length:Int),AV.int false i64 (i64.wrap ((↑k:Int)+(1:Int)))] ([((104:Nat),Blk.cells (0:Nat) (92:Nat) [AV.int false i64 turned]),((112:Nat),Blk.cells (0:Nat) (92:Nat) [AV.int false i64 moved]),((120:Nat),Blk.cells (0:Nat) (38:Nat) [AV.slz (464:Nat) (0:Nat) f.length (Cap.of (0:Nat))]),((464:Nat),Blk.rowz true (56:Nat) [CK.int i64,CK.int i64] f.length fun i=>bif decide (i=k)then Kq [AV.int true i64 (0:Int)] (1:Nat) (QA.enc (f.getD k (QB.mk (0:Int) (0:Int))))else QA.enc (f.getD i (QB.mk (0:Int) (0:Int))))]) (Wi f' moved turned k')=(
  some [(0:Nat)=(0:Nat),(0:Nat)=(0:Nat),(0:Nat)=(0:Nat),(0:Nat)=(0:Nat),(0:Nat)=(0:Nat),(0:Nat)=(0:Nat),(↑f.length:Int)=(↑f'.length :
  Int),i64.wrap ((↑k:Int)+(1:Int))=(↑k':Int),(0:Nat)=(0:Nat),f.length=f'.length,Cap.of (0:Nat)=Cap.of (0:Nat),f'.length≤f.length,QC (2 :
  Nat) f'.length (fun i=>bif decide (i=k)then Kq [AV.int true i64 (0:Int)] (1:Nat) (QA.enc (f.getD k (QB.mk (0:Int) (0:Int))))else QA.enc (f.getD i
  (QB.mk (0:Int) (0:Int)))) fun i=>QA.enc (f'.getD i (QB.mk (0:Int) (0:Int))),moved=moved,turned=turned]):=by kernel_rfl
theorem QS6(moved turned:Int)(k k':Nat):QL 8 (QOX f k) ((QL2 f k moved turned)) (Wi f' moved turned k')=(some (QIP++(QM2 f f' k k')++[QC 2 f'.length (fun i=>bif decide (i=k)then Kq QCN 0
  (QA.enc (f.getD k ⟨0,0⟩))else QA.enc (f.getD i ⟨0,0⟩)) fun i=>QA.enc (f'.getD i ⟨0,0⟩),moved=moved,turned=turned])):=by kernel_rfl
theorem QW8(moved turned:Int)(k k':Nat):QL 8 [AV.ptr (104:Nat) (0:Nat) (0:Nat),AV.ptr (112:Nat) (0:Nat) (0:Nat),AV.ptr (120:Nat) (0:Nat) (0:Nat),AV.int false i64 (↑f.length:Int),AV.int false i64 (i64.wrap ((↑k:Int)+(1:Int)))] ([((104:Nat),Blk.cells (0:Nat) (92:Nat) [AV.int false i64 turned]),((112:Nat),Blk.cells (0:Nat) (92:Nat) [AV.int false i64 moved]),((120:Nat),Blk.cells (0:Nat) (38:Nat) [AV.slz (464:Nat) (0:Nat) f.length (Cap.of (0:Nat))]),((464:Nat),Blk.rowz true (56:Nat) [CK.int i64,CK.int i64] f.length fun i=>QA.enc (f.getD i (QB.mk (0:Int) (0:Int))))]) (Wi f' moved turned k')=(
  some [(0:Nat)=(0:Nat),(0:Nat)=(0:Nat),(0:Nat)=(0:Nat),(0:Nat)=(0:Nat),(0:Nat)=(0:Nat),(0:Nat)=(0:Nat),(↑f.length:Int)=(↑f'.length :
  Int),i64.wrap ((↑k:Int)+(1:Int))=(↑k':Int),(0:Nat)=(0:Nat),f.length=f'.length,Cap.of (0:Nat)=Cap.of (0:Nat),f'.length≤f.length,QC (2 :
  Nat) f'.length (fun i=>QA.enc (f.getD i (QB.mk (0:Int) (0:Int)))) fun i=>QA.enc (f'.getD i (QB.mk (0:Int) (0:Int))),moved=moved,turned=turned]):=by kernel_rfl
theorem QYR:QL 8 [AV.ptr (120:Nat) (0:Nat) (0:Nat)] ([((120:Nat),Blk.cells (0:Nat) (38:Nat) [AV.slz (464:Nat) (0:Nat) f.length (Cap.of (0:Nat))]),((464:Nat),Blk.rowz true (56:Nat) [CK.int i64,CK.int i64] f.length fun i=>QA.enc (f.getD i (QB.mk (0:Int) (0:Int))))]) (QFQ f')=(
  some [(0:Nat)=(0:Nat),(0:Nat)=(0:Nat),(0:Nat)=(0:Nat),f.length=f'.length,Cap.of (0:Nat)=Cap.of (0:Nat),f'.length≤f.length,QC (2:Nat)
  f'.length (fun i=>QA.enc (f.getD i (QB.mk (0:Int) (0:Int)))) fun i=>QA.enc (f'.getD i (QB.mk (0:Int) (0:Int)))]):=by kernel_rfl
theorem QPd(f:List QB)(e':Int):QL 8 [(AV.tup [AV.nils,AV.int false i64 e])] ([]) (KW 8 (j4 f e') [KN 56 0 f ⟨0,0⟩])=(
  some [f.length=(0:Nat),e=e',f.length=(0:Nat)]):=by kernel_rfl
theorem QY8:QL 8 [(AV.tup [AV.nils,AV.int true i64 (6:Int)])] ([]) (KW 8 (j4 f e') [KN 56 0 f ⟨0,0⟩])=(
  some [f.length=(0:Nat),(6:Int)=e',f.length=(0:Nat)]):=by kernel_rfl
theorem QWz:QL 8 [(AV.tup [AV.nils,AV.int true i64 (0:Int)])] ([]) (KW 8 (j4 f e') [KN 56 0 f ⟨0,0⟩])=(
  some [f.length=(0:Nat),(0:Int)=e',f.length=(0:Nat)]):=by kernel_rfl
theorem QYO:QL 8 [(AV.tup [AV.nils,AV.int true i64 (6:Int)])] ([]) (KW 8 (j4 f e') [KN 56 0 f ⟨0,0⟩])=(
  some [f.length=(0:Nat),(6:Int)=e',f.length=(0:Nat)]):=by kernel_rfl
theorem QY5(f2:List QB)(f:List QB)(e':Int):QL 8 [(AV.tup [AV.slz (464:Nat) (0:Nat) f2.length (Cap.of (0:Nat)),AV.int true i64 (0:Int)])] ([((464:Nat),Blk.rowz true (56:Nat) [CK.int i64,CK.int i64] f2.length fun i=>QA.enc (f2.getD i (QB.mk (0:Int) (0:Int))))]) (KW 8 (j4 f e') [KN 56 0 f ⟨0,0⟩])=(
  some [(0:Nat)=(0:Nat),f2.length=f.length,Cap.of (0:Nat)=Cap.of (0:Nat),(0:Int)=e',f.length≤f2.length,QC (2:Nat) f.length (fun i=>QA.enc (f2.getD i
  (QB.mk (0:Int) (0:Int)))) fun i=>QA.enc (f.getD i (QB.mk (0:Int) (0:Int)))]):=by kernel_rfl
def bitV(s:Int)(k:Nat):Bool:=i64.wrap (((BitVec.ofInt 64 (s.fdiv (2^min k 64)) &&& BitVec.ofInt 64 1).toNat:Nat):Int)==1
def Xk(m t:Int)(k:Nat)(c:QB):QB:=match bitV m k with
 | true=>⟨-1,0⟩
 | false=>match bitV t k with
  | true=>⟨c.cell,0⟩
  | false=>c
def Kg(f:List QB)(m t:Int):Nat→List QB
 | 0=>f
 | k+1=>(Kg f m t k).set k (Xk m t k ((Kg f m t k).getD k ⟨0,0⟩))
theorem qj(f:List QB)(m t:Int):∀ k,(Kg f m t k).length=f.length
 | 0=>rfl
 | k+1=>by rw[Kg,List.length_set];exact qj f m t k
theorem HV{L:List QB}{k:Nat}(h:k<L.length){c:QB}(G:Nat→Nat→Int)(h1:∀ i,i≠k→eqF 2 0 (G i) (QA.enc (L.getD i ⟨0,0⟩)))(h2:eqF 2 0 (G k) (QA.enc c)):QC 2 (L.set k c).length G (fun i=>QA.enc ((L.set k c).getD i ⟨0,0⟩)):=by
 intro i hi;show eqF 2 0 (G i) (QA.enc ((L.set k c).getD i ⟨0,0⟩))
 by_cases e:i=k
 ·subst e;rw[List.getD_eq_getElem?_getD,List.getElem?_set_self h];exact h2
 ·rw[List.getD_eq_getElem?_getD,List.getElem?_set_ne (fun q=>e q.symm),←List.getD_eq_getElem?_getD];exact h1 i e
theorem QWu(hf:f.length≤1000):K0 (fun k=>Wi (Kg f moved turned k) moved turned k) (fun k=>k≤f.length) (fun k=>f.length-k) (fun _ e J=>e = .exit 0∧J=QFQ (Kg f moved turned f.length)) 8 QLG [] (mkE Try.prog Qj) (fun _=>hnd (mkE Try.prog Qj) 3) (QW Try.f33 0):=by
 refine⟨fun k g hk=>Qt (QQ3 (Kg f moved turned k) moved turned k g) ?_⟩;have hl:=qj f moved turned k;have hl2:=qj f moved turned (k+1);refine QI (fun h => ?_) (fun h => ?_)
 ·have h:k<f.length:=by have:=qdt h;rw[hl]at this;omega
  have hw:=Kj h hf;refine QF (by simp) (QI (fun ht=>QF (by rw[hl];simp;omega) (QF (by rw[hl];simp;omega) (QF (by simp) (QI (fun hm=>QF (by rw[hl];simp;omega) (QF (by rw[hl];simp;omega) ?_)) (fun hm => ?_))))) (fun ht=>QF (by simp) (QI (fun hm=>QF (by rw[hl];simp;omega) (QF (by rw[hl];simp;omega) ?_)) (fun hm => ?_))))
  ·refine⟨k+1,h,by show f.length-(k+1)<f.length-k;omega,fun _ _ h=>h,rfl,rfl,_,QYz (Kg f moved turned k) (Kg f moved turned (k+1)) moved turned k (k+1),?_⟩
   have e1:Xk moved turned k ((Kg f moved turned k).getD k ⟨0,0⟩)=⟨-1,0⟩:=by simp only[Xk,bitV,ht,hm]
   repeat' first|with_reducible refine QN ?_ ?_|exact trivial|with_reducible rfl|exact qlr _|exact qRr|exact QU _ _ _ _|exact hw|exact hl.trans hl2.symm|exact hl2.trans hl.symm|exact congrArg (fun n:Nat=>(n:Int)) (hl.trans hl2.symm)|exact hl2.symm|exact Nat.le_of_eq (hl2.trans hl.symm)|exact HV (by rw[hl];exact h) _ (fun i hi=>by simp only[decide_eq_false hi,cond_false];exact Yk _ _ _) (by rw[e1];simp only[decide_true,cond_true];exact⟨rfl,rfl,trivial⟩)|refine And.intro ?_ ?_
  ·refine⟨k+1,h,by show f.length-(k+1)<f.length-k;omega,fun _ _ h=>h,rfl,rfl,_,QS4 (Kg f moved turned k) (Kg f moved turned (k+1)) moved turned k (k+1),?_⟩
   have e1:Xk moved turned k ((Kg f moved turned k).getD k ⟨0,0⟩)=⟨((Kg f moved turned k).getD k ⟨0,0⟩).cell,0⟩:=by simp only[Xk,bitV,ht,hm]
   repeat' first|with_reducible refine QN ?_ ?_|exact trivial|with_reducible rfl|exact qlr _|exact qRr|exact QU _ _ _ _|exact hw|exact hl.trans hl2.symm|exact hl2.trans hl.symm|exact congrArg (fun n:Nat=>(n:Int)) (hl.trans hl2.symm)|exact hl2.symm|exact Nat.le_of_eq (hl2.trans hl.symm)|exact HV (by rw[hl];exact h) _ (fun i hi=>by simp only[decide_eq_false hi,cond_false];exact Yk _ _ _) (by rw[e1];simp only[decide_true,cond_true];exact⟨rfl,rfl,trivial⟩)|refine And.intro ?_ ?_
  ·refine⟨k+1,h,by show f.length-(k+1)<f.length-k;omega,fun _ _ h=>h,rfl,rfl,_,QS6 (Kg f moved turned k) (Kg f moved turned (k+1)) moved turned k (k+1),?_⟩
   have e1:Xk moved turned k ((Kg f moved turned k).getD k ⟨0,0⟩)=⟨-1,0⟩:=by simp only[Xk,bitV,ht,hm]
   repeat' first|with_reducible refine QN ?_ ?_|exact trivial|with_reducible rfl|exact qlr _|exact qRr|exact QU _ _ _ _|exact hw|exact hl.trans hl2.symm|exact hl2.trans hl.symm|exact congrArg (fun n:Nat=>(n:Int)) (hl.trans hl2.symm)|exact hl2.symm|exact Nat.le_of_eq (hl2.trans hl.symm)|exact HV (by rw[hl];exact h) _ (fun i hi=>by simp only[decide_eq_false hi,cond_false];exact Yk _ _ _) (by rw[e1];simp only[decide_true,cond_true];exact⟨rfl,rfl,trivial⟩)|refine And.intro ?_ ?_
  ·refine⟨k+1,h,by show f.length-(k+1)<f.length-k;omega,fun _ _ h=>h,rfl,rfl,_,QW8 (Kg f moved turned k) (Kg f moved turned (k+1)) moved turned k (k+1),?_⟩
   have e1:Xk moved turned k ((Kg f moved turned k).getD k ⟨0,0⟩)=(Kg f moved turned k).getD k ⟨0,0⟩:=by simp only[Xk,bitV,ht,hm]
   repeat' first|with_reducible refine QN ?_ ?_|exact trivial|with_reducible rfl|exact qlr _|exact qRr|exact QU _ _ _ _|exact hw|exact hl.trans hl2.symm|exact hl2.trans hl.symm|exact congrArg (fun n:Nat=>(n:Int)) (hl.trans hl2.symm)|exact hl2.symm|exact Nat.le_of_eq (hl2.trans hl.symm)|exact HV (by rw[hl];exact h) _ (fun i hi=>Yk _ _ _) (by rw[e1];exact Yk _ _ _)|refine And.intro ?_ ?_
 ·have:k=f.length:=by have:=of_decide_eq_false h;rw[hl]at this;omega
  subst this;refine⟨_,⟨rfl,rfl⟩,rfl,rfl,_,QYR (Kg f moved turned f.length) (Kg f moved turned f.length),?_⟩
  repeat' first|with_reducible refine QN ?_ ?_|exact trivial|with_reducible rfl|exact qlr _|exact qRr|exact QU _ _ _ _|refine And.intro ?_ ?_
theorem QWY{T:Tab}(hT:QZ T)(f:List QB)(moved turned:Int)(hf:f.length≤1000)(G:Ctx)(hrd:G.rd=none)(hG:G.n=8):Q1 (mkE Try.prog T) G (QGS Try.prog T f (Kg f moved turned f.length) moved turned) (Qo Try.f33):=by
 refine JF (body:=QW Try.f33 0) (QP hT) hrd (by kernel_rfl) ?_
 refine X0 (E:=mkE Try.prog Qj) rfl (JG (n0:=8) (QP Qv) (by omega) (fun s hs=>Qq (QP Qv) 3 G _ hrd) (fun s hs=>(by decide:8≤472)) ?_ (QWu f moved turned hf) (s0:=0) (Nat.zero_le _) ?_)
 ·rintro s e J ⟨_,rfl⟩;exact(by decide:8≤472)
 ·rintro e J ⟨rfl,rfl⟩;exact⟨_,List.mem_cons_self,trivial,rfl,rfl⟩
def tdS:Res TdS:=onT x (Qk x x.scans.n) tdY x.scans.n [] (0,0,[],0,0) noH
def Kh:List QB×Int:=match x.ok with
 | false=>([],1)
 | true=>match JE x with
  | true=>([],11)
  | false=>match tdS x with
   | .stop s _ | .go s _=>match decide (s.1>0)with
    | false=>([],6)
    | true=>(Kg s.2.2.1 s.2.2.2.1 s.2.2.2.2 s.2.2.1.length,0)
def Vy:WF (QE×Unit):=fun|(x,_)=>(decide (x.d.ps.n≤1000∧x.scans.n≤1000∧x.hang.n≤1000),j4 (Kh x).1 (Kh x).2,[KN 56 0 (Kh x).1 ⟨0,0⟩])
def QHM:FC:=wFC Vy
theorem QEG:WOk (Vy (x,())).2.1 (Vy (x,())).2.2:=⟨rfl,by simp[Vy,KN,Blk.own,Blk.all],rfl⟩
theorem QON(ht:QO Try.prog 49 (uFC (opE x e)))(he:e≠0)(hv:Kh x=([],e)):QO Try.prog 33 (wFC (Je Vy (x,()))):=by
 have hT:QZ (Ka QY (opE x e)):=Qv.add ht;refine Xt (c:=Qo Try.f33) (E:=mkE Try.prog (Ka QY (opE x e))) (H:=hnd (mkE Try.prog (Ka QY (opE x e))) 1) (QP hT) Try.func33 (by kernel_rfl) (by kernel_rfl) (N:=8) (by decide) (x,()) (fun G h1 _=>Qq (QP hT) 1 G _ h1) (QEG x) ?_
 refine Qt (QSB QY x e) ?_;refine QF (KL.2 ?_) (QI (fun _ => ?_) (fun h=>by simp at h;exact absurd h he))
 ·repeat' first|with_reducible refine QN ?_ ?_|exact trivial|with_reducible rfl|exact qlr _|exact qRr|exact QU _ _ _ _|refine And.intro ?_ ?_
 ·simp only[Vy,hv];refine⟨rfl,rfl,_,QPd e [] e,?_⟩
  repeat' first|with_reducible refine QN ?_ ?_|exact trivial|with_reducible rfl|exact qlr _|exact qRr|exact QU _ _ _ _|exact rfl|refine And.intro ?_ ?_
theorem QP1{x:QE}:∀(d:Nat) (l:List QB) (s:TdS) (h:Int→Bool) {s':TdS} {h':Int→Bool},l.length+d=x.scans.n→(s.2.2.1.length=0∨s.2.2.1.length=x.scans.n)→onT x (Qk x x.scans.n) tdY d l s h = .go s' h'→s'.2.2.1.length=0∨s'.2.2.1.length=x.scans.n:=fun d l s h {s' h'} hn hg he=>H7 (G:=fun s:TdS=>s.2.2.1.length=0∨s.2.2.1.length=x.scans.n) (fun s l hg hl=>by
  show(Q9 s.2.1 l s.2.2.1).length=0∨(Q9 s.2.1 l s.2.2.1).length=x.scans.n;unfold Q9;split
  ·exact .inr hl
  ·exact hg) d l s h hn hg he
theorem QXO(hs:Xb x)(hx:x.ok=true)(hr:JE x=false)(hpos:0<x.scans.n):QO Try.prog 33 (wFC (Je Vy (x,()))):=by
 have hg:=Xc hx;have hss:=hs.s;have hC:=QCE (x:=x) hg.d.n9;have hon:=QNW hg hC hpos x.scans.n [] (0,0,[],0,0) noH (by simp) (fun c hc=>by cases hc) (fun q=>by cases q)
 obtain⟨s,h,he⟩:=Yv (C:=Qk x x.scans.n) (x:=x) (Y:=tdY) (fun _ _=>rfl) x.scans.n [] (0,0,[],0,0) noH;rw[he]at hon
 have hlen:s.2.2.1.length≤1000:=by
  rcases QP1 (x:=x) x.scans.n [] (0,0,[],0,0) noH (by simp) (.inl rfl) he with q|q<;>omega
 have hT:QZ (GX QY x (Qk x x.scans.n) (tdU x (Qk x x.scans.n) YI YL [] noH 0 0 [] 0 0 h s.1 s.2.1 s.2.2.1 s.2.2.2.1 s.2.2.2.2)):=(Qv.add (qO x hs hx hr)).add hon
 have hv:Kh x=match decide (s.1>0)with
   | false=>([],6)
   | true=>(Kg s.2.2.1 s.2.2.2.1 s.2.2.2.2 s.2.2.1.length,0):=by
  simp only[Kh,hx,hr,tdS,he]
 refine Xt (c:=Qo Try.f33) (E:=mkE Try.prog (GX QY x (Qk x x.scans.n) (tdU x (Qk x x.scans.n) YI YL [] noH 0 0 [] 0 0 h s.1 s.2.1 s.2.2.1 s.2.2.2.1 s.2.2.2.2))) (H:=QGS Try.prog (GX QY x (Qk x x.scans.n) (tdU x (Qk x x.scans.n) YI YL [] noH 0 0 [] 0 0 h s.1 s.2.1 s.2.2.1 s.2.2.2.1 s.2.2.2.2)) s.2.2.1 (Kg s.2.2.1 s.2.2.2.1 s.2.2.2.2 s.2.2.1.length) s.2.2.2.1 s.2.2.2.2) (QP hT) Try.func33 (by kernel_rfl) (by kernel_rfl) (N:=8) (by decide) (x,()) (fun G h1 h2=>QWY hT _ _ _ hlen G h1 h2) (QEG x) ?_
 refine Qt (QPV QY x (Qk x x.scans.n) h s.1 s.2.1 s.2.2.1 s.2.2.2.1 s.2.2.2.2 (Kg s.2.2.1 s.2.2.2.1 s.2.2.2.2 s.2.2.1.length)) ?_;refine QF (KL.2 ?_) (QF (KL.2 ?_) (QI (fun q => ?_) (fun q => ?_)))
 ·repeat' first|with_reducible refine QN ?_ ?_|exact trivial|with_reducible rfl|exact qlr _|exact qRr|exact QU _ _ _ _|refine And.intro ?_ ?_
 ·repeat' first|with_reducible refine QN ?_ ?_|exact trivial|with_reducible rfl|exact qlr _|exact qRr|exact QU _ _ _ _|exact zY _|exact rfl|refine And.intro ?_ ?_
 ·have q:decide (s.1>0)=false:=by simpa using q
  simp only[Vy,hv,q];refine⟨rfl,rfl,_,QYO [] 6,?_⟩
  repeat' first|with_reducible refine QN ?_ ?_|exact trivial|with_reducible rfl|exact qlr _|exact qRr|exact QU _ _ _ _|exact rfl|refine And.intro ?_ ?_
 ·have q:decide (s.1>0)=true:=by simpa using q
  repeat' first|refine QR (p:=_=_) rfl ?_|refine QR (p:=_≤_) (qlr _) ?_|refine QR (p:=QC _ _ _ _) (qRr) ?_
  refine KA fun _=>Q6 fun g => ?_;simp only[Vy,hv,q];refine⟨rfl,rfl,_,QY5 _ _ 0,?_⟩
  repeat' first|with_reducible refine QN ?_ ?_|exact trivial|with_reducible rfl|exact qlr _|exact qRr|exact QU _ _ _ _|exact rfl|refine And.intro ?_ ?_
theorem QYx(d:Puz)(sc:Nat→QT)(hang:Rw Jn)(lo fo:Int)(hs:Xb ⟨d,⟨0,sc⟩,hang,lo,fo⟩)(hx:(QE.mk d ⟨0,sc⟩ hang lo fo).ok=true)(hr:JE ⟨d,⟨0,sc⟩,hang,lo,fo⟩=false):QO Try.prog 33 (wFC (Je Vy (⟨d,⟨0,sc⟩,hang,lo,fo⟩,()))):=by
 have hd:=hs.d;have hd:d.ps.n≤1000:=hd;have hT:QZ (Ka QY (opO ⟨d,⟨0,sc⟩,hang,lo,fo⟩ [])):=Qv.add (qO ⟨d,⟨0,sc⟩,hang,lo,fo⟩ hs hx hr);have hw:i64.wrap ((d.ps.n:Int)-0)=d.ps.n:=(w64 (by omega) (by omega)).trans (by omega)
 have hv:Kh ⟨d,⟨0,sc⟩,hang,lo,fo⟩=match decide ((d.ps.n:Int)>lo)with
   | true=>([],6)
   | false=>([],0):=by
  simp only[Kh,hx,hr,tdS,onT,Ja,YF];simp only[show(d.ps.n:Int)-((([]:List QB).length:Int)-QG [] (-2))=d.ps.n by simp[QG]]
  cases decide ((d.ps.n:Int)>lo)<;>rfl
 refine Xt (c:=Qo Try.f33) (E:=mkE Try.prog (Ka QY (opO ⟨d,⟨0,sc⟩,hang,lo,fo⟩ []))) (H:=hnd (mkE Try.prog (Ka QY (opO ⟨d,⟨0,sc⟩,hang,lo,fo⟩ []))) 8) (QP hT) Try.func33 (by kernel_rfl) (by kernel_rfl) (N:=8) (by decide) (⟨d,⟨0,sc⟩,hang,lo,fo⟩,()) (fun G h1 _=>Qq (QP hT) 8 G _ h1) (QEG _) ?_
 refine Qt (QQo QY d sc hang lo fo) ?_;refine QF (KL.2 ?_) (QI (fun _=>QI (fun q => ?_) (fun q => ?_)) (fun q=>by cases q))
 ·repeat' first|with_reducible refine QN ?_ ?_|exact trivial|with_reducible rfl|exact qlr _|exact qRr|exact QU _ _ _ _|refine And.intro ?_ ?_
 ·rw[hw]at q;simp only[Vy,hv,q];refine⟨rfl,rfl,_,QY8 [] 6,?_⟩
  repeat' first|with_reducible refine QN ?_ ?_|exact trivial|with_reducible rfl|exact qlr _|exact qRr|exact QU _ _ _ _|exact rfl|refine And.intro ?_ ?_
 ·rw[hw]at q;simp only[Vy,hv,q];refine⟨rfl,rfl,_,QWz [] 0,?_⟩
  repeat' first|with_reducible refine QN ?_ ?_|exact trivial|with_reducible rfl|exact qlr _|exact qRr|exact QU _ _ _ _|exact rfl|refine And.intro ?_ ?_
theorem QQa(hx:(Vy (x,())).1=true):QO Try.prog 33 (wFC (Je Vy (x,()))):=by
 obtain⟨h1,h2,h3⟩:=qdt hx;have hs:Xb x:=⟨h1,h2,h3⟩;cases ho:x.ok with
 | false=>exact QON x 1 (QAE x hs ho) (by decide) (by simp only[Kh,ho])
 | true=>cases hr:JE x with
  | true=>exact QON x 11 (HR x hs ho hr) (by decide) (by simp only[Kh,ho,hr])
  | false=>
   by_cases hp:0<x.scans.n
   ·exact QXO x hs ho hr hp
   ·obtain⟨d,⟨n,sc⟩,hang,lo,fo⟩:=x;obtain rfl:n=0:=by simp only at hp;omega
    exact QYx d sc hang lo fo hs ho hr
theorem QUz:QO Try.prog 33 QHM:=zr (by kernel_rfl) fun|(x,()),hx=>QQa x hx
end Go.Proofs.Ytbpffdkemeoajaa
