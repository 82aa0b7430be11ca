/- - -/
import Derived.Test.YtbpffdkemeoajaaGreatMpze
open Go.Proofs.Tryz
open Go.IntKind (i64)
set_option maxRecDepth 100000
namespace Go.Proofs.YtbpffdkemeoajaaGreat
open Go.SX
variable (pb:List Prop->Bool)(f:List QB)(x:QD)(g:List QB)(e moved turned m:Int)(f':List QB)(k:Nat)(e':Int)(C:List (List QB))
def ZX(U:UC):Tab:=Qh (Kv pb (opO x C)) 80 (Jj pb U)
def qC(m e:Int):AV := .tup [.slz 0 0 f.length (.of 0),.slz 1 0 g.length (.of 0),.int false .i64 m,.int false .i64 e]
def WM:List (Nat×Blk):=[KF 80 0 f ⟨0,0⟩,KF 80 1 g ⟨0,0⟩]
theorem QUm:KI (mkE prog (Kv pb (opE x e))) (hnd (mkE prog (Kv pb (opE x e))) 1) f16 (QW.vals 0 ((x,()):QD×Unit)) (QW.blks 0 ((x,()):QD×Unit)) 8 =
  QE.need (pb ([x.d.pK.length = x.d.pK.length, x.d.pK.aK = x.d.pK.aK, x.d.pK.oK = x.d.pK.oK, x.d.pK.dK.lo = x.d.pK.dK.lo, x.d.pK.dK.hi = x.d.pK.dK.hi, x.d.wide = x.d.wide, x.d.high = x.d.high, x.d.turn = x.d.turn, (0 : Nat) = (0 : Nat), x.d.ps.n = x.d.ps.n, Cap.of (0 : Nat) = Cap.of (0 : Nat), (0 : Nat) = (0 : Nat), x.sK.n = x.sK.n, Cap.of (0 : Nat) = Cap.of (0 : Nat), (0 : Nat) = (0 : Nat), x.hang.n = x.hang.n, Cap.of (0 : Nat) = Cap.of (0 : Nat), x.lost = x.lost, x.fK = x.fK, x.d.ps.n <= x.d.ps.n, QC (28 : Nat) x.d.ps.n (λi=>QA.enc (x.d.ps.get i)) λi=>QA.enc (x.d.ps.get i), x.sK.n <= x.sK.n, QC (28 : Nat) x.sK.n (λi=>QA.enc (x.sK.get i)) λi=>QA.enc (x.sK.get i), x.hang.n <= x.hang.n, QC (4 : Nat) x.hang.n (λi=>QA.enc (x.hang.get i)) λi=>QA.enc (x.hang.get i)])) (QE.br (e != (0 : Int)) (QE.leaf (AV.tup [AV.nils, AV.nils, AV.int true i64 (0 : Int), AV.int false i64 e]) ([])) (QE.fail ("a call without a contract"))) := by kernel_rfl
theorem Qf5(d:Puz)(s:Nat->QQ)(hang:Rw Jn)(lo fo:Int):KI (mkE prog (Kv pb (opO ⟨d,⟨0,s⟩,hang,lo,fo⟩ []))) (hnd (mkE prog (Kv pb (opO ⟨d,⟨0,s⟩,hang,lo,fo⟩ []))) 8) f16 (QW.vals 0 ((⟨d,⟨0,s⟩,hang,lo,fo⟩,()):QD×Unit)) (QW.blks 0 ((⟨d,⟨0,s⟩,hang,lo,fo⟩,()):QD×Unit)) 8 =
  QE.need (pb ([d.pK.length = d.pK.length, d.pK.aK = d.pK.aK, d.pK.oK = d.pK.oK, d.pK.dK.lo = d.pK.dK.lo, d.pK.dK.hi = d.pK.dK.hi, d.wide = d.wide, d.high = d.high, d.turn = d.turn, (0 : Nat) = (0 : Nat), d.ps.n = d.ps.n, Cap.of (0 : Nat) = Cap.of (0 : Nat), (0 : Nat) = (0 : Nat), (0 : Nat) = (0 : Nat), Cap.of (0 : Nat) = Cap.of (0 : Nat), (0 : Nat) = (0 : Nat), hang.n = hang.n, Cap.of (0 : Nat) = Cap.of (0 : Nat), lo = lo, fo = fo, d.ps.n <= d.ps.n, QC (28 : Nat) d.ps.n (λi=>QA.enc (d.ps.get i)) λi=>QA.enc (d.ps.get i), (0 : Nat) <= (0 : Nat), QC (28 : Nat) (0 : Nat) (λi=>QA.enc ((Rw.mk (0 : Nat) s).get i)) λi=>QA.enc ((Rw.mk (0 : Nat) s).get i), hang.n <= hang.n, QC (4 : Nat) hang.n (λi=>QA.enc (hang.get i)) λi=>QA.enc (hang.get i)])) (QE.br (true) (QE.br (decide (i64.wrap ((↑d.ps.n : Int) - (0 : Int)) > lo)) (QE.leaf (AV.tup [AV.nils, AV.nils, AV.int true i64 (0 : Int), AV.int true i64 (6 : Int)]) ([])) (QE.leaf (AV.tup [AV.nils, AV.nils, AV.int true i64 (1 : Int), AV.int true i64 (0 : Int)]) ([]))) (QE.need (false) (QE.fail ("scan.go:188")))) := by kernel_rfl
abbrev QOq:List Prop:=
  [x.d.pK.length=x.d.pK.length,x.d.pK.aK=x.d.pK.aK,x.d.pK.oK=x.d.pK.oK,x.d.pK.dK.lo=x.d.pK.dK.lo,x.d.pK.dK.hi=x.d.pK.dK.hi,
  x.d.wide=x.d.wide,x.d.high=x.d.high,x.d.turn=x.d.turn,0=0,x.d.ps.n=x.d.ps.n,cO=cO,0=0,x.sK.n=x.sK.n,cO=cO,0=0,x.hang.n =
  x.hang.n,cO=cO,x.lost=x.lost,x.fK=x.fK,x.d.ps.n<=x.d.ps.n,QC 28 x.d.ps.n (λi=>QA.enc (x.d.ps.get i)) λi=>QA.enc (x.d.ps.get i),
  x.sK.n<=x.sK.n,QC 28 x.sK.n (λi=>QA.enc (x.sK.get i)) λi=>QA.enc (x.sK.get i),x.hang.n<=x.hang.n,QC 4 x.hang.n (λi=>QA.enc
  (x.hang.get i)) λi=>QA.enc (x.hang.get i)]
abbrev QKT(x:QD):List Prop:=
  [0=0,0=0,0=0,0=0,0=0,0=0,0=0,0=0,0=0,0=0,0=0,0=0,([]:List MapEntry)=[],GE (vj 0) noH λi=>vi (QJ [] i),
  LoopState.ready=LoopState.ready,(none:Option Code)=none,Array.mk [18]=Array.mk [18],(QP f16 0).1=(QP f16 0).1,(QP f16 0).2=(QP
  f16 0).2,x.d.pK.length=x.d.pK.length,x.d.pK.aK=x.d.pK.aK,x.d.pK.oK=x.d.pK.oK,x.d.pK.dK.lo=x.d.pK.dK.lo,x.d.pK.dK.hi =
  x.d.pK.dK.hi,x.d.wide=x.d.wide,x.d.high=x.d.high,x.d.turn=x.d.turn,0=0,x.d.ps.n=x.d.ps.n,cO=cO,0=0,x.sK.n=x.sK.n,cO=cO,
  0=0,x.hang.n=x.hang.n,cO=cO,x.lost=x.lost,x.fK=x.fK,0=0,0=0,0=0,0=0,0=0,0=0,0=0,0=0,(0:Int)=0,0=0,0=0,0=0,
  0=0,(0:Int)=0,x.d.pK.length=x.d.pK.length,x.d.pK.aK=x.d.pK.aK,x.d.pK.oK=x.d.pK.oK,x.d.pK.dK.lo=x.d.pK.dK.lo,x.d.pK.dK.hi =
  x.d.pK.dK.hi,x.d.wide=x.d.wide,x.d.high=x.d.high,x.d.turn=x.d.turn,0=0,x.d.ps.n=x.d.ps.n,cO=cO,0=0,x.sK.n=x.sK.n,cO=cO,
  0=0,x.hang.n=x.hang.n,cO=cO,x.lost=x.lost,x.fK=x.fK,0=0,0=0,(0:Int)=0,0=0,0=0,(0:Int)=0,(0:Int)=0,false=false,0 =
  0,0=0,Fn.func 79=Fn.func 79,0=0,0=0,(0:Int)=0,0=0,0=0,0=0,0=0,Fn.func 80=Fn.func 80,0=0,0=0,0=0,0=0,0=0,0=0,0=0,0=0,0=0,0
  = 0,0=0,0=0,x.d.pK.length=x.d.pK.length,x.d.pK.aK=x.d.pK.aK,x.d.pK.oK=x.d.pK.oK,x.d.pK.dK.lo=x.d.pK.dK.lo,x.d.pK.dK.hi =
  x.d.pK.dK.hi,x.d.wide=x.d.wide,x.d.high=x.d.high,x.d.turn=x.d.turn,0=0,x.d.ps.n=x.d.ps.n,cO=cO,0=0,x.sK.n=x.sK.n,cO=cO,
  0=0,x.hang.n=x.hang.n,cO=cO,x.lost=x.lost,x.fK=x.fK,x.d.pK.length=x.d.pK.length,x.d.pK.aK=x.d.pK.aK,x.d.pK.oK =
  x.d.pK.oK,x.d.pK.dK.lo=x.d.pK.dK.lo,x.d.pK.dK.hi=x.d.pK.dK.hi,x.d.wide=x.d.wide,x.d.high=x.d.high,x.d.turn=x.d.turn,0=0,x.d.ps.n=x.d.ps.n,
  cO=cO,0=0,x.sK.n=x.sK.n,cO=cO,0=0,x.hang.n=x.hang.n,cO=cO,x.lost=x.lost,x.fK=x.fK,0=0,C.length =
  C.length,cO=cO,C.length=C.length,Q1 2 C.length (λi=>(QG C i).length) (λi=>(QG C i).length) (λi j=>QA.enc ((QG C i).getD j ⟨0,0⟩)) fun
  i j=>QA.enc ((QG C i).getD j ⟨0,0⟩),x.d.ps.n<=x.d.ps.n,QC 28 x.d.ps.n (λi=>QA.enc (x.d.ps.get i)) λi=>QA.enc (x.d.ps.get i),x.sK.n<=x.sK.n,
  QC 28 x.sK.n (λi=>QA.enc (x.sK.get i)) λi=>QA.enc (x.sK.get i),x.hang.n<=x.hang.n,QC 4 x.hang.n (λi=>QA.enc (x.hang.get i)) λi=>
  QA.enc (x.hang.get i)]
noncomputable abbrev QRZ(g':List QB):List (Nat×Blk):=
  [(241,.rowz true 80 kB f'.length λi=>QA.enc (f'.getD i ⟨0,0⟩)),(242,.rowz true 80 kB g'.length λi=>QA.enc (g'.getD i ⟨0,
  0⟩))]
theorem QY0(has':Int->Bool)(many':Int)(f' g':List QB):KI (mkE prog (ZX pb x C (trU x C (QP f16 0).1 (QP f16 0).2 [] noH 0 [] [] has' many' f' g'))) (hnd (mkE prog (ZX pb x C (trU x C (QP f16 0).1 (QP f16 0).2 [] noH 0 [] [] has' many' f' g'))) 8) f16 (QW.vals 0 ((x,()):QD×Unit)) (QW.blks 0 ((x,()):QD×Unit)) 8 = .need (pb ((QOq x))) (.need (pb ((QKT C x))) (.br (many'==0) (.leaf (.tup [.nils,.nils,vj 0,vj 6]) ([])) (.leaf (.tup [.slz 241 0 f'.length cO,.slz 242 0 g'.length cO,vi many',vj 0]) ((QRZ f' g'))))):=by kernel_rfl
theorem QZ5(has':Int->Bool)(many':Int)(f' g':List QB):KI (mkE prog (ZX pb x C (trV x C (QP f16 0).1 (QP f16 0).2 [] noH 0 [] [] has' many' f' g'))) (hnd (mkE prog (ZX pb x C (trV x C (QP f16 0).1 (QP f16 0).2 [] noH 0 [] [] has' many' f' g'))) 8) f16 (QW.vals 0 ((x,()):QD×Unit)) (QW.blks 0 ((x,()):QD×Unit)) 8 = .need (pb ((QOq x))) (.need (pb ((QKT C x))) (.br (many'==0) (.leaf (.tup [.nils,.nils,vj 0,vj 6]) ([])) (.leaf (.tup [.slz 241 0 f'.length cO,.slz 242 0 g'.length cO,vi many',vj 0]) ((QRZ f' g'))))):=by kernel_rfl
theorem QgQ(f g:List QB)(m e':Int):QI 8 [(AV.tup [AV.nils,AV.nils,vj (0:Int),vi e])] ([]) (KY 8 (qC f g m e') (WM f g))=( some [f.length=(0:Nat),g.length=(0:Nat),(0:Int)=m,e=e',f.length=(0:Nat),g.length=(0:Nat)]):=by kernel_rfl
theorem QgC:QI 8 [(AV.tup [AV.nils,AV.nils,vj (0:Int),vj (6:Int)])] ([]) (KY 8 (qC f g m e') (WM f g))=( some [f.length=(0:Nat),g.length=(0:Nat),(0:Int)=m,(6:Int)=e',f.length=(0:Nat),g.length=(0:Nat)]):=by kernel_rfl
theorem QfJ:QI 8 [(AV.tup [AV.nils,AV.nils,vj (1:Int),vj (0:Int)])] ([]) (KY 8 (qC f g m e') (WM f g))=( some [f.length=(0:Nat),g.length=(0:Nat),(1:Int)=m,(0:Int)=e',f.length=(0:Nat),g.length=(0:Nat)]):=by kernel_rfl
theorem Qe3:QI 8 [(AV.tup [AV.nils,AV.nils,vj (0:Int),vj (6:Int)])] ([]) (KY 8 (qC f g m e') (WM f g))=( some [f.length=(0:Nat),g.length=(0:Nat),(0:Int)=m,(6:Int)=e',f.length=(0:Nat),g.length=(0:Nat)]):=by kernel_rfl
theorem QWc(many':Int)(f' g':List QB)(f g:List QB)(m e':Int):QI 8 [(AV.tup [AV.slz (241:Nat) (0:Nat) f'.length cO,AV.slz (242:Nat) (0:Nat) g'.length cO,vi many',vj (0:Int)])] ([((241:Nat),Blk.rowz true (80:Nat) [CK.int i64,CK.int i64] f'.length λi=>QA.enc (f'.getD i (QB.mk (0:Int) (0:Int)))),((242:Nat),Blk.rowz true (80:Nat) [CK.int i64,CK.int i64] g'.length λi=>QA.enc (g'.getD i (QB.mk (0:Int) (0:Int))))]) (KY 8 (qC f g m e') (WM f g))=( some [0=0,f'.length=f.length,cO=cO,0=0,g'.length=g.length,cO=cO,many'=m, (0:Int)=e',f.length<=f'.length,QC (2:Nat) f.length (λi=>QA.enc (f'.getD i (QB.mk (0:Int) (0:Int)))) λi=>QA.enc (f.getD i (QB.mk (0:Int) (0:Int))),g.length<=g'.length,QC (2:Nat) g.length (λi=>QA.enc (g'.getD i (QB.mk (0:Int) (0:Int)))) λi=>QA.enc (g.getD i (QB.mk (0:Int) (0:Int)))]):=by kernel_rfl
theorem QYa:QI 8 [(AV.tup [AV.nils,AV.nils,vj (0:Int),vj (6:Int)])] ([]) (KY 8 (qC f g m e') (WM f g))=( some [f.length=(0:Nat),g.length=(0:Nat),(0:Int)=m,(6:Int)=e',f.length=(0:Nat),g.length=(0:Nat)]):=by kernel_rfl
theorem QTW(many':Int)(f' g':List QB)(f g:List QB)(m e':Int):QI 8 [(AV.tup [AV.slz (241:Nat) (0:Nat) f'.length cO,AV.slz (242:Nat) (0:Nat) g'.length cO,vi many',vj (0:Int)])] ([((241:Nat),Blk.rowz true (80:Nat) [CK.int i64,CK.int i64] f'.length λi=>QA.enc (f'.getD i (QB.mk (0:Int) (0:Int)))),((242:Nat),Blk.rowz true (80:Nat) [CK.int i64,CK.int i64] g'.length λi=>QA.enc (g'.getD i (QB.mk (0:Int) (0:Int))))]) (KY 8 (qC f g m e') (WM f g))=( some [0=0,f'.length=f.length,cO=cO,0=0,g'.length=g.length,cO=cO,many'=m, (0:Int)=e',f.length<=f'.length,QC (2:Nat) f.length (λi=>QA.enc (f'.getD i (QB.mk (0:Int) (0:Int)))) λi=>QA.enc (f.getD i (QB.mk (0:Int) (0:Int))),g.length<=g'.length,QC (2:Nat) g.length (λi=>QA.enc (g'.getD i (QB.mk (0:Int) (0:Int)))) λi=>QA.enc (g.getD i (QB.mk (0:Int) (0:Int)))]):=by kernel_rfl
def QAq:Res TrS:=onT x (Qn x x.sK.n) trY x.sK.n [] (0,[],[]) noH
def Qg:List QB×List QB×Int×Int:=match x.ok with
 | false=>([],[],0,1)
 | true=>match Ky x with
  | true=>([],[],0,11)
  | false=>match QAq x with
   | .stop s _ | .go s _=>match s.1==0 with
    | true=>([],[],0,6)
    | false=>(s.2.1,s.2.2,s.1,0)
def V2:WF (QD×Unit):=λ|(x,_)=>(decide (x.d.ps.n<=1000/\x.sK.n<=1000/\x.hang.n<=1000),qC (Qg x).1 (Qg x).2.1 (Qg x).2.2.1 (Qg x).2.2.2,WM (Qg x).1 (Qg x).2.1)
def QPV:FC:=wFC V2
theorem QBS:WOk (V2 (x,())).2.1 (V2 (x,())).2.2:=⟨rfl,by simp[V2,WM,KF,Blk.own,Blk.all],rfl⟩
theorem QR7(ht:QO prog 35 (uFC (opE x e)))(he:e≠0)(hv:Qg x=([],[],0,e)):QO prog 16 (wFC (JN V2 (x,()))):=by
 have hT:QZ (Kv QV (opE x e)):=KC.add ht;refine Vt (c:=Qi f16) (E:=mkE prog (Kv QV (opE x e))) (H:=hnd (mkE prog (Kv QV (opE x e))) 1) (QL hT) func16 (by kernel_rfl) (by kernel_rfl) (N:=8) (by decide) (x,()) (λG h1 _=>Qw (QL hT) 1 G _ h1) (QBS x) ?_
 refine Qp (QUm QV x e) ?_;refine QF (KP.2 ?_) (QH (λ_=>?_) (λh=>by simp at h;exact absurd h he))
 .repeat' first|with_reducible refine QK ?_ ?_|exact tv|refine aI ?_ ?_
 .simp only[V2,hv];refine⟨rfl,rfl,_,QgQ e [] [] 0 e,?_⟩
  repeat' first|with_reducible refine QK ?_ ?_|exact tv|exact rfl|refine aI ?_ ?_
theorem QW3(hs:XZ x)(hx:x.ok=true)(hr:Ky x=false)(hpos:0<x.sK.n):QO prog 16 (wFC (JN V2 (x,()))):=by
 have hg:=Jo hx;have hC:=QDM (x:=x) hg.d.n9;have hon:=QK6 hg hC hpos x.sK.n [] (0,[],[]) noH (by simp) (λc hc=>by cases hc)
 cases he:onT x (Qn x x.sK.n) trY x.sK.n [] (0,[],[]) noH with
 | go s h=>
  rw[he]at hon;have hT:QZ (ZX QV x (Qn x x.sK.n) (trU x (Qn x x.sK.n) Ve VV [] noH 0 [] [] h s.1 s.2.1 s.2.2)):=(KC.add (qx x hs hx hr)).add hon
  have hv:Qg x=match s.1==0 with
    | true=>([],[],0,6)
    | false=>(s.2.1,s.2.2,s.1,0):=by
   simp only[Qg,hx,hr,QAq,he]
  refine Vt (c:=Qi f16) (E:=mkE prog (ZX QV x (Qn x x.sK.n) (trU x (Qn x x.sK.n) Ve VV [] noH 0 [] [] h s.1 s.2.1 s.2.2))) (H:=hnd (mkE prog (ZX QV x (Qn x x.sK.n) (trU x (Qn x x.sK.n) Ve VV [] noH 0 [] [] h s.1 s.2.1 s.2.2))) 8) (QL hT) func16 (by kernel_rfl) (by kernel_rfl) (N:=8) (by decide) (x,()) (λG h1 _=>Qw (QL hT) 8 G _ h1) (QBS x) ?_
  refine Qp (QY0 QV x (Qn x x.sK.n) h s.1 s.2.1 s.2.2) ?_;refine QF (KP.2 ?_) (QF (KP.2 ?_) (QH (λq=>?_) (λq=>?_)))
  .repeat' first|with_reducible refine QK ?_ ?_|exact tv|refine aI ?_ ?_
  .repeat' first|with_reducible refine QK ?_ ?_|exact tv|exact QAo _|exact rfl|refine aI ?_ ?_
  .simp only[V2,hv,q];refine⟨rfl,rfl,_,Qe3 [] [] 0 6,?_⟩
   repeat' first|with_reducible refine QK ?_ ?_|exact tv|exact rfl|refine aI ?_ ?_
  .simp only[V2,hv,q];refine⟨rfl,rfl,_,QWc s.1 s.2.1 s.2.2 s.2.1 s.2.2 s.1 0,?_⟩
   repeat' first|with_reducible refine QK ?_ ?_|exact tv|exact rfl|refine aI ?_ ?_
 | stop s h=>
  rw[he]at hon;have hT:QZ (ZX QV x (Qn x x.sK.n) (trV x (Qn x x.sK.n) Ve VV [] noH 0 [] [] h s.1 s.2.1 s.2.2)):=(KC.add (qx x hs hx hr)).add hon
  have hv:Qg x=match s.1==0 with
    | true=>([],[],0,6)
    | false=>(s.2.1,s.2.2,s.1,0):=by
   simp only[Qg,hx,hr,QAq,he]
  refine Vt (c:=Qi f16) (E:=mkE prog (ZX QV x (Qn x x.sK.n) (trV x (Qn x x.sK.n) Ve VV [] noH 0 [] [] h s.1 s.2.1 s.2.2))) (H:=hnd (mkE prog (ZX QV x (Qn x x.sK.n) (trV x (Qn x x.sK.n) Ve VV [] noH 0 [] [] h s.1 s.2.1 s.2.2))) 8) (QL hT) func16 (by kernel_rfl) (by kernel_rfl) (N:=8) (by decide) (x,()) (λG h1 _=>Qw (QL hT) 8 G _ h1) (QBS x) ?_
  refine Qp (QZ5 QV x (Qn x x.sK.n) h s.1 s.2.1 s.2.2) ?_;refine QF (KP.2 ?_) (QF (KP.2 ?_) (QH (λq=>?_) (λq=>?_)))
  .repeat' first|with_reducible refine QK ?_ ?_|exact tv|refine aI ?_ ?_
  .repeat' first|with_reducible refine QK ?_ ?_|exact tv|exact QAo _|exact rfl|refine aI ?_ ?_
  .simp only[V2,hv,q];refine⟨rfl,rfl,_,QYa [] [] 0 6,?_⟩
   repeat' first|with_reducible refine QK ?_ ?_|exact tv|exact rfl|refine aI ?_ ?_
  .simp only[V2,hv,q];refine⟨rfl,rfl,_,QTW s.1 s.2.1 s.2.2 s.2.1 s.2.2 s.1 0,?_⟩
   repeat' first|with_reducible refine QK ?_ ?_|exact tv|exact rfl|refine aI ?_ ?_
theorem QVh(d:Puz)(sc:Nat->QQ)(hang:Rw Jn)(lo fo:Int)(hs:XZ ⟨d,⟨0,sc⟩,hang,lo,fo⟩)(hx:(QD.mk d ⟨0,sc⟩ hang lo fo).ok=true)(hr:Ky ⟨d,⟨0,sc⟩,hang,lo,fo⟩=false):QO prog 16 (wFC (JN V2 (⟨d,⟨0,sc⟩,hang,lo,fo⟩,()))):=by
 have hd:=hs.d;have hd:d.ps.n<=1000:=hd;have hT:QZ (Kv QV (opO ⟨d,⟨0,sc⟩,hang,lo,fo⟩ [])):=KC.add (qx ⟨d,⟨0,sc⟩,hang,lo,fo⟩ hs hx hr);have hw:i64.wrap ((d.ps.n:Int)-0)=d.ps.n:=(w64 (by omega) (by omega)).trans (by omega)
 have hv:Qg ⟨d,⟨0,sc⟩,hang,lo,fo⟩=match decide ((d.ps.n:Int)>lo)with
   | true=>([],[],0,6)
   | false=>([],[],1,0):=by
  simp only[Qg,hx,hr,QAq,onT,J4,YF];simp only[show(d.ps.n:Int)-((([]:List QB).length:Int)-QJ [] (-2))=d.ps.n by simp[QJ]]
  cases decide ((d.ps.n:Int)>lo)<;>rfl
 refine Vt (c:=Qi f16) (E:=mkE prog (Kv QV (opO ⟨d,⟨0,sc⟩,hang,lo,fo⟩ []))) (H:=hnd (mkE prog (Kv QV (opO ⟨d,⟨0,sc⟩,hang,lo,fo⟩ []))) 8) (QL hT) func16 (by kernel_rfl) (by kernel_rfl) (N:=8) (by decide) (⟨d,⟨0,sc⟩,hang,lo,fo⟩,()) (λG h1 _=>Qw (QL hT) 8 G _ h1) (QBS _) ?_
 refine Qp (Qf5 QV d sc hang lo fo) ?_;refine QF (KP.2 ?_) (QH (λ_=>QH (λq=>?_) (λq=>?_)) (λq=>by cases q))
 .repeat' first|with_reducible refine QK ?_ ?_|exact tv|refine aI ?_ ?_
 .rw[hw]at q;simp only[V2,hv,q];refine⟨rfl,rfl,_,QgC [] [] 0 6,?_⟩
  repeat' first|with_reducible refine QK ?_ ?_|exact tv|exact rfl|refine aI ?_ ?_
 .rw[hw]at q;simp only[V2,hv,q];refine⟨rfl,rfl,_,QfJ [] [] 1 0,?_⟩
  repeat' first|with_reducible refine QK ?_ ?_|exact tv|exact rfl|refine aI ?_ ?_
theorem QZT(hx:(V2 (x,())).1=true):QO prog 16 (wFC (JN V2 (x,()))):=by
 obtain⟨h1,h2,h3⟩:=qdt hx;have hs:XZ x:=⟨h1,h2,h3⟩;cases ho:x.ok with
 | false=>exact QR7 x 1 (QDa x hs ho) (by decide) (by simp only[Qg,ho])
 | true=>cases hr:Ky x with
  | true=>exact QR7 x 11 (QCo x hs ho hr) (by decide) (by simp only[Qg,ho,hr])
  | false=>
   by_cases hp:0<x.sK.n
   .exact QW3 x hs ho hr hp
   .obtain⟨d,⟨n,sc⟩,hang,lo,fo⟩:=x;obtain rfl:n=0:=by simp only at hp;omega
    exact QVh d sc hang lo fo hs ho hr
theorem QXe:QO prog 16 QPV:=WL (by kernel_rfl) λ|(x,()),hx=>QZT x hx
def QcE(b:Nat)(f:List QB)(moved turned:Int):List (Nat×Blk):=[(120,.cells 0 38 [.slz b 0 f.length (.of 0)]),rwL b f,(112,.cells 0 91 [vi moved]),(104,.cells 0 91 [vi turned])]
def jo:JSt:=⟨53,[(6,.ptr 104 0 0),(7,.ptr 112 0 0),(8,.ptr 120 0 0),(29,.int false .i64 f.length),(30,.int false .i64 k)],QcE 464 f moved turned,472⟩
def QGb:JSt:=⟨53,[(8,.ptr 120 0 0)],[(120,.cells 0 38 [.slz 464 0 f.length (.of 0)]),rwL 464 f],472⟩
def QLu:Ex->List Nat
 | .normal=>[6,7,8,29,30]
 | .exit _=>[8]
 | .ret=>[]
def Yx:AV := .tup [.slz 0 0 f.length (.of 0),.int false .i64 e]
noncomputable abbrev QCV:List AV:=
  [.nilp,.ptr 53 0 0,.ptr 104 0 0,.ptr 112 0 0,.ptr 120 0 0,vi (f.length:Int),vi (i64.wrap ((k:Int)+1))]
noncomputable abbrev QBB:Nat×Blk:=
  (104,.cells 0 91 [vi turned])
noncomputable abbrev QB5:Nat×Blk:=
  (112,.cells 0 91 [vi moved])
noncomputable abbrev QAr:Nat×Blk:=
  (120,.cells 0 38 [.slz 464 0 f.length cO])
noncomputable abbrev QCc:List AV:=
  [vj (-1),vj 0]
noncomputable abbrev QQz(moved:Int)(turned:Int):List (Nat×Blk):=
  [(QBB turned),(QB5 moved),(QAr f),(464,.rowz true 80 kB f.length λi=>bif decide (i=k)then Jw QCc 0 (bif decide (k=k)then Jw [.int true
  .i64 0] 1 (QA.enc (f.getD k ⟨0,0⟩))else QA.enc (f.getD k ⟨0,0⟩))else bif decide (i=k)then Jw [vj 0] 1 (QA.enc (f.getD k ⟨0,0⟩))else QA.enc (f.getD i
  ⟨0,0⟩))]
noncomputable abbrev QRj(moved:Int)(turned:Int):List (Nat×Blk):=
  [(QBB turned),(QB5 moved),(QAr f),(464,.rowz true 80 kB f.length λi=>bif decide (i=k)then Jw QCc 0 (QA.enc (f.getD k ⟨0,0⟩))else QA.enc
  (f.getD i ⟨0,0⟩))]
theorem QUb(g:Nat->Value):exec (mkE prog Qu) (hnd (mkE prog Qu) 3) (QT f10 0) (JSt.inst (jo f moved turned k) g) (KG [] QLu) = .br (decide ((k:Int)<(f.length:Int))) (.need (decide ((0:Int)<=(k:Int))) (.br (i64.wrap (↑(BitVec.ofInt 64 (turned.fdiv ((2:Int)^min k 64)) &&& BitVec.ofInt 64 (1:Int)).toNat:Int)==1) (.need (decide ((0:Int)<=(k:Int)/\(k:Int)<(f.length:Int))&&decide (f.length<=f.length)) (.need (decide (k<f.length)) (.need (decide ((0:Int)<=(k:Int))) (.br (i64.wrap (↑(BitVec.ofInt 64 (moved.fdiv ((2:Int)^min k 64)) &&& BitVec.ofInt 64 (1:Int)).toNat:Int)==1) (.need (decide ((0:Int)<=(k:Int)/\(k:Int)<(f.length:Int))&&decide (f.length<=f.length)) (.need (decide (k<f.length)) (.leaf (.tup (QCV f k)) ((QQz f k moved turned))))) (.leaf (.tup (QCV f k)) ([(QBB turned), (QB5 moved),(QAr f),(464,.rowz true 80 kB f.length λi=>bif decide (i=k)then Jw [vj 0] 1 (QA.enc (f.getD k ⟨0,0⟩))else QA.enc (f.getD i ⟨0,0⟩))])))))) (.need (decide ((0:Int)<=(k:Int))) (.br (i64.wrap (↑(BitVec.ofInt 64 (moved.fdiv ((2:Int)^min k 64)) &&& BitVec.ofInt 64 (1:Int)).toNat:Int)==1) (.need (decide ((0:Int)<=(k:Int)/\(k:Int)<(f.length:Int))&&decide (f.length<=f.length)) (.need (decide (k<f.length)) (.leaf (.tup (QCV f k)) ((QRj f k moved turned))))) (.leaf (.tup (QCV f k)) ([(QBB turned),(QB5 moved),(QAr f),(464,.rowz true 80 kB f.length λi=>QA.enc (f.getD i ⟨0,0⟩))])))))) (.leaf (.tup [.ptr 0 0 0,.ptr 53 0 0,.ptr 120 0 0]) ([(QAr f),(464,.rowz true 80 kB f.length λi=>QA.enc (f.getD i ⟨0,0⟩))])):=by kernel_rfl
theorem QTt:KI (mkE prog (Kv pb (opE x e))) (hnd (mkE prog (Kv pb (opE x e))) 1) f10 (QW.vals 0 ((x,()):QD×Unit)) (QW.blks 0 ((x,()):QD×Unit)) 8 =
  QE.need (pb ([x.d.pK.length = x.d.pK.length, x.d.pK.aK = x.d.pK.aK, x.d.pK.oK = x.d.pK.oK, x.d.pK.dK.lo = x.d.pK.dK.lo, x.d.pK.dK.hi = x.d.pK.dK.hi, x.d.wide = x.d.wide, x.d.high = x.d.high, x.d.turn = x.d.turn, (0 : Nat) = (0 : Nat), x.d.ps.n = x.d.ps.n, Cap.of (0 : Nat) = Cap.of (0 : Nat), (0 : Nat) = (0 : Nat), x.sK.n = x.sK.n, Cap.of (0 : Nat) = Cap.of (0 : Nat), (0 : Nat) = (0 : Nat), x.hang.n = x.hang.n, Cap.of (0 : Nat) = Cap.of (0 : Nat), x.lost = x.lost, x.fK = x.fK, x.d.ps.n <= x.d.ps.n, QC (28 : Nat) x.d.ps.n (λi=>QA.enc (x.d.ps.get i)) λi=>QA.enc (x.d.ps.get i), x.sK.n <= x.sK.n, QC (28 : Nat) x.sK.n (λi=>QA.enc (x.sK.get i)) λi=>QA.enc (x.sK.get i), x.hang.n <= x.hang.n, QC (4 : Nat) x.hang.n (λi=>QA.enc (x.hang.get i)) λi=>QA.enc (x.hang.get i)])) (QE.br (e != (0 : Int)) (QE.leaf (AV.tup [AV.nils, AV.int false i64 e]) ([])) (QE.fail ("a call without a contract"))) := by kernel_rfl
theorem QWp(d:Puz)(s:Nat->QQ)(hang:Rw Jn)(lo fo:Int):KI (mkE prog (Kv pb (opO ⟨d,⟨0,s⟩,hang,lo,fo⟩ []))) (hnd (mkE prog (Kv pb (opO ⟨d,⟨0,s⟩,hang,lo,fo⟩ []))) 8) f10 (QW.vals 0 ((⟨d,⟨0,s⟩,hang,lo,fo⟩,()):QD×Unit)) (QW.blks 0 ((⟨d,⟨0,s⟩,hang,lo,fo⟩,()):QD×Unit)) 8 =
  QE.need (pb ([d.pK.length = d.pK.length, d.pK.aK = d.pK.aK, d.pK.oK = d.pK.oK, d.pK.dK.lo = d.pK.dK.lo, d.pK.dK.hi = d.pK.dK.hi, d.wide = d.wide, d.high = d.high, d.turn = d.turn, (0 : Nat) = (0 : Nat), d.ps.n = d.ps.n, Cap.of (0 : Nat) = Cap.of (0 : Nat), (0 : Nat) = (0 : Nat), (0 : Nat) = (0 : Nat), Cap.of (0 : Nat) = Cap.of (0 : Nat), (0 : Nat) = (0 : Nat), hang.n = hang.n, Cap.of (0 : Nat) = Cap.of (0 : Nat), lo = lo, fo = fo, d.ps.n <= d.ps.n, QC (28 : Nat) d.ps.n (λi=>QA.enc (d.ps.get i)) λi=>QA.enc (d.ps.get i), (0 : Nat) <= (0 : Nat), QC (28 : Nat) (0 : Nat) (λi=>QA.enc ((Rw.mk (0 : Nat) s).get i)) λi=>QA.enc ((Rw.mk (0 : Nat) s).get i), hang.n <= hang.n, QC (4 : Nat) hang.n (λi=>QA.enc (hang.get i)) λi=>QA.enc (hang.get i)])) (QE.br (true) (QE.br (decide (i64.wrap ((↑d.ps.n : Int) - (0 : Int)) > lo)) (QE.leaf (AV.tup [AV.nils, AV.int true i64 (6 : Int)]) ([])) (QE.leaf (AV.tup [AV.nils, AV.int true i64 (0 : Int)]) ([]))) (QE.need (false) (QE.fail ("scan.go:188")))) := by kernel_rfl
def QAI(U:UC):Tab:=Qh (Kv pb (opO x C)) 80 (Jj pb U)
abbrev QHX(P:Program)(T:Tab)(f f2:List QB)(moved turned:Int):Hnd:={ hnd (mkE P T) 8 with loop:=λ_=>Q4 8 [] (jo f moved turned (0:Nat)) [(True,.exit 0,QGb f2)] }
theorem Qge(has':Int->Bool)(many' n':Int)(f':List QB)(moved' turned':Int)(f2:List QB):KI (mkE prog (QAI pb x C (tdU x C (QP f41 0).1 (QP f41 0).2 [] noH 0 0 [] 0 0 has' many' n' f' moved' turned'))) (QHX prog (QAI pb x C (tdU x C (QP f41 0).1 (QP f41 0).2 [] noH 0 0 [] 0 0 has' many' n' f' moved' turned')) f' f2 moved' turned') f10 (QW.vals 0 ((x,()):QD×Unit)) (QW.blks 0 ((x,()):QD×Unit)) 8 = .need (pb (xq x++(xp x))) (.need (pb (rz 12++([([]:List MapEntry)=[],GE (vj 0) noH λi=>vi (QJ [] i),LoopState.ready=LoopState.ready,(none:Option Code)=none,Array.mk [12]=Array.mk [12],(QP f41 0).1=(QP f41 0).1,(QP f41 0).2=(QP f41 0).2,0=0,0=0,(0:Int)=0,Fn.func 42=Fn.func 42]++(rz 10++([(0:Int)=0,false=false,0=0,0=0,0=0,0=0,Fn.func 79=Fn.func 79,0=0,0=0,(0:Int)=0,(0:Int)=0,0=0,0=0,(0:Int)=0,(0:Int)=0,Fn.func 80=Fn.func 80]++(rz 12++([Fn.func 42=Fn.func 42,0=0,0=0, 0=0,0=0,0=0,0=0]++(xq x++([0=0,C.length=C.length,cO=cO,C.length=C.length, Q1 2 C.length (λi=>(QG C i).length) (λi=>(QG C i).length) (λi j=>QA.enc ((QG C i).getD j ⟨0,0⟩)) λi j=>QA.enc ((QG C i).getD j ⟨0,0⟩)]++(xp x)))))))))) (.br (!decide (many'>0)) (.leaf (.tup [.nils,vj 6]) ([])) (.ak [0=0,0=0,0=0,0=0,0=0,0=0,(f'.length:Int)=(f'.length:Int),(0:Int)=0,0=0,f'.length=f'.length,cO=cO,f'.length<=f'.length,QC 2 f'.length (λi=>QA.enc (f'.getD i ⟨0,0⟩)) λi=>QA.enc (f'.getD i ⟨0,0⟩),moved'=moved',turned'=turned'] (.asm (True) (.all (λ(g0:Nat->Value)=>.leaf (.tup [.slz 464 0 f2.length cO,vj 0]) ([(464,.rowz true 80 kB f2.length λi=>QA.enc (f2.getD i ⟨0,0⟩))]))))))):=by kernel_rfl
noncomputable abbrev QLw:List AV:=
  [.ptr 104 0 0,.ptr 112 0 0,.ptr 120 0 0,vi (f.length:Int),vi (i64.wrap ((k:Int)+1))]
abbrev QME:List Prop:=
  [0=0,0=0,0=0,0=0]
abbrev QJL(k':Nat):List Prop:=
  [0=0,0=0,(f.length:Int)=(f'.length:Int),i64.wrap ((k:Int)+1)=(k':Int),0=0,f.length=f'.length,cO=cO,f'.length<=f.length]
theorem QeN(moved turned:Int)(k k':Nat):QI 8 (QLw f k) ((QQz f k moved turned)) (jo f' moved turned k')=(some (QME++(QJL f f' k k')++[QC 2 f'.length (λi=>bif decide (i=k)then Jw QCc 0 (bif decide (k=k)then Jw [vj 0] 1 (QA.enc (f.getD k ⟨0,0⟩))else QA.enc (f.getD k ⟨0,0⟩))else bif decide (i=k)then Jw [vj 0] 1 (QA.enc (f.getD k ⟨0,0⟩))else QA.enc (f.getD i ⟨0,0⟩)) λi=>QA.enc (f'.getD i ⟨0,0⟩),moved=moved,turned=turned])):=by kernel_rfl
theorem QVS(moved turned:Int)(k k':Nat):QI 8 [AV.ptr (104:Nat) (0:Nat) (0:Nat),AV.ptr (112:Nat) (0:Nat) (0:Nat),AV.ptr (120:Nat) (0:Nat) (0:Nat),vi (↑f.length:Int),vi (i64.wrap ((↑k:Int)+(1:Int)))] ([((104:Nat),Blk.cells (0:Nat) (91:Nat) [vi turned]),((112:Nat),Blk.cells (0:Nat) (91:Nat) [vi moved]),((120:Nat),Blk.cells (0:Nat) (38:Nat) [AV.slz (464:Nat) (0:Nat) f.length cO]),((464:Nat),Blk.rowz true (80:Nat) [CK.int i64,CK.int i64] f.length λi=>bif decide (i=k)then Jw [vj (0:Int)] (1:Nat) (QA.enc (f.getD k (QB.mk (0:Int) (0:Int))))else QA.enc (f.getD i (QB.mk (0:Int) (0:Int))))]) (jo f' moved turned k')=( some [0=0,0=0,0=0,0=0,0=0,0=0,(↑f.length:Int)=(↑f'.length:Int),i64.wrap ((↑k:Int)+(1:Int))=(↑k':Int),0=0,f.length=f'.length,cO=cO,f'.length<=f.length,QC (2:Nat) f'.length (λi=>bif decide (i=k)then Jw [vj (0:Int)] (1:Nat) (QA.enc (f.getD k (QB.mk (0:Int) (0:Int))))else QA.enc (f.getD i (QB.mk (0:Int) (0:Int)))) λi=>QA.enc (f'.getD i (QB.mk (0:Int) (0:Int))),moved=moved,turned=turned]):=by kernel_rfl
theorem QS4(moved turned:Int)(k k':Nat):QI 8 (QLw f k) ((QRj f k moved turned)) (jo f' moved turned k')=(some (QME++(QJL f f' k k')++[QC 2 f'.length (λi=>bif decide (i=k)then Jw QCc 0 (QA.enc (f.getD k ⟨0,0⟩))else QA.enc (f.getD i ⟨0,0⟩)) λi=>QA.enc (f'.getD i ⟨0,0⟩),moved=moved,turned=turned])):=by kernel_rfl
theorem QfT(moved turned:Int)(k k':Nat):QI 8 [AV.ptr (104:Nat) (0:Nat) (0:Nat),AV.ptr (112:Nat) (0:Nat) (0:Nat),AV.ptr (120:Nat) (0:Nat) (0:Nat),vi (↑f.length:Int),vi (i64.wrap ((↑k:Int)+(1:Int)))] ([((104:Nat),Blk.cells (0:Nat) (91:Nat) [vi turned]),((112:Nat),Blk.cells (0:Nat) (91:Nat) [vi moved]),((120:Nat),Blk.cells (0:Nat) (38:Nat) [AV.slz (464:Nat) (0:Nat) f.length cO]),((464:Nat),Blk.rowz true (80:Nat) [CK.int i64,CK.int i64] f.length λi=>QA.enc (f.getD i (QB.mk (0:Int) (0:Int))))]) (jo f' moved turned k')=( some [0=0,0=0,0=0,0=0,0=0,0=0,(↑f.length:Int)=(↑f'.length:Int),i64.wrap ((↑k:Int)+(1:Int))=(↑k':Int),0=0,f.length=f'.length,cO=cO,f'.length<=f.length,QC (2:Nat) f'.length (λi=>QA.enc (f.getD i (QB.mk (0:Int) (0:Int)))) λi=>QA.enc (f'.getD i (QB.mk (0:Int) (0:Int))),moved=moved,turned=turned]):=by kernel_rfl
theorem QVz:QI 8 [AV.ptr (120:Nat) (0:Nat) (0:Nat)] ([((120:Nat),Blk.cells (0:Nat) (38:Nat) [AV.slz (464:Nat) (0:Nat) f.length cO]),((464:Nat),Blk.rowz true (80:Nat) [CK.int i64,CK.int i64] f.length λi=>QA.enc (f.getD i (QB.mk (0:Int) (0:Int))))]) (QGb f')=( some [0=0,0=0,0=0,f.length=f'.length,cO=cO,f'.length<=f.length,QC (2:Nat) f'.length (λi=>QA.enc (f.getD i (QB.mk (0:Int) (0:Int)))) λi=>QA.enc (f'.getD i (QB.mk (0:Int) (0:Int)))]):=by kernel_rfl
theorem QfV(f:List QB)(e':Int):QI 8 [(AV.tup [AV.nils,vi e])] ([]) (KY 8 (Yx f e') [KF 80 0 f ⟨0,0⟩])=( some [f.length=(0:Nat),e=e',f.length=(0:Nat)]):=by kernel_rfl
theorem Qgb:QI 8 [(AV.tup [AV.nils,vj (6:Int)])] ([]) (KY 8 (Yx f e') [KF 80 0 f ⟨0,0⟩])=( some [f.length=(0:Nat),(6:Int)=e',f.length=(0:Nat)]):=by kernel_rfl
theorem QTf:QI 8 [(AV.tup [AV.nils,vj (0:Int)])] ([]) (KY 8 (Yx f e') [KF 80 0 f ⟨0,0⟩])=( some [f.length=(0:Nat),(0:Int)=e',f.length=(0:Nat)]):=by kernel_rfl
theorem Qek:QI 8 [(AV.tup [AV.nils,vj (6:Int)])] ([]) (KY 8 (Yx f e') [KF 80 0 f ⟨0,0⟩])=( some [f.length=(0:Nat),(6:Int)=e',f.length=(0:Nat)]):=by kernel_rfl
theorem Qcb(f2:List QB)(f:List QB)(e':Int):QI 8 [(AV.tup [AV.slz (464:Nat) (0:Nat) f2.length cO,vj (0:Int)])] ([((464:Nat),Blk.rowz true (80:Nat) [CK.int i64,CK.int i64] f2.length λi=>QA.enc (f2.getD i (QB.mk (0:Int) (0:Int))))]) (KY 8 (Yx f e') [KF 80 0 f ⟨0,0⟩])=( some [0=0,f2.length=f.length,cO=cO,(0:Int)=e',f.length<=f2.length,QC (2:Nat) f.length (λi=>QA.enc (f2.getD i (QB.mk (0:Int) (0:Int)))) λi=>QA.enc (f.getD i (QB.mk (0:Int) (0:Int)))]):=by kernel_rfl
def bitV(s:Int)(k:Nat):Bool:=i64.wrap (((BitVec.ofInt 64 (s.fdiv (2^min k 64)) &&& BitVec.ofInt 64 1).toNat:Nat):Int)==1
def Yg(m t:Int)(k:Nat)(c:QB):QB:=match bitV m k with
 | true=>⟨-1,0⟩
 | false=>match bitV t k with
  | true=>⟨c.cell,0⟩
  | false=>c
def K0(f:List QB)(m t:Int):Nat->List QB
 | 0=>f
 | k+1=>(K0 f m t k).set k (Yg m t k ((K0 f m t k).getD k ⟨0,0⟩))
theorem vC(f:List QB)(m t:Int):∀ k,(K0 f m t k).length=f.length
 | 0=>rfl
 | k+1=>by rw[K0,List.length_set];exact vC f m t k
theorem QDq{L:List QB}{k:Nat}(h:k<L.length){c:QB}(G:Nat->Nat->Int)(h1:∀ i,i≠k->eqF 2 0 (G i) (QA.enc (L.getD i ⟨0,0⟩)))(h2:eqF 2 0 (G k) (QA.enc c)):QC 2 (L.set k c).length G (λi=>QA.enc ((L.set k c).getD i ⟨0,0⟩)):=by
 intro i hi;show eqF 2 0 (G i) (QA.enc ((L.set k c).getD i ⟨0,0⟩))
 by_cases e:i=k
 .subst e;rw[List.getD_eq_getElem?_getD,List.getElem?_set_self h];exact h2
 .rw[List.getD_eq_getElem?_getD,List.getElem?_set_ne (λq=>e q.symm),<-List.getD_eq_getElem?_getD];exact h1 i e
theorem QdG(hf:f.length<=1000):Kk (λk=>jo (K0 f moved turned k) moved turned k) (λk=>k<=f.length) (λk=>f.length-k) (λ_ e J=>e = .exit 0/\J=QGb (K0 f moved turned f.length)) 8 QLu [] (mkE prog Qu) (λ_=>hnd (mkE prog Qu) 3) (QT f10 0):=by
 refine⟨λk g hk=>Qp (QUb (K0 f moved turned k) moved turned k g) ?_⟩;have hl:=vC f moved turned k;have hl2:=vC f moved turned (k+1);refine QH ?_ ?_<;>intro h
 .have h:k<f.length:=by have:=qdt h;rw[hl]at this;omega
  have hw:=KW h hf;refine QF (by simp) (QH (λht=>QF (by rw[hl];simp;omega) (QF (by rw[hl];simp;omega) (QF (by simp) (QH (λhm=>QF (by rw[hl];simp;omega) (QF (by rw[hl];simp;omega) ?_)) (λhm=>?_))))) (λht=>QF (by simp) (QH (λhm=>QF (by rw[hl];simp;omega) (QF (by rw[hl];simp;omega) ?_)) (λhm=>?_))))
  .refine⟨k+1,h,by show f.length-(k+1)<f.length-k;omega,λ_ _ h=>h,rfl,rfl,_,QeN (K0 f moved turned k) (K0 f moved turned (k+1)) moved turned k (k+1),?_⟩
   have e1:Yg moved turned k ((K0 f moved turned k).getD k ⟨0,0⟩)=⟨-1,0⟩:=by simp only[Yg,bitV,ht,hm]
   repeat' first|with_reducible refine QK ?_ ?_|exact tv|exact hw|exact hl.trans hl2.symm|exact hl2.trans hl.symm|exact congrArg (λn:Nat=>(n:Int)) (hl.trans hl2.symm)|exact hl2.symm|exact Nat.le_of_eq (hl2.trans hl.symm)|exact QDq (by rw[hl];exact h) _ (λi hi=>by simp only[decide_eq_false hi,cond_false];exact XC _ _ _) (by rw[e1];simp only[decide_true,cond_true];exact⟨rfl,rfl,trivial⟩)|refine aI ?_ ?_
  .refine⟨k+1,h,by show f.length-(k+1)<f.length-k;omega,λ_ _ h=>h,rfl,rfl,_,QVS (K0 f moved turned k) (K0 f moved turned (k+1)) moved turned k (k+1),?_⟩
   have e1:Yg moved turned k ((K0 f moved turned k).getD k ⟨0,0⟩)=⟨((K0 f moved turned k).getD k ⟨0,0⟩).cell,0⟩:=by simp only[Yg,bitV,ht,hm]
   repeat' first|with_reducible refine QK ?_ ?_|exact tv|exact hw|exact hl.trans hl2.symm|exact hl2.trans hl.symm|exact congrArg (λn:Nat=>(n:Int)) (hl.trans hl2.symm)|exact hl2.symm|exact Nat.le_of_eq (hl2.trans hl.symm)|exact QDq (by rw[hl];exact h) _ (λi hi=>by simp only[decide_eq_false hi,cond_false];exact XC _ _ _) (by rw[e1];simp only[decide_true,cond_true];exact⟨rfl,rfl,trivial⟩)|refine aI ?_ ?_
  .refine⟨k+1,h,by show f.length-(k+1)<f.length-k;omega,λ_ _ h=>h,rfl,rfl,_,QS4 (K0 f moved turned k) (K0 f moved turned (k+1)) moved turned k (k+1),?_⟩
   have e1:Yg moved turned k ((K0 f moved turned k).getD k ⟨0,0⟩)=⟨-1,0⟩:=by simp only[Yg,bitV,ht,hm]
   repeat' first|with_reducible refine QK ?_ ?_|exact tv|exact hw|exact hl.trans hl2.symm|exact hl2.trans hl.symm|exact congrArg (λn:Nat=>(n:Int)) (hl.trans hl2.symm)|exact hl2.symm|exact Nat.le_of_eq (hl2.trans hl.symm)|exact QDq (by rw[hl];exact h) _ (λi hi=>by simp only[decide_eq_false hi,cond_false];exact XC _ _ _) (by rw[e1];simp only[decide_true,cond_true];exact⟨rfl,rfl,trivial⟩)|refine aI ?_ ?_
  .refine⟨k+1,h,by show f.length-(k+1)<f.length-k;omega,λ_ _ h=>h,rfl,rfl,_,QfT (K0 f moved turned k) (K0 f moved turned (k+1)) moved turned k (k+1),?_⟩
   have e1:Yg moved turned k ((K0 f moved turned k).getD k ⟨0,0⟩)=(K0 f moved turned k).getD k ⟨0,0⟩:=by simp only[Yg,bitV,ht,hm]
   repeat' first|with_reducible refine QK ?_ ?_|exact tv|exact hw|exact hl.trans hl2.symm|exact hl2.trans hl.symm|exact congrArg (λn:Nat=>(n:Int)) (hl.trans hl2.symm)|exact hl2.symm|exact Nat.le_of_eq (hl2.trans hl.symm)|exact QDq (by rw[hl];exact h) _ (λi hi=>XC _ _ _) (by rw[e1];exact XC _ _ _)|refine aI ?_ ?_
 .have:k=f.length:=by have:=qdf h;rw[hl]at this;omega
  subst this;refine⟨_,⟨rfl,rfl⟩,rfl,rfl,_,QVz (K0 f moved turned f.length) (K0 f moved turned f.length),?_⟩
  repeat' first|with_reducible refine QK ?_ ?_|exact tv|refine aI ?_ ?_
theorem QaG{T:Tab}(hT:QZ T)(f:List QB)(moved turned:Int)(hf:f.length<=1000)(G:Ctx)(hrd:G.rd=none)(hG:G.n=8):Q8 (mkE prog T) G (QHX prog T f (K0 f moved turned f.length) moved turned) (Qi f10):=by
 refine Kg (body:=QT f10 0) (QL hT) hrd (by kernel_rfl) ?_
 refine YG (E:=mkE prog Qu) rfl (Kr (n0:=8) (QL KC) (by omega) (λs hs=>Qw (QL KC) 3 G _ hrd) (λs hs=>(by decide:8<=472)) ?_ (QdG f moved turned hf) (s0:=0) (Nat.zero_le _) ?_)
 .rintro s e J ⟨_,rfl⟩;exact(by decide:8<=472)
 .rintro e J ⟨rfl,rfl⟩;exact⟨_,qmc,trivial,rfl,rfl⟩
def tdS:Res TdS:=onT x (Qn x x.sK.n) tdY x.sK.n [] (0,0,[],0,0) noH
def JP:List QB×Int:=match x.ok with
 | false=>([],1)
 | true=>match Ky x with
  | true=>([],11)
  | false=>match tdS x with
   | .stop s _ | .go s _=>match decide (s.1>0)with
    | false=>([],6)
    | true=>(K0 s.2.2.1 s.2.2.2.1 s.2.2.2.2 s.2.2.1.length,0)
def Xv:WF (QD×Unit):=λ|(x,_)=>(decide (x.d.ps.n<=1000/\x.sK.n<=1000/\x.hang.n<=1000),Yx (JP x).1 (JP x).2,[KF 80 0 (JP x).1 ⟨0,0⟩])
def QR3:FC:=wFC Xv
theorem QHI:WOk (Xv (x,())).2.1 (Xv (x,())).2.2:=⟨rfl,by simp[Xv,KF,Blk.own,Blk.all],rfl⟩
theorem QRl(ht:QO prog 35 (uFC (opE x e)))(he:e≠0)(hv:JP x=([],e)):QO prog 10 (wFC (JN Xv (x,()))):=by
 have hT:QZ (Kv QV (opE x e)):=KC.add ht;refine Vt (c:=Qi f10) (E:=mkE prog (Kv QV (opE x e))) (H:=hnd (mkE prog (Kv QV (opE x e))) 1) (QL hT) func10 (by kernel_rfl) (by kernel_rfl) (N:=8) (by decide) (x,()) (λG h1 _=>Qw (QL hT) 1 G _ h1) (QHI x) ?_
 refine Qp (QTt QV x e) ?_;refine QF (KP.2 ?_) (QH (λ_=>?_) (λh=>by simp at h;exact absurd h he))
 .repeat' first|with_reducible refine QK ?_ ?_|exact tv|refine aI ?_ ?_
 .simp only[Xv,hv];refine⟨rfl,rfl,_,QfV e [] e,?_⟩
  repeat' first|with_reducible refine QK ?_ ?_|exact tv|exact rfl|refine aI ?_ ?_
theorem QZw{x:QD}:∀(d:Nat) (l:List QB) (s:TdS) (h:Int->Bool) {s':TdS} {h':Int->Bool},l.length+d=x.sK.n->(s.2.2.1.length=0∨s.2.2.1.length=x.sK.n)->onT x (Qn x x.sK.n) tdY d l s h = .go s' h'->s'.2.2.1.length=0∨s'.2.2.1.length=x.sK.n:=λd l s h {s' h'} hn hg he=>QBI (G:=λs:TdS=>s.2.2.1.length=0∨s.2.2.1.length=x.sK.n) (λs l hg hl=>by
  show(KQ s.2.1 l s.2.2.1).length=0∨(KQ s.2.1 l s.2.2.1).length=x.sK.n;unfold KQ;split
  .exact .inr hl
  .exact hg) d l s h hn hg he
theorem QXs(hs:XZ x)(hx:x.ok=true)(hr:Ky x=false)(hpos:0<x.sK.n):QO prog 10 (wFC (JN Xv (x,()))):=by
 have hg:=Jo hx;have hss:=hs.s;have hC:=QDM (x:=x) hg.d.n9;have hon:=QSf hg hC hpos x.sK.n [] (0,0,[],0,0) noH (by simp) (λc hc=>by cases hc) (λq=>by cases q)
 obtain⟨s,h,he⟩:=Z8 (C:=Qn x x.sK.n) (x:=x) (Y:=tdY) (λ_ _=>rfl) x.sK.n [] (0,0,[],0,0) noH;rw[he]at hon
 have hlen:s.2.2.1.length<=1000:=by
  rcases QZw (x:=x) x.sK.n [] (0,0,[],0,0) noH (by simp) (.inl rfl) he with q|q<;>omega
 have hT:QZ (QAI QV x (Qn x x.sK.n) (tdU x (Qn x x.sK.n) ZW ZV [] noH 0 0 [] 0 0 h s.1 s.2.1 s.2.2.1 s.2.2.2.1 s.2.2.2.2)):=(KC.add (qx x hs hx hr)).add hon
 have hv:JP x=match decide (s.1>0)with
   | false=>([],6)
   | true=>(K0 s.2.2.1 s.2.2.2.1 s.2.2.2.2 s.2.2.1.length,0):=by
  simp only[JP,hx,hr,tdS,he]
 refine Vt (c:=Qi f10) (E:=mkE prog (QAI QV x (Qn x x.sK.n) (tdU x (Qn x x.sK.n) ZW ZV [] noH 0 0 [] 0 0 h s.1 s.2.1 s.2.2.1 s.2.2.2.1 s.2.2.2.2))) (H:=QHX prog (QAI QV x (Qn x x.sK.n) (tdU x (Qn x x.sK.n) ZW ZV [] noH 0 0 [] 0 0 h s.1 s.2.1 s.2.2.1 s.2.2.2.1 s.2.2.2.2)) s.2.2.1 (K0 s.2.2.1 s.2.2.2.1 s.2.2.2.2 s.2.2.1.length) s.2.2.2.1 s.2.2.2.2) (QL hT) func10 (by kernel_rfl) (by kernel_rfl) (N:=8) (by decide) (x,()) (λG h1 h2=>QaG hT _ _ _ hlen G h1 h2) (QHI x) ?_
 refine Qp (Qge QV x (Qn x x.sK.n) h s.1 s.2.1 s.2.2.1 s.2.2.2.1 s.2.2.2.2 (K0 s.2.2.1 s.2.2.2.1 s.2.2.2.2 s.2.2.1.length)) ?_;refine QF (KP.2 ?_) (QF (KP.2 ?_) (QH (λq=>?_) (λq=>?_)))
 .repeat' first|with_reducible refine QK ?_ ?_|exact trivial|with_reducible rfl|exact qlr _|exact qRr|exact QS _ _ _ _|refine aI ?_ ?_
 .repeat' first|with_reducible refine QK ?_ ?_|exact trivial|with_reducible rfl|exact qlr _|exact qRr|exact QS _ _ _ _|exact QAo _|exact rfl|refine aI ?_ ?_
 .have q:decide (s.1>0)=false:=by simpa using q
  simp only[Xv,hv,q];refine⟨rfl,rfl,_,Qek [] 6,?_⟩
  repeat' first|with_reducible refine QK ?_ ?_|exact trivial|with_reducible rfl|exact qlr _|exact qRr|exact QS _ _ _ _|exact rfl|refine aI ?_ ?_
 .have q:decide (s.1>0)=true:=by simpa using q
  repeat' first|refine QX (p:=_=_) rfl ?_|refine QX (p:=_<=_) (qlr _) ?_|refine QX (p:=QC _ _ _ _) (qRr) ?_
  refine KB λ_=>Q7 λg=>?_;simp only[Xv,hv,q];refine⟨rfl,rfl,_,Qcb _ _ 0,?_⟩
  repeat' first|with_reducible refine QK ?_ ?_|exact trivial|with_reducible rfl|exact qlr _|exact qRr|exact QS _ _ _ _|exact rfl|refine aI ?_ ?_
theorem QZH(d:Puz)(sc:Nat->QQ)(hang:Rw Jn)(lo fo:Int)(hs:XZ ⟨d,⟨0,sc⟩,hang,lo,fo⟩)(hx:(QD.mk d ⟨0,sc⟩ hang lo fo).ok=true)(hr:Ky ⟨d,⟨0,sc⟩,hang,lo,fo⟩=false):QO prog 10 (wFC (JN Xv (⟨d,⟨0,sc⟩,hang,lo,fo⟩,()))):=by
 have hd:=hs.d;have hd:d.ps.n<=1000:=hd;have hT:QZ (Kv QV (opO ⟨d,⟨0,sc⟩,hang,lo,fo⟩ [])):=KC.add (qx ⟨d,⟨0,sc⟩,hang,lo,fo⟩ hs hx hr);have hw:i64.wrap ((d.ps.n:Int)-0)=d.ps.n:=(w64 (by omega) (by omega)).trans (by omega)
 have hv:JP ⟨d,⟨0,sc⟩,hang,lo,fo⟩=match decide ((d.ps.n:Int)>lo)with
   | true=>([],6)
   | false=>([],0):=by
  simp only[JP,hx,hr,tdS,onT,J4,YF];simp only[show(d.ps.n:Int)-((([]:List QB).length:Int)-QJ [] (-2))=d.ps.n by simp[QJ]]
  cases decide ((d.ps.n:Int)>lo)<;>rfl
 refine Vt (c:=Qi f10) (E:=mkE prog (Kv QV (opO ⟨d,⟨0,sc⟩,hang,lo,fo⟩ []))) (H:=hnd (mkE prog (Kv QV (opO ⟨d,⟨0,sc⟩,hang,lo,fo⟩ []))) 8) (QL hT) func10 (by kernel_rfl) (by kernel_rfl) (N:=8) (by decide) (⟨d,⟨0,sc⟩,hang,lo,fo⟩,()) (λG h1 _=>Qw (QL hT) 8 G _ h1) (QHI _) ?_
 refine Qp (QWp QV d sc hang lo fo) ?_;refine QF (KP.2 ?_) (QH (λ_=>QH (λq=>?_) (λq=>?_)) (λq=>by cases q))
 .repeat' first|with_reducible refine QK ?_ ?_|exact tv|refine aI ?_ ?_
 .rw[hw]at q;simp only[Xv,hv,q];refine⟨rfl,rfl,_,Qgb [] 6,?_⟩
  repeat' first|with_reducible refine QK ?_ ?_|exact tv|exact rfl|refine aI ?_ ?_
 .rw[hw]at q;simp only[Xv,hv,q];refine⟨rfl,rfl,_,QTf [] 0,?_⟩
  repeat' first|with_reducible refine QK ?_ ?_|exact tv|exact rfl|refine aI ?_ ?_
theorem QdR(hx:(Xv (x,())).1=true):QO prog 10 (wFC (JN Xv (x,()))):=by
 obtain⟨h1,h2,h3⟩:=qdt hx;have hs:XZ x:=⟨h1,h2,h3⟩;cases ho:x.ok with
 | false=>exact QRl x 1 (QDa x hs ho) (by decide) (by simp only[JP,ho])
 | true=>cases hr:Ky x with
  | true=>exact QRl x 11 (QCo x hs ho hr) (by decide) (by simp only[JP,ho,hr])
  | false=>
   by_cases hp:0<x.sK.n
   .exact QXs x hs ho hr hp
   .obtain⟨d,⟨n,sc⟩,hang,lo,fo⟩:=x;obtain rfl:n=0:=by simp only at hp;omega
    exact QZH d sc hang lo fo hs ho hr
theorem QZs:QO prog 10 QR3:=WL (by kernel_rfl) λ|(x,()),hx=>QdR x hx
