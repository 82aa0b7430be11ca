/- - -/
import Derived.Test.YtbpffdkemeoajaaMazl
open Go.IntKind (i64)
set_option maxRecDepth 100000
namespace Go.Proofs.Ytbpffdkemeoajaa
open Go Go.SX
variable (pb:List Prop→Bool)(x:QB)(o q:QG)(w:Rw QO)(k:Int)(o':QG)
abbrev wdB(e:Edge):Edge:=⟨e.kind,⟨max 0 (i64.wrap (e.at_.lo-dv w k 30)),min 10000 (i64.wrap (e.at_.hi+dv w (k+1) 30))⟩,⟨max 1 (i64.wrap (e.wide.lo-dv w (k+1+1) 50)),min 3000 (i64.wrap (e.wide.hi+dv w (k+1+1+1) 50))⟩,⟨max 1 (i64.wrap (e.deep.lo-dv w (k+1+1+1+1) 20)),min 3000 (i64.wrap (e.deep.hi+dv w (k+1+1+1+1+1) 20))⟩⟩
abbrev wdP(e f:Edge):List Prop:=[(wdB w k e).kind=f.kind,(wdB w k e).at_.lo=f.at_.lo,(wdB w k e).at_.hi=f.at_.hi,(wdB w k e).wide.lo=f.wide.lo,(wdB w k e).wide.hi=f.wide.hi,(wdB w k e).deep.lo=f.deep.lo,(wdB w k e).deep.hi=f.deep.hi]
def KT(q o:QG)(k:Int)(j:Nat):JSt:=⟨83,[(2,dwF),(4,.ptr 408 0 0),(6,.ptr 416 0 0),(7,.ptr 424 0 0),(16,Enc.enc q),(17,.int true .i64 j)],[(424,.cells 7 33 (Enc.enc o).cells),(416,.cells 7 33 (Enc.enc zeP).cells),(408,.cells 0 56 (Enc.enc x).cells)]++atB w k,500⟩
def QAo(o:QG)(k:Int):JSt:=⟨83,[(6,.ptr 416 0 0),(7,.ptr 424 0 0)],[(424,.cells 7 33 (Enc.enc o).cells),(416,.cells 7 33 (Enc.enc zeP).cells)]++atW w k,500⟩
def zB:Ex→List Nat
 | .normal=>[2,4,6,7,16,17]
 | .exit _=>[6,7]
 | .ret=>[]
abbrev JY:List Prop:=
  [w.n=w.n,w.n=w.n,QC 1 w.n (fun i=>QA.enc (w.get i)) fun i=>QA.enc (w.get i)]
noncomputable abbrev qJ:List AV:=
  [.ptr 272 0 0,.ptr 273 0 0]
noncomputable abbrev Z3:List AV:=
  ((Enc.enc (q:QG)).cells)
noncomputable abbrev Wm:List AV:=
  [.nilp,.ptr 83 0 0,.fn (Fn.func 58) qJ,.ptr 408 0 0,.ptr 416 0 0,.ptr 424 0 0,.agg (Z3 q),vj 1]
noncomputable abbrev Kt:Nat×Blk:=
  (272,.cells 0 3 [vi (k+1+1+1+1+1+1)])
noncomputable abbrev Qy:Nat×Blk:=
  (273,.cells 0 58 [.slz 2 0 w.n cO])
noncomputable abbrev Q2:Nat×Blk:=
  (408,.cells 0 56 [vi x.cell,vi x.turn])
noncomputable abbrev Qx:Nat×Blk:=
  (416,.cells 7 33 ((Enc.enc (⟨⟨0,⟨0,0⟩,⟨0,0⟩,⟨0,0⟩⟩,⟨0,⟨0,0⟩,⟨0,0⟩,⟨0,0⟩⟩,⟨0,⟨0,0⟩,⟨0,0⟩,⟨0,0⟩⟩,⟨0,⟨0,0⟩,⟨0,0⟩,⟨0,0⟩⟩⟩:QG)).cells))
noncomputable abbrev QKE(o:QG)(q:QG)(w:Rw QO):Nat×Blk:=
  (424,.cells 7 33 ((Enc.enc (⟨(wdB w k q.up),o.right,o.down,o.left⟩:QG)).cells))
noncomputable abbrev Qv:Nat×Blk:=
  (2,.frz [CK.int IntKind.u16] w.n fun i=>QA.enc (w.get i))
noncomputable abbrev QQh(o:QG)(q:QG)(w:Rw QO):Nat×Blk:=
  (424,.cells 7 33 ((Enc.enc (⟨o.up,(wdB w k q.up),o.down,o.left⟩:QG)).cells))
noncomputable abbrev QHr(o:QG)(q:QG)(w:Rw QO):Nat×Blk:=
  (424,.cells 7 33 ((Enc.enc (⟨o.up,o.right,(wdB w k q.up),o.left⟩:QG)).cells))
noncomputable abbrev QPi(o:QG)(q:QG)(w:Rw QO):Nat×Blk:=
  (424,.cells 7 33 ((Enc.enc (⟨o.up,o.right,o.down,(wdB w k q.up)⟩:QG)).cells))
noncomputable abbrev Kp:Nat×Blk:=
  (272,.cells 0 3 [vi k])
noncomputable abbrev QLa:Nat×Blk:=
  (424,.cells 7 33 ((Enc.enc (⟨q.up,o.right,o.down,o.left⟩:QG)).cells))
noncomputable abbrev QHq:Nat×Blk:=
  (424,.cells 7 33 ((Enc.enc (⟨o.up,q.up,o.down,o.left⟩:QG)).cells))
noncomputable abbrev QIY:Nat×Blk:=
  (424,.cells 7 33 ((Enc.enc (⟨o.up,o.right,q.up,o.left⟩:QG)).cells))
noncomputable abbrev QMq:Nat×Blk:=
  (424,.cells 7 33 ((Enc.enc (⟨o.up,o.right,o.down,q.up⟩:QG)).cells))
theorem QTn(q o:QG)(k:Int)(g:Nat→Value):exec (mkX Try.prog (VR pb w)) (hnd (mkX Try.prog (VR pb w)) 3) (Qd Try.f30 0) (JSt.inst (KT x w q o k 0) g) (KS [272,273] zB) = .br (q.up.kind != 0) (.need
  (decide (1≤w.n∧(0:Int)≤k∧k≤100000∧(0:Int)<30)&&pb (JY w)) (.need (decide (1≤w.n∧(0:Int)≤k+1∧k+1≤100000∧(0:Int)<30)&&pb (JY w)) (.need
  (decide (1≤w.n∧(0:Int)≤k+1+1∧k+1+1≤100000∧(0:Int)<50)&&pb (JY w)) (.need (decide (1≤w.n∧(0:Int)≤k+1+1+1∧k+1+1+1≤100000∧(0 :
  Int)<50)&&pb (JY w)) (.need (decide (1≤w.n∧(0:Int)≤k+1+1+1+1∧k+1+1+1+1≤100000∧(0:Int)<20)&&pb (JY w)) (.need (decide (1≤w.n∧(0:Int)
  ≤ k+1+1+1+1+1∧k+1+1+1+1+1≤100000∧(0:Int)<20)&&pb (JY w)) (.need (decide ((0:Int)≤(i64.wrap ((4:Int)-x.turn)).tmod (4:Int) ∧
  (i64.wrap ((4:Int)-x.turn)).tmod (4:Int)<4)) (.br (decide ((i64.wrap ((4:Int)-x.turn)).tmod (4:Int)=0)) (.leaf (.tup (Wm q)) ([(Kt k),(Qy w),
  (Q2 x),Qx,(QKE k o q w),(Qv w)])) (.br (decide ((i64.wrap ((4:Int)-x.turn)).tmod (4:Int)=1)) (.leaf (.tup (Wm q)) ([(Kt k),(Qy w),(Q2 x),Qx,
  (QQh k o q w),(Qv w)])) (.br (decide ((i64.wrap ((4:Int)-x.turn)).tmod (4:Int)=2)) (.leaf (.tup (Wm q)) ([(Kt k),(Qy w),(Q2 x),Qx,(QHr k o q w),
  (Qv w)])) (.leaf (.tup (Wm q)) ([(Kt k),(Qy w),(Q2 x),Qx,(QPi k o q w),(Qv w)])))))))))))) (.need (decide ((0:Int)≤(i64.wrap ((4:Int) -
  x.turn)).tmod (4:Int)∧(i64.wrap ((4:Int)-x.turn)).tmod (4:Int)<4)) (.br (decide ((i64.wrap ((4:Int)-x.turn)).tmod (4:Int)=0)) (.leaf (.tup (Wm
  q)) ([(Kp k),(Qy w),(Q2 x),Qx,(QLa o q),(Qv w)])) (.br (decide ((i64.wrap ((4:Int)-x.turn)).tmod (4:Int)=1)) (.leaf (.tup (Wm q)) ([(Kp k),
  (Qy w),(Q2 x),Qx,(QHq o q),(Qv w)])) (.br (decide ((i64.wrap ((4:Int)-x.turn)).tmod (4:Int)=2)) (.leaf (.tup (Wm q)) ([(Kp k),(Qy w),(Q2 x),
  Qx,(QIY o q),(Qv w)])) (.leaf (.tup (Wm q)) ([(Kp k),(Qy w),(Q2 x),Qx,(QMq o q),(Qv w)])))))):=by kernel_rfl
noncomputable abbrev WT:List AV:=
  [.nilp,.ptr 83 0 0,.fn (Fn.func 58) qJ,.ptr 408 0 0,.ptr 416 0 0,.ptr 424 0 0,.agg (Z3 q),vj 2]
noncomputable abbrev QLZ(o:QG)(q:QG)(w:Rw QO):Nat×Blk:=
  (424,.cells 7 33 ((Enc.enc (⟨(wdB w k q.right),o.right,o.down,o.left⟩:QG)).cells))
noncomputable abbrev QKF(o:QG)(q:QG)(w:Rw QO):Nat×Blk:=
  (424,.cells 7 33 ((Enc.enc (⟨o.up,(wdB w k q.right),o.down,o.left⟩:QG)).cells))
noncomputable abbrev QPW(o:QG)(q:QG)(w:Rw QO):Nat×Blk:=
  (424,.cells 7 33 ((Enc.enc (⟨o.up,o.right,(wdB w k q.right),o.left⟩:QG)).cells))
noncomputable abbrev QKx(o:QG)(q:QG)(w:Rw QO):Nat×Blk:=
  (424,.cells 7 33 ((Enc.enc (⟨o.up,o.right,o.down,(wdB w k q.right)⟩:QG)).cells))
noncomputable abbrev QO2:Nat×Blk:=
  (424,.cells 7 33 ((Enc.enc (⟨q.right,o.right,o.down,o.left⟩:QG)).cells))
noncomputable abbrev QOT:Nat×Blk:=
  (424,.cells 7 33 ((Enc.enc (⟨o.up,q.right,o.down,o.left⟩:QG)).cells))
noncomputable abbrev QH4:Nat×Blk:=
  (424,.cells 7 33 ((Enc.enc (⟨o.up,o.right,q.right,o.left⟩:QG)).cells))
noncomputable abbrev QJr:Nat×Blk:=
  (424,.cells 7 33 ((Enc.enc (⟨o.up,o.right,o.down,q.right⟩:QG)).cells))
theorem QZ3(q o:QG)(k:Int)(g:Nat→Value):exec (mkX Try.prog (VR pb w)) (hnd (mkX Try.prog (VR pb w)) 3) (Qd Try.f30 0) (JSt.inst (KT x w q o k 1) g) (KS [272,273] zB) = .br (q.right.kind != 0) (.need
  (decide (1≤w.n∧(0:Int)≤k∧k≤100000∧(0:Int)<30)&&pb (JY w)) (.need (decide (1≤w.n∧(0:Int)≤k+1∧k+1≤100000∧(0:Int)<30)&&pb (JY w)) (.need
  (decide (1≤w.n∧(0:Int)≤k+1+1∧k+1+1≤100000∧(0:Int)<50)&&pb (JY w)) (.need (decide (1≤w.n∧(0:Int)≤k+1+1+1∧k+1+1+1≤100000∧(0 :
  Int)<50)&&pb (JY w)) (.need (decide (1≤w.n∧(0:Int)≤k+1+1+1+1∧k+1+1+1+1≤100000∧(0:Int)<20)&&pb (JY w)) (.need (decide (1≤w.n∧(0:Int)
  ≤ k+1+1+1+1+1∧k+1+1+1+1+1≤100000∧(0:Int)<20)&&pb (JY w)) (.need (decide ((0:Int)≤(i64.wrap ((5:Int)-x.turn)).tmod (4:Int) ∧
  (i64.wrap ((5:Int)-x.turn)).tmod (4:Int)<4)) (.br (decide ((i64.wrap ((5:Int)-x.turn)).tmod (4:Int)=0)) (.leaf (.tup (WT q)) ([(Kt k),(Qy w),
  (Q2 x),Qx,(QLZ k o q w),(Qv w)])) (.br (decide ((i64.wrap ((5:Int)-x.turn)).tmod (4:Int)=1)) (.leaf (.tup (WT q)) ([(Kt k),(Qy w),(Q2 x),Qx,
  (QKF k o q w),(Qv w)])) (.br (decide ((i64.wrap ((5:Int)-x.turn)).tmod (4:Int)=2)) (.leaf (.tup (WT q)) ([(Kt k),(Qy w),(Q2 x),Qx,(QPW k o q
  w),(Qv w)])) (.leaf (.tup (WT q)) ([(Kt k),(Qy w),(Q2 x),Qx,(QKx k o q w),(Qv w)])))))))))))) (.need (decide ((0:Int)≤(i64.wrap ((5:Int) -
  x.turn)).tmod (4:Int)∧(i64.wrap ((5:Int)-x.turn)).tmod (4:Int)<4)) (.br (decide ((i64.wrap ((5:Int)-x.turn)).tmod (4:Int)=0)) (.leaf (.tup (WT
  q)) ([(Kp k),(Qy w),(Q2 x),Qx,(QO2 o q),(Qv w)])) (.br (decide ((i64.wrap ((5:Int)-x.turn)).tmod (4:Int)=1)) (.leaf (.tup (WT q)) ([(Kp k),
  (Qy w),(Q2 x),Qx,(QOT o q),(Qv w)])) (.br (decide ((i64.wrap ((5:Int)-x.turn)).tmod (4:Int)=2)) (.leaf (.tup (WT q)) ([(Kp k),(Qy w),(Q2 x),
  Qx,(QH4 o q),(Qv w)])) (.leaf (.tup (WT q)) ([(Kp k),(Qy w),(Q2 x),Qx,(QJr o q),(Qv w)])))))):=by kernel_rfl
noncomputable abbrev W6:List AV:=
  [.nilp,.ptr 83 0 0,.fn (Fn.func 58) qJ,.ptr 408 0 0,.ptr 416 0 0,.ptr 424 0 0,.agg (Z3 q),vj 3]
noncomputable abbrev QMa(o:QG)(q:QG)(w:Rw QO):Nat×Blk:=
  (424,.cells 7 33 ((Enc.enc (⟨(wdB w k q.down),o.right,o.down,o.left⟩:QG)).cells))
noncomputable abbrev QNQ(o:QG)(q:QG)(w:Rw QO):Nat×Blk:=
  (424,.cells 7 33 ((Enc.enc (⟨o.up,(wdB w k q.down),o.down,o.left⟩:QG)).cells))
noncomputable abbrev QL7(o:QG)(q:QG)(w:Rw QO):Nat×Blk:=
  (424,.cells 7 33 ((Enc.enc (⟨o.up,o.right,(wdB w k q.down),o.left⟩:QG)).cells))
noncomputable abbrev QIC(o:QG)(q:QG)(w:Rw QO):Nat×Blk:=
  (424,.cells 7 33 ((Enc.enc (⟨o.up,o.right,o.down,(wdB w k q.down)⟩:QG)).cells))
noncomputable abbrev QLy:Nat×Blk:=
  (424,.cells 7 33 ((Enc.enc (⟨q.down,o.right,o.down,o.left⟩:QG)).cells))
noncomputable abbrev QKQ:Nat×Blk:=
  (424,.cells 7 33 ((Enc.enc (⟨o.up,q.down,o.down,o.left⟩:QG)).cells))
noncomputable abbrev QIR:Nat×Blk:=
  (424,.cells 7 33 ((Enc.enc (⟨o.up,o.right,q.down,o.left⟩:QG)).cells))
noncomputable abbrev QNY:Nat×Blk:=
  (424,.cells 7 33 ((Enc.enc (⟨o.up,o.right,o.down,q.down⟩:QG)).cells))
theorem QTX(q o:QG)(k:Int)(g:Nat→Value):exec (mkX Try.prog (VR pb w)) (hnd (mkX Try.prog (VR pb w)) 3) (Qd Try.f30 0) (JSt.inst (KT x w q o k 2) g) (KS [272,273] zB) = .br (q.down.kind != 0) (.need
  (decide (1≤w.n∧(0:Int)≤k∧k≤100000∧(0:Int)<30)&&pb (JY w)) (.need (decide (1≤w.n∧(0:Int)≤k+1∧k+1≤100000∧(0:Int)<30)&&pb (JY w)) (.need
  (decide (1≤w.n∧(0:Int)≤k+1+1∧k+1+1≤100000∧(0:Int)<50)&&pb (JY w)) (.need (decide (1≤w.n∧(0:Int)≤k+1+1+1∧k+1+1+1≤100000∧(0 :
  Int)<50)&&pb (JY w)) (.need (decide (1≤w.n∧(0:Int)≤k+1+1+1+1∧k+1+1+1+1≤100000∧(0:Int)<20)&&pb (JY w)) (.need (decide (1≤w.n∧(0:Int)
  ≤ k+1+1+1+1+1∧k+1+1+1+1+1≤100000∧(0:Int)<20)&&pb (JY w)) (.need (decide ((0:Int)≤(i64.wrap ((6:Int)-x.turn)).tmod (4:Int) ∧
  (i64.wrap ((6:Int)-x.turn)).tmod (4:Int)<4)) (.br (decide ((i64.wrap ((6:Int)-x.turn)).tmod (4:Int)=0)) (.leaf (.tup (W6 q)) ([(Kt k),(Qy w),
  (Q2 x),Qx,(QMa k o q w),(Qv w)])) (.br (decide ((i64.wrap ((6:Int)-x.turn)).tmod (4:Int)=1)) (.leaf (.tup (W6 q)) ([(Kt k),(Qy w),(Q2 x),Qx,
  (QNQ k o q w),(Qv w)])) (.br (decide ((i64.wrap ((6:Int)-x.turn)).tmod (4:Int)=2)) (.leaf (.tup (W6 q)) ([(Kt k),(Qy w),(Q2 x),Qx,(QL7 k o q
  w),(Qv w)])) (.leaf (.tup (W6 q)) ([(Kt k),(Qy w),(Q2 x),Qx,(QIC k o q w),(Qv w)])))))))))))) (.need (decide ((0:Int)≤(i64.wrap ((6:Int) -
  x.turn)).tmod (4:Int)∧(i64.wrap ((6:Int)-x.turn)).tmod (4:Int)<4)) (.br (decide ((i64.wrap ((6:Int)-x.turn)).tmod (4:Int)=0)) (.leaf (.tup (W6
  q)) ([(Kp k),(Qy w),(Q2 x),Qx,(QLy o q),(Qv w)])) (.br (decide ((i64.wrap ((6:Int)-x.turn)).tmod (4:Int)=1)) (.leaf (.tup (W6 q)) ([(Kp k),
  (Qy w),(Q2 x),Qx,(QKQ o q),(Qv w)])) (.br (decide ((i64.wrap ((6:Int)-x.turn)).tmod (4:Int)=2)) (.leaf (.tup (W6 q)) ([(Kp k),(Qy w),(Q2 x),
  Qx,(QIR o q),(Qv w)])) (.leaf (.tup (W6 q)) ([(Kp k),(Qy w),(Q2 x),Qx,(QNY o q),(Qv w)])))))):=by kernel_rfl
noncomputable abbrev Wi:List AV:=
  [.nilp,.ptr 83 0 0,.fn (Fn.func 58) qJ,.ptr 408 0 0,.ptr 416 0 0,.ptr 424 0 0,.agg (Z3 q),vj 4]
noncomputable abbrev QIg(o:QG)(q:QG)(w:Rw QO):Nat×Blk:=
  (424,.cells 7 33 ((Enc.enc (⟨(wdB w k q.left),o.right,o.down,o.left⟩:QG)).cells))
noncomputable abbrev QOK(o:QG)(q:QG)(w:Rw QO):Nat×Blk:=
  (424,.cells 7 33 ((Enc.enc (⟨o.up,(wdB w k q.left),o.down,o.left⟩:QG)).cells))
noncomputable abbrev QPN(o:QG)(q:QG)(w:Rw QO):Nat×Blk:=
  (424,.cells 7 33 ((Enc.enc (⟨o.up,o.right,(wdB w k q.left),o.left⟩:QG)).cells))
noncomputable abbrev QQF(o:QG)(q:QG)(w:Rw QO):Nat×Blk:=
  (424,.cells 7 33 ((Enc.enc (⟨o.up,o.right,o.down,(wdB w k q.left)⟩:QG)).cells))
noncomputable abbrev QJA:Nat×Blk:=
  (424,.cells 7 33 ((Enc.enc (⟨q.left,o.right,o.down,o.left⟩:QG)).cells))
noncomputable abbrev QJS:Nat×Blk:=
  (424,.cells 7 33 ((Enc.enc (⟨o.up,q.left,o.down,o.left⟩:QG)).cells))
noncomputable abbrev QN8:Nat×Blk:=
  (424,.cells 7 33 ((Enc.enc (⟨o.up,o.right,q.left,o.left⟩:QG)).cells))
noncomputable abbrev QIm:Nat×Blk:=
  (424,.cells 7 33 ((Enc.enc (⟨o.up,o.right,o.down,q.left⟩:QG)).cells))
theorem QWK(q o:QG)(k:Int)(g:Nat→Value):exec (mkX Try.prog (VR pb w)) (hnd (mkX Try.prog (VR pb w)) 3) (Qd Try.f30 0) (JSt.inst (KT x w q o k 3) g) (KS [272,273] zB) = .br (q.left.kind != 0) (.need
  (decide (1≤w.n∧(0:Int)≤k∧k≤100000∧(0:Int)<30)&&pb (JY w)) (.need (decide (1≤w.n∧(0:Int)≤k+1∧k+1≤100000∧(0:Int)<30)&&pb (JY w)) (.need
  (decide (1≤w.n∧(0:Int)≤k+1+1∧k+1+1≤100000∧(0:Int)<50)&&pb (JY w)) (.need (decide (1≤w.n∧(0:Int)≤k+1+1+1∧k+1+1+1≤100000∧(0 :
  Int)<50)&&pb (JY w)) (.need (decide (1≤w.n∧(0:Int)≤k+1+1+1+1∧k+1+1+1+1≤100000∧(0:Int)<20)&&pb (JY w)) (.need (decide (1≤w.n∧(0:Int)
  ≤ k+1+1+1+1+1∧k+1+1+1+1+1≤100000∧(0:Int)<20)&&pb (JY w)) (.need (decide ((0:Int)≤(i64.wrap ((7:Int)-x.turn)).tmod (4:Int) ∧
  (i64.wrap ((7:Int)-x.turn)).tmod (4:Int)<4)) (.br (decide ((i64.wrap ((7:Int)-x.turn)).tmod (4:Int)=0)) (.leaf (.tup (Wi q)) ([(Kt k),(Qy w),
  (Q2 x),Qx,(QIg k o q w),(Qv w)])) (.br (decide ((i64.wrap ((7:Int)-x.turn)).tmod (4:Int)=1)) (.leaf (.tup (Wi q)) ([(Kt k),(Qy w),(Q2 x),Qx,
  (QOK k o q w),(Qv w)])) (.br (decide ((i64.wrap ((7:Int)-x.turn)).tmod (4:Int)=2)) (.leaf (.tup (Wi q)) ([(Kt k),(Qy w),(Q2 x),Qx,(QPN k o q
  w),(Qv w)])) (.leaf (.tup (Wi q)) ([(Kt k),(Qy w),(Q2 x),Qx,(QQF k o q w),(Qv w)])))))))))))) (.need (decide ((0:Int)≤(i64.wrap ((7:Int) -
  x.turn)).tmod (4:Int)∧(i64.wrap ((7:Int)-x.turn)).tmod (4:Int)<4)) (.br (decide ((i64.wrap ((7:Int)-x.turn)).tmod (4:Int)=0)) (.leaf (.tup (Wi
  q)) ([(Kp k),(Qy w),(Q2 x),Qx,(QJA o q),(Qv w)])) (.br (decide ((i64.wrap ((7:Int)-x.turn)).tmod (4:Int)=1)) (.leaf (.tup (Wi q)) ([(Kp k),
  (Qy w),(Q2 x),Qx,(QJS o q),(Qv w)])) (.br (decide ((i64.wrap ((7:Int)-x.turn)).tmod (4:Int)=2)) (.leaf (.tup (Wi q)) ([(Kp k),(Qy w),(Q2 x),
  Qx,(QN8 o q),(Qv w)])) (.leaf (.tup (Wi q)) ([(Kp k),(Qy w),(Q2 x),Qx,(QIm o q),(Qv w)])))))):=by kernel_rfl
noncomputable abbrev QPL:Nat×Blk:=
  (424,.cells 7 33 ((Enc.enc (o:QG)).cells))
theorem QWT(q o:QG)(k:Int)(g:Nat→Value):exec (mkX Try.prog (VR pb w)) (hnd (mkX Try.prog (VR pb w)) 3) (Qd Try.f30 0) (JSt.inst (KT x w q o k 4) g) (KS [272,273] zB) = .leaf (.tup [.ptr 0 0 0,.ptr 83
  0 0,.ptr 416 0 0,.ptr 424 0 0]) ([(Kp k),(Qy w),Qx,(QPL o),(Qv w)]):=by kernel_rfl
noncomputable abbrev Wp:List AV:=
  [.fn (Fn.func 58) qJ,.ptr 408 0 0,.ptr 416 0 0,.ptr 424 0 0,.agg (Z3 q),vj 1]
abbrev K0:List Prop:=
  [0=0,0=0,0=0,0=0,0=0]
abbrev Kx:List Prop:=
  [0=0,0=0,q.up.kind=q.up.kind,q.up.at_.lo=q.up.at_.lo,q.up.at_.hi=q.up.at_.hi,q.up.wide.lo=q.up.wide.lo,q.up.wide.hi=q.up.wide.hi,q.up.deep.lo=q.up.deep.lo,
  q.up.deep.hi=q.up.deep.hi,q.right.kind=q.right.kind,q.right.at_.lo=q.right.at_.lo,q.right.at_.hi=q.right.at_.hi,q.right.wide.lo=q.right.wide.lo,q.right.wide.hi =
  q.right.wide.hi,q.right.deep.lo=q.right.deep.lo,q.right.deep.hi=q.right.deep.hi,q.down.kind=q.down.kind,q.down.at_.lo=q.down.at_.lo,q.down.at_.hi=q.down.at_.hi,
  q.down.wide.lo=q.down.wide.lo,q.down.wide.hi=q.down.wide.hi,q.down.deep.lo=q.down.deep.lo,q.down.deep.hi=q.down.deep.hi,q.left.kind=q.left.kind,q.left.at_.lo =
  q.left.at_.lo,q.left.at_.hi=q.left.at_.hi,q.left.wide.lo=q.left.wide.lo,q.left.wide.hi=q.left.wide.hi,q.left.deep.lo=q.left.deep.lo,q.left.deep.hi=q.left.deep.hi]
abbrev Vo:List Prop:=
  [o.right.at_.lo=o'.right.at_.lo,o.right.at_.hi=o'.right.at_.hi,o.right.wide.lo=o'.right.wide.lo,o.right.wide.hi=o'.right.wide.hi,o.right.deep.lo=o'.right.deep.lo,
  o.right.deep.hi=o'.right.deep.hi,o.down.kind=o'.down.kind,o.down.at_.lo=o'.down.at_.lo,o.down.at_.hi=o'.down.at_.hi,o.down.wide.lo=o'.down.wide.lo,o.down.wide.hi =
  o'.down.wide.hi,o.down.deep.lo=o'.down.deep.lo,o.down.deep.hi=o'.down.deep.hi]
abbrev Jc:List Prop:=
  [o.left.at_.lo=o'.left.at_.lo,o.left.at_.hi=o'.left.at_.hi,o.left.wide.lo=o'.left.wide.lo,o.left.wide.hi=o'.left.wide.hi,o.left.deep.lo=o'.left.deep.lo,o.left.deep.hi
  = o'.left.deep.hi]
abbrev Ks:List Prop:=
  [(0:Int)=0,(0:Int)=0,(0:Int)=0,(0:Int)=0,(0:Int)=0,(0:Int)=0,(0:Int)=0,(0:Int)=0,(0:Int)=0,(0:Int)=0,(0:Int)=0,(0:Int)=0,
  (0:Int)=0,(0:Int)=0,(0:Int)=0,(0:Int)=0]
abbrev Qw:List Prop:=
  [(0:Int)=0,(0:Int)=0,(0:Int)=0,(0:Int)=0,(0:Int)=0,(0:Int)=0]
abbrev Kw:List Prop:=
  [0=0,w.n=w.n,cO=cO,w.n≤w.n,QC 1 w.n (fun i=>QA.enc (w.get i)) fun i=>QA.enc (w.get i)]
theorem QRv(q o o':QG)(k k':Int):QK 400 (Wp q) ([(Kt k),(Qy w),(Q2 x),Qx,(QKE k o q w),(Qv w)]) (KT x w q o' k' 1)=(some ([Fn.func 58=Fn.func (58:FuncId)]++K0++[0=0,0=0,0=0]++(Kx q)++[(1:Int)=1]++(wdP w k q.up o'.up)++[o.right.kind=o'.right.kind]++(Vo o o')++[o.left.kind=o'.left.kind]++(Jc o o')++Ks++Qw++Qw++[x.cell=x.cell,x.turn=x.turn,k+1+1+1+1+1+1=k']++(Kw w))):=by kernel_rfl
 noncomputable abbrev zAc57 (o : QG) (o' : QG) : List Prop :=
    [o.up.at_.lo = o'.up.at_.lo,o.up.at_.hi = o'.up.at_.hi,o.up.wide.lo = o'.up.wide.lo,o.up.wide.hi = o'.up.wide.hi,o.up.deep.lo = o'.up.deep.lo,o.up.deep.hi = o'.up.deep.hi]
abbrev Wy:List Prop:=
  [o.down.kind=o'.down.kind,o.down.at_.lo=o'.down.at_.lo,o.down.at_.hi=o'.down.at_.hi,o.down.wide.lo=o'.down.wide.lo,o.down.wide.hi=o'.down.wide.hi,o.down.deep.lo =
  o'.down.deep.lo,o.down.deep.hi=o'.down.deep.hi,o.left.kind=o'.left.kind]
theorem QXm(q o o':QG)(k k':Int):QK 400 (Wp q) ([(Kt k),(Qy w),(Q2 x),Qx,(QQh k o q w),(Qv w)]) (KT x w q o' k' 1)=(some ([Fn.func 58=Fn.func (58:FuncId)]++K0++[0=0,0=0,0=0]++(Kx q)++[(1:Int)=1,o.up.kind=o'.up.kind]++(zAc57 o o')++(wdP w k q.up o'.right)++(Wy o o')++(Jc o o')++Ks++Qw++Qw++[x.cell=x.cell,x.turn=x.turn,k+1+1+1+1+1+1=k']++(Kw w))):=by kernel_rfl
 noncomputable abbrev zAc59 (o : QG) (o' : QG) : List Prop :=
    [o.right.at_.lo = o'.right.at_.lo,o.right.at_.hi = o'.right.at_.hi,o.right.wide.lo = o'.right.wide.lo,o.right.wide.hi = o'.right.wide.hi,o.right.deep.lo = o'.right.deep.lo,
    o.right.deep.hi = o'.right.deep.hi]
theorem QRo(q o o':QG)(k k':Int):QK 400 (Wp q) ([(Kt k),(Qy w),(Q2 x),Qx,(QHr k o q w),(Qv w)]) (KT x w q o' k' 1)=(some ([Fn.func 58=Fn.func (58:FuncId)]++K0++[0=0,0=0,0=0]++(Kx q)++[(1:Int)=1,o.up.kind=o'.up.kind]++(zAc57 o o')++[o.right.kind=o'.right.kind]++(zAc59 o o')++(wdP w k q.up o'.down)++[o.left.kind=o'.left.kind]++(Jc o o')++Ks++Qw++Qw++[x.cell=x.cell,x.turn=x.turn,k+1+1+1+1+1+1=k']++(Kw w))):=by kernel_rfl
 theorem QZo (x : QB) (w : Rw QO) (q o o' : QG) (k k' : Int) :QK 400 (Wp q) ([(Kt k),(Qy w),(Q2 x),Qx,(QPi k o q w),(Qv w)]) (KT x w q o' k' 1) = (some ([Fn.func 58 = Fn.func (58 : FuncId)] ++ K0 ++ [0 = 0,0 = 0,0 = 0] ++ (Kx q) ++ [(1 : Int) = 1,o.up.kind = o'.up.kind] ++ (zAc57 o o') ++ [o.right.kind = o'.right.kind] ++ (Vo o o') ++ (wdP w k q.up o'.left) ++ Ks ++ Qw ++ Qw ++ [x.cell = x.cell,x.turn = x.turn,k + 1 + 1 + 1 + 1 + 1 + 1 = k'] ++ (Kw w))) := by kernel_rfl
 theorem QcD (x : QB) (w : Rw QO) (q o o' : QG) (k k' : Int) :QK 400 (Wp q) ([(Kp k),(Qy w),(Q2 x),Qx,(QLa o q),(Qv w)]) (KT x w q o' k' 1) = (some ([Fn.func 58 = Fn.func (58 : FuncId)] ++ K0 ++ [0 = 0,0 = 0,0 =
    0] ++ (Kx q) ++ [(1 : Int) = 1,q.up.kind = o'.up.kind,q.up.at_.lo = o'.up.at_.lo,q.up.at_.hi = o'.up.at_.hi,q.up.wide.lo = o'.up.wide.lo,q.up.wide.hi = o'.up.wide.hi,
    q.up.deep.lo = o'.up.deep.lo,q.up.deep.hi = o'.up.deep.hi,o.right.kind = o'.right.kind] ++ (Vo o o') ++ [o.left.kind = o'.left.kind] ++ (Jc o o') ++ Ks ++ Qw ++ Qw
    ++ [x.cell = x.cell,x.turn = x.turn,k = k'] ++ (Kw w))) := by kernel_rfl
theorem QW0(q o o':QG)(k k':Int):QK 400 (Wp q) ([(Kp k),(Qy w),(Q2 x),Qx,(QHq o q),(Qv w)]) (KT x w q o' k' 1)=(some ([Fn.func 58=Fn.func (58:FuncId)]++K0++[0=0,0=0,0 =
  0]++(Kx q)++[(1:Int)=1,o.up.kind=o'.up.kind]++(zAc57 o o')++[q.up.kind=o'.right.kind,q.up.at_.lo=o'.right.at_.lo,q.up.at_.hi=o'.right.at_.hi,q.up.wide.lo
  = o'.right.wide.lo,q.up.wide.hi=o'.right.wide.hi,q.up.deep.lo=o'.right.deep.lo,q.up.deep.hi=o'.right.deep.hi]++(Wy o o')++(Jc o o')++Ks++Qw++Qw ++
  [x.cell=x.cell,x.turn=x.turn,k=k']++(Kw w))):=by kernel_rfl
theorem QaL(q o o':QG)(k k':Int):QK 400 (Wp q) ([(Kp k),(Qy w),(Q2 x),Qx,(QIY o q),(Qv w)]) (KT x w q o' k' 1)=(some ([Fn.func 58=Fn.func (58:FuncId)]++K0++[0=0,0=0,0 =
  0]++(Kx q)++[(1:Int)=1,o.up.kind=o'.up.kind]++(zAc57 o o')++[o.right.kind=o'.right.kind]++(zAc59 o o')++[q.up.kind=o'.down.kind,q.up.at_.lo =
  o'.down.at_.lo,q.up.at_.hi=o'.down.at_.hi,q.up.wide.lo=o'.down.wide.lo,q.up.wide.hi=o'.down.wide.hi,q.up.deep.lo=o'.down.deep.lo,q.up.deep.hi=o'.down.deep.hi,
  o.left.kind=o'.left.kind]++(Jc o o')++Ks++Qw++Qw++[x.cell=x.cell,x.turn=x.turn,k=k']++(Kw w))):=by kernel_rfl
theorem QdB(q o o':QG)(k k':Int):QK 400 (Wp q) ([(Kp k),(Qy w),(Q2 x),Qx,(QMq o q),(Qv w)]) (KT x w q o' k' 1)=(some ([Fn.func 58=Fn.func (58:FuncId)]++K0++[0=0,0=0,0 =
  0]++(Kx q)++[(1:Int)=1,o.up.kind=o'.up.kind]++(zAc57 o o')++[o.right.kind=o'.right.kind]++(Vo o o')++[q.up.kind=o'.left.kind,q.up.at_.lo =
  o'.left.at_.lo,q.up.at_.hi=o'.left.at_.hi,q.up.wide.lo=o'.left.wide.lo,q.up.wide.hi=o'.left.wide.hi,q.up.deep.lo=o'.left.deep.lo,q.up.deep.hi=o'.left.deep.hi] ++
  Ks++Qw++Qw++[x.cell=x.cell,x.turn=x.turn,k=k']++(Kw w))):=by kernel_rfl
noncomputable abbrev qF:List AV:=
  [.fn (Fn.func 58) qJ,.ptr 408 0 0,.ptr 416 0 0,.ptr 424 0 0,.agg (Z3 q),vj 2]
theorem QcC(q o o':QG)(k k':Int):QK 400 (qF q) ([(Kt k),(Qy w),(Q2 x),Qx,(QLZ k o q w),(Qv w)]) (KT x w q o' k' 2)=(some ([Fn.func 58=Fn.func (58:FuncId)]++K0++[0=0,0=0,0=0]++(Kx q)++[(2:Int)=2]++(wdP w k q.right o'.up)++[o.right.kind=o'.right.kind]++(Vo o o')++[o.left.kind=o'.left.kind]++(Jc o o')++Ks++Qw++Qw++[x.cell=x.cell,x.turn=x.turn,k+1+1+1+1+1+1=k']++(Kw w))):=by kernel_rfl
 theorem QaR (x : QB) (w : Rw QO) (q o o' : QG) (k k' : Int) :QK 400 (qF q) ([(Kt k),(Qy w),(Q2 x),Qx,(QKF k o q w),(Qv w)]) (KT x w q o' k' 2) = (some ([Fn.func 58 = Fn.func (58 : FuncId)] ++ K0 ++ [0 = 0,0 = 0,0 = 0] ++ (Kx q) ++ [(2 : Int) = 2,o.up.kind = o'.up.kind] ++ (zAc57 o o') ++ (wdP w k q.right o'.right) ++ (Wy o o') ++ (Jc o o') ++ Ks ++ Qw ++ Qw ++ [x.cell = x.cell,x.turn = x.turn,k + 1 + 1 + 1 + 1 + 1 + 1 = k'] ++ (Kw w))) := by kernel_rfl
 theorem QXg (x : QB) (w : Rw QO) (q o o' : QG) (k k' : Int) :QK 400 (qF q) ([(Kt k),(Qy w),(Q2 x),Qx,(QPW k o q w),(Qv w)]) (KT x w q o' k' 2) = (some ([Fn.func 58 = Fn.func (58 : FuncId)] ++ K0 ++ [0 = 0,0 = 0,0 = 0] ++ (Kx q) ++ [(2 : Int) = 2,o.up.kind = o'.up.kind] ++ (zAc57 o o') ++ [o.right.kind = o'.right.kind] ++ (zAc59 o o') ++ (wdP w k q.right o'.down) ++ [o.left.kind = o'.left.kind] ++ (Jc o o') ++ Ks ++ Qw ++ Qw ++ [x.cell = x.cell,x.turn = x.turn,k + 1 + 1 + 1 + 1 + 1 + 1 = k'] ++ (Kw w))) := by kernel_rfl
 theorem QZk (x : QB) (w : Rw QO) (q o o' : QG) (k k' : Int) :QK 400 (qF q) ([(Kt k),(Qy w),(Q2 x),Qx,(QKx k o q w),(Qv w)]) (KT x w q o' k' 2) = (some ([Fn.func 58 = Fn.func (58 : FuncId)] ++ K0 ++ [0 = 0,0 = 0,0 = 0] ++ (Kx q) ++ [(2 : Int) = 2,o.up.kind = o'.up.kind] ++ (zAc57 o o') ++ [o.right.kind = o'.right.kind] ++ (Vo o o') ++ (wdP w k q.right o'.left) ++ Ks ++ Qw ++ Qw ++ [x.cell = x.cell,x.turn = x.turn,k + 1 + 1 + 1 + 1 + 1 + 1 = k'] ++ (Kw w))) := by kernel_rfl
 theorem QZ1 (x : QB) (w : Rw QO) (q o o' : QG) (k k' : Int) :QK 400 (qF q) ([(Kp k),(Qy w),(Q2 x),Qx,(QO2 o q),(Qv w)]) (KT x w q o' k' 2) = (some ([Fn.func 58 = Fn.func (58 : FuncId)] ++ K0 ++ [0 = 0,0 = 0,0 =
    0] ++ (Kx q) ++ [(2 : Int) = 2,q.right.kind = o'.up.kind,q.right.at_.lo = o'.up.at_.lo,q.right.at_.hi = o'.up.at_.hi,q.right.wide.lo = o'.up.wide.lo,q.right.wide.hi =
    o'.up.wide.hi,q.right.deep.lo = o'.up.deep.lo,q.right.deep.hi = o'.up.deep.hi,o.right.kind = o'.right.kind] ++ (Vo o o') ++ [o.left.kind = o'.left.kind] ++ (Jc o o') ++
    Ks ++ Qw ++ Qw ++ [x.cell = x.cell,x.turn = x.turn,k = k'] ++ (Kw w))) := by kernel_rfl
theorem QYW(q o o':QG)(k k':Int):QK 400 (qF q) ([(Kp k),(Qy w),(Q2 x),Qx,(QOT o q),(Qv w)]) (KT x w q o' k' 2)=(some ([Fn.func 58=Fn.func (58:FuncId)]++K0++[0=0,0=0,0 =
  0]++(Kx q)++[(2:Int)=2,o.up.kind=o'.up.kind]++(zAc57 o o')++[q.right.kind=o'.right.kind,q.right.at_.lo=o'.right.at_.lo,q.right.at_.hi=o'.right.at_.hi,
  q.right.wide.lo=o'.right.wide.lo,q.right.wide.hi=o'.right.wide.hi,q.right.deep.lo=o'.right.deep.lo,q.right.deep.hi=o'.right.deep.hi]++(Wy o o')++(Jc o o') ++
  Ks++Qw++Qw++[x.cell=x.cell,x.turn=x.turn,k=k']++(Kw w))):=by kernel_rfl
theorem Qb3(q o o':QG)(k k':Int):QK 400 (qF q) ([(Kp k),(Qy w),(Q2 x),Qx,(QH4 o q),(Qv w)]) (KT x w q o' k' 2)=(some ([Fn.func 58=Fn.func (58:FuncId)]++K0++[0=0,0=0,0 =
  0]++(Kx q)++[(2:Int)=2,o.up.kind=o'.up.kind]++(zAc57 o o')++[o.right.kind=o'.right.kind]++(zAc59 o o')++[q.right.kind=o'.down.kind,q.right.at_.lo =
  o'.down.at_.lo,q.right.at_.hi=o'.down.at_.hi,q.right.wide.lo=o'.down.wide.lo,q.right.wide.hi=o'.down.wide.hi,q.right.deep.lo=o'.down.deep.lo,q.right.deep.hi =
  o'.down.deep.hi,o.left.kind=o'.left.kind]++(Jc o o')++Ks++Qw++Qw++[x.cell=x.cell,x.turn=x.turn,k=k']++(Kw w))):=by kernel_rfl
theorem QYJ(q o o':QG)(k k':Int):QK 400 (qF q) ([(Kp k),(Qy w),(Q2 x),Qx,(QJr o q),(Qv w)]) (KT x w q o' k' 2)=(some ([Fn.func 58=Fn.func (58:FuncId)]++K0++[0=0,0=0,0 =
  0]++(Kx q)++[(2:Int)=2,o.up.kind=o'.up.kind]++(zAc57 o o')++[o.right.kind=o'.right.kind]++(Vo o o')++[q.right.kind=o'.left.kind,q.right.at_.lo =
  o'.left.at_.lo,q.right.at_.hi=o'.left.at_.hi,q.right.wide.lo=o'.left.wide.lo,q.right.wide.hi=o'.left.wide.hi,q.right.deep.lo=o'.left.deep.lo,q.right.deep.hi =
  o'.left.deep.hi]++Ks++Qw++Qw++[x.cell=x.cell,x.turn=x.turn,k=k']++(Kw w))):=by kernel_rfl
noncomputable abbrev WH:List AV:=
  [.fn (Fn.func 58) qJ,.ptr 408 0 0,.ptr 416 0 0,.ptr 424 0 0,.agg (Z3 q),vj 3]
theorem Qaa(q o o':QG)(k k':Int):QK 400 (WH q) ([(Kt k),(Qy w),(Q2 x),Qx,(QMa k o q w),(Qv w)]) (KT x w q o' k' 3)=(some ([Fn.func 58=Fn.func (58:FuncId)]++K0++[0=0,0=0,0=0]++(Kx q)++[(3:Int)=3]++(wdP w k q.down o'.up)++[o.right.kind=o'.right.kind]++(Vo o o')++[o.left.kind=o'.left.kind]++(Jc o o')++Ks++Qw++Qw++[x.cell=x.cell,x.turn=x.turn,k+1+1+1+1+1+1=k']++(Kw w))):=by kernel_rfl
 theorem QWn (x : QB) (w : Rw QO) (q o o' : QG) (k k' : Int) :QK 400 (WH q) ([(Kt k),(Qy w),(Q2 x),Qx,(QNQ k o q w),(Qv w)]) (KT x w q o' k' 3) = (some ([Fn.func 58 = Fn.func (58 : FuncId)] ++ K0 ++ [0 = 0,0 = 0,0 = 0] ++ (Kx q) ++ [(3 : Int) = 3,o.up.kind = o'.up.kind] ++ (zAc57 o o') ++ (wdP w k q.down o'.right) ++ (Wy o o') ++ (Jc o o') ++ Ks ++ Qw ++ Qw ++ [x.cell = x.cell,x.turn = x.turn,k + 1 + 1 + 1 + 1 + 1 + 1 = k'] ++ (Kw w))) := by kernel_rfl
 theorem QcA (x : QB) (w : Rw QO) (q o o' : QG) (k k' : Int) :QK 400 (WH q) ([(Kt k),(Qy w),(Q2 x),Qx,(QL7 k o q w),(Qv w)]) (KT x w q o' k' 3) = (some ([Fn.func 58 = Fn.func (58 : FuncId)] ++ K0 ++ [0 = 0,0 = 0,0 = 0] ++ (Kx q) ++ [(3 : Int) = 3,o.up.kind = o'.up.kind] ++ (zAc57 o o') ++ [o.right.kind = o'.right.kind] ++ (zAc59 o o') ++ (wdP w k q.down o'.down) ++ [o.left.kind = o'.left.kind] ++ (Jc o o') ++ Ks ++ Qw ++ Qw ++ [x.cell = x.cell,x.turn = x.turn,k + 1 + 1 + 1 + 1 + 1 + 1 = k'] ++ (Kw w))) := by kernel_rfl
 theorem QRc (x : QB) (w : Rw QO) (q o o' : QG) (k k' : Int) :QK 400 (WH q) ([(Kt k),(Qy w),(Q2 x),Qx,(QIC k o q w),(Qv w)]) (KT x w q o' k' 3) = (some ([Fn.func 58 = Fn.func (58 : FuncId)] ++ K0 ++ [0 = 0,0 = 0,0 = 0] ++ (Kx q) ++ [(3 : Int) = 3,o.up.kind = o'.up.kind] ++ (zAc57 o o') ++ [o.right.kind = o'.right.kind] ++ (Vo o o') ++ (wdP w k q.down o'.left) ++ Ks ++ Qw ++ Qw ++ [x.cell = x.cell,x.turn = x.turn,k + 1 + 1 + 1 + 1 + 1 + 1 = k'] ++ (Kw w))) := by kernel_rfl
 theorem QVc (x : QB) (w : Rw QO) (q o o' : QG) (k k' : Int) :QK 400 (WH q) ([(Kp k),(Qy w),(Q2 x),Qx,(QLy o q),(Qv w)]) (KT x w q o' k' 3) = (some ([Fn.func 58 = Fn.func (58 : FuncId)] ++ K0 ++ [0 = 0,0 = 0,0 =
    0] ++ (Kx q) ++ [(3 : Int) = 3,q.down.kind = o'.up.kind,q.down.at_.lo = o'.up.at_.lo,q.down.at_.hi = o'.up.at_.hi,q.down.wide.lo = o'.up.wide.lo,q.down.wide.hi =
    o'.up.wide.hi,q.down.deep.lo = o'.up.deep.lo,q.down.deep.hi = o'.up.deep.hi,o.right.kind = o'.right.kind] ++ (Vo o o') ++ [o.left.kind = o'.left.kind] ++ (Jc o o') ++ Ks
    ++ Qw ++ Qw ++ [x.cell = x.cell,x.turn = x.turn,k = k'] ++ (Kw w))) := by kernel_rfl
theorem QSq(q o o':QG)(k k':Int):QK 400 (WH q) ([(Kp k),(Qy w),(Q2 x),Qx,(QKQ o q),(Qv w)]) (KT x w q o' k' 3)=(some ([Fn.func 58=Fn.func (58:FuncId)]++K0++[0=0,0=0,0 =
  0]++(Kx q)++[(3:Int)=3,o.up.kind=o'.up.kind]++(zAc57 o o')++[q.down.kind=o'.right.kind,q.down.at_.lo=o'.right.at_.lo,q.down.at_.hi=o'.right.at_.hi,
  q.down.wide.lo=o'.right.wide.lo,q.down.wide.hi=o'.right.wide.hi,q.down.deep.lo=o'.right.deep.lo,q.down.deep.hi=o'.right.deep.hi]++(Wy o o')++(Jc o o')++Ks
  ++ Qw++Qw++[x.cell=x.cell,x.turn=x.turn,k=k']++(Kw w))):=by kernel_rfl
theorem QXa(q o o':QG)(k k':Int):QK 400 (WH q) ([(Kp k),(Qy w),(Q2 x),Qx,(QIR o q),(Qv w)]) (KT x w q o' k' 3)=(some ([Fn.func 58=Fn.func (58:FuncId)]++K0++[0=0,0=0,0 =
  0]++(Kx q)++[(3:Int)=3,o.up.kind=o'.up.kind]++(zAc57 o o')++[o.right.kind=o'.right.kind]++(zAc59 o o')++[q.down.kind=o'.down.kind,q.down.at_.lo =
  o'.down.at_.lo,q.down.at_.hi=o'.down.at_.hi,q.down.wide.lo=o'.down.wide.lo,q.down.wide.hi=o'.down.wide.hi,q.down.deep.lo=o'.down.deep.lo,q.down.deep.hi =
  o'.down.deep.hi,o.left.kind=o'.left.kind]++(Jc o o')++Ks++Qw++Qw++[x.cell=x.cell,x.turn=x.turn,k=k']++(Kw w))):=by kernel_rfl
theorem QR9(q o o':QG)(k k':Int):QK 400 (WH q) ([(Kp k),(Qy w),(Q2 x),Qx,(QNY o q),(Qv w)]) (KT x w q o' k' 3)=(some ([Fn.func 58=Fn.func (58:FuncId)]++K0++[0=0,0=0,0 =
  0]++(Kx q)++[(3:Int)=3,o.up.kind=o'.up.kind]++(zAc57 o o')++[o.right.kind=o'.right.kind]++(Vo o o')++[q.down.kind=o'.left.kind,q.down.at_.lo =
  o'.left.at_.lo,q.down.at_.hi=o'.left.at_.hi,q.down.wide.lo=o'.left.wide.lo,q.down.wide.hi=o'.left.wide.hi,q.down.deep.lo=o'.left.deep.lo,q.down.deep.hi =
  o'.left.deep.hi]++Ks++Qw++Qw++[x.cell=x.cell,x.turn=x.turn,k=k']++(Kw w))):=by kernel_rfl
noncomputable abbrev Z7:List AV:=
  [.fn (Fn.func 58) qJ,.ptr 408 0 0,.ptr 416 0 0,.ptr 424 0 0,.agg (Z3 q),vj 4]
theorem QRn(q o o':QG)(k k':Int):QK 400 (Z7 q) ([(Kt k),(Qy w),(Q2 x),Qx,(QIg k o q w),(Qv w)]) (KT x w q o' k' 4)=(some ([Fn.func 58=Fn.func (58:FuncId)]++K0++[0=0,0=0,0=0]++(Kx q)++[(4:Int)=4]++(wdP w k q.left o'.up)++[o.right.kind=o'.right.kind]++(Vo o o')++[o.left.kind=o'.left.kind]++(Jc o o')++Ks++Qw++Qw++[x.cell=x.cell,x.turn=x.turn,k+1+1+1+1+1+1=k']++(Kw w))):=by kernel_rfl
 theorem QYY (x : QB) (w : Rw QO) (q o o' : QG) (k k' : Int) :QK 400 (Z7 q) ([(Kt k),(Qy w),(Q2 x),Qx,(QOK k o q w),(Qv w)]) (KT x w q o' k' 4) = (some ([Fn.func 58 = Fn.func (58 : FuncId)] ++ K0 ++ [0 = 0,0 = 0,0 = 0] ++ (Kx q) ++ [(4 : Int) = 4,o.up.kind = o'.up.kind] ++ (zAc57 o o') ++ (wdP w k q.left o'.right) ++ (Wy o o') ++ (Jc o o') ++ Ks ++ Qw ++ Qw ++ [x.cell = x.cell,x.turn = x.turn,k + 1 + 1 + 1 + 1 + 1 + 1 = k'] ++ (Kw w))) := by kernel_rfl
 theorem QcH (x : QB) (w : Rw QO) (q o o' : QG) (k k' : Int) :QK 400 (Z7 q) ([(Kt k),(Qy w),(Q2 x),Qx,(QPN k o q w),(Qv w)]) (KT x w q o' k' 4) = (some ([Fn.func 58 = Fn.func (58 : FuncId)] ++ K0 ++ [0 = 0,0 = 0,0 = 0] ++ (Kx q) ++ [(4 : Int) = 4,o.up.kind = o'.up.kind] ++ (zAc57 o o') ++ [o.right.kind = o'.right.kind] ++ (zAc59 o o') ++ (wdP w k q.left o'.down) ++ [o.left.kind = o'.left.kind] ++ (Jc o o') ++ Ks ++ Qw ++ Qw ++ [x.cell = x.cell,x.turn = x.turn,k + 1 + 1 + 1 + 1 + 1 + 1 = k'] ++ (Kw w))) := by kernel_rfl
 theorem QYO (x : QB) (w : Rw QO) (q o o' : QG) (k k' : Int) :QK 400 (Z7 q) ([(Kt k),(Qy w),(Q2 x),Qx,(QQF k o q w),(Qv w)]) (KT x w q o' k' 4) = (some ([Fn.func 58 = Fn.func (58 : FuncId)] ++ K0 ++ [0 = 0,0 = 0,0 = 0] ++ (Kx q) ++ [(4 : Int) = 4,o.up.kind = o'.up.kind] ++ (zAc57 o o') ++ [o.right.kind = o'.right.kind] ++ (Vo o o') ++ (wdP w k q.left o'.left) ++ Ks ++ Qw ++ Qw ++ [x.cell = x.cell,x.turn = x.turn,k + 1 + 1 + 1 + 1 + 1 + 1 = k'] ++ (Kw w))) := by kernel_rfl
 theorem QWA (x : QB) (w : Rw QO) (q o o' : QG) (k k' : Int) :QK 400 (Z7 q) ([(Kp k),(Qy w),(Q2 x),Qx,(QJA o q),(Qv w)]) (KT x w q o' k' 4) = (some ([Fn.func 58 = Fn.func (58 : FuncId)] ++ K0 ++ [0 = 0,0 = 0,0 =
    0] ++ (Kx q) ++ [(4 : Int) = 4,q.left.kind = o'.up.kind,q.left.at_.lo = o'.up.at_.lo,q.left.at_.hi = o'.up.at_.hi,q.left.wide.lo = o'.up.wide.lo,q.left.wide.hi =
    o'.up.wide.hi,q.left.deep.lo = o'.up.deep.lo,q.left.deep.hi = o'.up.deep.hi,o.right.kind = o'.right.kind] ++ (Vo o o') ++ [o.left.kind = o'.left.kind] ++ (Jc o o') ++ Ks
    ++ Qw ++ Qw ++ [x.cell = x.cell,x.turn = x.turn,k = k'] ++ (Kw w))) := by kernel_rfl
theorem QYe(q o o':QG)(k k':Int):QK 400 (Z7 q) ([(Kp k),(Qy w),(Q2 x),Qx,(QJS o q),(Qv w)]) (KT x w q o' k' 4)=(some ([Fn.func 58=Fn.func (58:FuncId)]++K0++[0=0,0=0,0 =
  0]++(Kx q)++[(4:Int)=4,o.up.kind=o'.up.kind]++(zAc57 o o')++[q.left.kind=o'.right.kind,q.left.at_.lo=o'.right.at_.lo,q.left.at_.hi=o'.right.at_.hi,
  q.left.wide.lo=o'.right.wide.lo,q.left.wide.hi=o'.right.wide.hi,q.left.deep.lo=o'.right.deep.lo,q.left.deep.hi=o'.right.deep.hi]++(Wy o o')++(Jc o o')++Ks
  ++ Qw++Qw++[x.cell=x.cell,x.turn=x.turn,k=k']++(Kw w))):=by kernel_rfl
theorem QWV(q o o':QG)(k k':Int):QK 400 (Z7 q) ([(Kp k),(Qy w),(Q2 x),Qx,(QN8 o q),(Qv w)]) (KT x w q o' k' 4)=(some ([Fn.func 58=Fn.func (58:FuncId)]++K0++[0=0,0=0,0 =
  0]++(Kx q)++[(4:Int)=4,o.up.kind=o'.up.kind]++(zAc57 o o')++[o.right.kind=o'.right.kind]++(zAc59 o o')++[q.left.kind=o'.down.kind,q.left.at_.lo =
  o'.down.at_.lo,q.left.at_.hi=o'.down.at_.hi,q.left.wide.lo=o'.down.wide.lo,q.left.wide.hi=o'.down.wide.hi,q.left.deep.lo=o'.down.deep.lo,q.left.deep.hi =
  o'.down.deep.hi,o.left.kind=o'.left.kind]++(Jc o o')++Ks++Qw++Qw++[x.cell=x.cell,x.turn=x.turn,k=k']++(Kw w))):=by kernel_rfl
theorem QV9(q o o':QG)(k k':Int):QK 400 (Z7 q) ([(Kp k),(Qy w),(Q2 x),Qx,(QIm o q),(Qv w)]) (KT x w q o' k' 4)=(some ([Fn.func 58=Fn.func (58:FuncId)]++K0++[0=0,0=0,0 =
  0]++(Kx q)++[(4:Int)=4,o.up.kind=o'.up.kind]++(zAc57 o o')++[o.right.kind=o'.right.kind]++(Vo o o')++[q.left.kind=o'.left.kind,q.left.at_.lo =
  o'.left.at_.lo,q.left.at_.hi=o'.left.at_.hi,q.left.wide.lo=o'.left.wide.lo,q.left.wide.hi=o'.left.wide.hi,q.left.deep.lo=o'.left.deep.lo,q.left.deep.hi =
  o'.left.deep.hi]++Ks++Qw++Qw++[x.cell=x.cell,x.turn=x.turn,k=k']++(Kw w))):=by kernel_rfl
theorem QRh(o:QG)(k:Int):QK 400 [.ptr 416 0 0,.ptr 424 0 0] ([(Kp k),(Qy w),Qx,(QPL o),(Qv w)]) (QAo w o k)=(some ([0=0,0=0,0=0,0=0,o.up.kind=o.up.kind,o.up.at_.lo =
  o.up.at_.lo,o.up.at_.hi=o.up.at_.hi,o.up.wide.lo=o.up.wide.lo,o.up.wide.hi=o.up.wide.hi,o.up.deep.lo=o.up.deep.lo,o.up.deep.hi=o.up.deep.hi,o.right.kind =
  o.right.kind,o.right.at_.lo=o.right.at_.lo,o.right.at_.hi=o.right.at_.hi,o.right.wide.lo=o.right.wide.lo,o.right.wide.hi=o.right.wide.hi,o.right.deep.lo =
  o.right.deep.lo,o.right.deep.hi=o.right.deep.hi,o.down.kind=o.down.kind,o.down.at_.lo=o.down.at_.lo,o.down.at_.hi=o.down.at_.hi,o.down.wide.lo=o.down.wide.lo,
  o.down.wide.hi=o.down.wide.hi,o.down.deep.lo=o.down.deep.lo,o.down.deep.hi=o.down.deep.hi,o.left.kind=o.left.kind,o.left.at_.lo=o.left.at_.lo,o.left.at_.hi =
  o.left.at_.hi,o.left.wide.lo=o.left.wide.lo,o.left.wide.hi=o.left.wide.hi,o.left.deep.lo=o.left.deep.lo,o.left.deep.hi=o.left.deep.hi]++Ks++Qw++Qw++[k =
  k,0=0,w.n=w.n,cO=cO])):=by kernel_rfl
def wdE(e:Edge):Edge:=cond (e.kind != 0) ⟨e.kind,⟨max 0 (i64.wrap (e.at_.lo-dv w k 30)),min 10000 (i64.wrap (e.at_.hi+dv w (k+1) 30))⟩,⟨max 1 (i64.wrap (e.wide.lo-dv w (k+1+1) 50)),min 3000 (i64.wrap (e.wide.hi+dv w (k+1+1+1) 50))⟩,⟨max 1 (i64.wrap (e.deep.lo-dv w (k+1+1+1+1) 20)),min 3000 (i64.wrap (e.deep.hi+dv w (k+1+1+1+1+1) 20))⟩⟩ e
def wdK(e:Edge):Int:=cond (e.kind != 0) (k+1+1+1+1+1+1) k
theorem Qbn(e:Edge):k≤wdK k e∧wdK k e≤k+6:=by
 unfold wdK;cases e.kind != 0
 ·exact⟨Int.le_refl _,by show k≤k+6;omega⟩
 ·constructor<;>(simp only[cond];omega)
def scK(q:QG)(k:Int):Nat→Int
 | 0=>k
 | s+1=>wdK (scK q k s) (Ky q s)
def scS(t:Int)(w:Rw QO)(q:QG)(k:Int):Nat→QG
 | 0=>zeP
 | s+1=>QJb (scS t w q k s) (toS t s).toNat (wdE w (scK q k s) (Ky q s))
theorem vS(q:QG)(k:Int):∀ s,k≤scK q k s∧scK q k s≤k+6*s
 | 0=>⟨Int.le_refl _,by show k≤k+6*(0:Nat);omega⟩
 | s+1=>by
  have h:=vS q k s;have h2:=Qbn (scK q k s) (Ky q s);show k≤wdK _ _∧wdK _ _≤_;omega
theorem Kz{t:Int}{w:Rw QO}{q:QG}{k:Int}{s:Nat}{j:Nat}(e:toS t s=(j:Int)):scS t w q k (s+1)=QJb (scS t w q k s) j (wdE w (scK q k s) (Ky q s)):=by
 rw[scS,e,Int.toNat_natCast]
theorem QBB{t:Int}(ht:0≤t∧t<4){s:Nat}(hs:s<4):0≤toS t s∧toS t s<4:=by
 rcases(by omega:t=0∨t=1∨t=2∨t=3)with e|e|e|e<;>rw[e]<;>rcases(by omega:s=0∨s=1∨s=2∨s=3)with rfl|rfl|rfl|rfl<;>decide
theorem Wv{n:Int}(h:0≤n∧n<4)(h0:¬ n=0)(h1:¬ n=1)(h2:¬ n=2):n=(3:Nat):=by omega
theorem Hd{w:Rw QO}{k:Int}{e:Edge}(h:(e.kind != 0)=true):wdE w k e=⟨e.kind,⟨max 0 (i64.wrap (e.at_.lo-dv w k 30)),min 10000 (i64.wrap (e.at_.hi+dv w (k+1) 30))⟩,⟨max 1 (i64.wrap (e.wide.lo-dv w (k+1+1) 50)),min 3000 (i64.wrap (e.wide.hi+dv w (k+1+1+1) 50))⟩,⟨max 1 (i64.wrap (e.deep.lo-dv w (k+1+1+1+1) 20)),min 3000 (i64.wrap (e.deep.hi+dv w (k+1+1+1+1+1) 20))⟩⟩∧wdK k e=k+1+1+1+1+1+1:=by unfold wdE wdK;rw[h];exact⟨rfl,rfl⟩
theorem G8{w:Rw QO}{k:Int}{e:Edge}(h:(e.kind != 0)=false):wdE w k e=e∧wdK k e=k:=by unfold wdE wdK;rw[h];exact⟨rfl,rfl⟩
theorem Kg{w:Rw QO}{P:Prop}[Decidable P](h:P):(decide P&&QS [w.n=w.n,w.n=w.n,QC 1 w.n (fun i=>QA.enc (w.get i)) fun i=>QA.enc (w.get i)])=true:=by
 rw[qbA,qdE];exact⟨h,Q4.2 ⟨rfl,rfl,qRr,trivial⟩⟩
set_option maxHeartbeats 6400000 in
theorem QU3(q:QG)(k:Int)(hx:0≤x.turn∧x.turn<4)(hw:1≤w.n)(hk:0≤k∧k≤90000):Ji (fun s=>KT x w q (scS x.turn w q k s) (scK q k s) s) (fun s=>s≤4) (fun s=>4-s) (fun _ e J=>e = .exit 0∧J=QAo w (scS x.turn w q k 4) (scK q k 4)) 400 zB [272,273] (mkX Try.prog (VR QS w)) (fun _=>hnd (mkX Try.prog (VR QS w)) 3) (Qd Try.f30 0):=by
 refine⟨fun s g hs => ?_⟩;rcases(by have:=hs;omega:s=0∨s=1∨s=2∨s=3∨s=4)with rfl|rfl|rfl|rfl|rfl
 ·have hi:0≤toS x.turn 0∧toS x.turn 0<4:=QBB hx (by decide)
  have hK:=vS q k 0;refine Q0 (QTn QS x w q (scS x.turn w q k 0) (scK q k 0) g) ?_;refine QI (fun b0 => ?_) (fun b0 => ?_)
  ·have q2:=Hd (w:=w) (k:=scK q k 0) (e:=Ky q 0) b0;have q3:scK q k 1=_:=q2.2;refine QF (by first|exact Kg (by omega)|exact decide_eq_true hi|(simp;omega)) ?_
   refine QF (by first|exact Kg (by omega)|exact decide_eq_true hi|(simp;omega)) ?_
   refine QF (by first|exact Kg (by omega)|exact decide_eq_true hi|(simp;omega)) ?_
   refine QF (by first|exact Kg (by omega)|exact decide_eq_true hi|(simp;omega)) ?_
   refine QF (by first|exact Kg (by omega)|exact decide_eq_true hi|(simp;omega)) ?_
   refine QF (by first|exact Kg (by omega)|exact decide_eq_true hi|(simp;omega)) ?_
   refine QF (by first|exact Kg (by omega)|exact decide_eq_true hi|(simp;omega)) ?_
   refine QI (fun b1 => ?_) (fun b1 => ?_)
   ·have e:toS x.turn 0=(0:Nat):=qdt b1;refine⟨1,by decide,by decide,fun _ _ r=>r,rfl,rfl,_,QRv ..,?_⟩
    rw[Kz e,q2.1,q3]
    repeat' first|with_reducible refine QN ?_ ?_|exact trivial|with_reducible rfl|exact qlr _|exact qRr|refine And.intro ?_ ?_|rfl
   ·refine QI (fun b2 => ?_) (fun b2 => ?_)
    ·have e:toS x.turn 0=(1:Nat):=qdt b2;refine⟨1,by decide,by decide,fun _ _ r=>r,rfl,rfl,_,QXm ..,?_⟩
     rw[Kz e,q2.1,q3]
     repeat' first|with_reducible refine QN ?_ ?_|exact trivial|with_reducible rfl|exact qlr _|exact qRr|refine And.intro ?_ ?_|rfl
    ·refine QI (fun b3 => ?_) (fun b3 => ?_)
     ·have e:toS x.turn 0=(2:Nat):=qdt b3;refine⟨1,by decide,by decide,fun _ _ r=>r,rfl,rfl,_,QRo ..,?_⟩
      rw[Kz e,q2.1,q3]
      repeat' first|with_reducible refine QN ?_ ?_|exact trivial|with_reducible rfl|exact qlr _|exact qRr|refine And.intro ?_ ?_|rfl
     ·have e:toS x.turn 0=(3:Nat):=Wv hi (of_decide_eq_false b1) (of_decide_eq_false b2) (of_decide_eq_false b3);refine⟨1,by decide,by decide,fun _ _ r=>r,rfl,rfl,_,QZo ..,?_⟩
      rw[Kz e,q2.1,q3]
      repeat' first|with_reducible refine QN ?_ ?_|exact trivial|with_reducible rfl|exact qlr _|exact qRr|refine And.intro ?_ ?_|rfl
  ·have q2:=G8 (w:=w) (k:=scK q k 0) (e:=Ky q 0) b0;have q3:scK q k 1=_:=q2.2;refine QF (by first|exact Kg (by omega)|exact decide_eq_true hi|(simp;omega)) ?_
   refine QI (fun b4 => ?_) (fun b4 => ?_)
   ·have e:toS x.turn 0=(0:Nat):=qdt b4;refine⟨1,by decide,by decide,fun _ _ r=>r,rfl,rfl,_,QcD ..,?_⟩
    rw[Kz e,q2.1,q3]
    repeat' first|with_reducible refine QN ?_ ?_|exact trivial|with_reducible rfl|exact qlr _|exact qRr|refine And.intro ?_ ?_|rfl
   ·refine QI (fun b5 => ?_) (fun b5 => ?_)
    ·have e:toS x.turn 0=(1:Nat):=qdt b5;refine⟨1,by decide,by decide,fun _ _ r=>r,rfl,rfl,_,QW0 ..,?_⟩
     rw[Kz e,q2.1,q3]
     repeat' first|with_reducible refine QN ?_ ?_|exact trivial|with_reducible rfl|exact qlr _|exact qRr|refine And.intro ?_ ?_|rfl
    ·refine QI (fun b6 => ?_) (fun b6 => ?_)
     ·have e:toS x.turn 0=(2:Nat):=qdt b6;refine⟨1,by decide,by decide,fun _ _ r=>r,rfl,rfl,_,QaL ..,?_⟩
      rw[Kz e,q2.1,q3]
      repeat' first|with_reducible refine QN ?_ ?_|exact trivial|with_reducible rfl|exact qlr _|exact qRr|refine And.intro ?_ ?_|rfl
     ·have e:toS x.turn 0=(3:Nat):=Wv hi (of_decide_eq_false b4) (of_decide_eq_false b5) (of_decide_eq_false b6);refine⟨1,by decide,by decide,fun _ _ r=>r,rfl,rfl,_,QdB ..,?_⟩
      rw[Kz e,q2.1,q3]
      repeat' first|with_reducible refine QN ?_ ?_|exact trivial|with_reducible rfl|exact qlr _|exact qRr|refine And.intro ?_ ?_|rfl
 ·have hi:0≤toS x.turn 1∧toS x.turn 1<4:=QBB hx (by decide)
  have hK:=vS q k 1;refine Q0 (QZ3 QS x w q (scS x.turn w q k 1) (scK q k 1) g) ?_;refine QI (fun b0 => ?_) (fun b0 => ?_)
  ·have q2:=Hd (w:=w) (k:=scK q k 1) (e:=Ky q 1) b0;have q3:scK q k 2=_:=q2.2;refine QF (by first|exact Kg (by omega)|exact decide_eq_true hi|(simp;omega)) ?_
   refine QF (by first|exact Kg (by omega)|exact decide_eq_true hi|(simp;omega)) ?_
   refine QF (by first|exact Kg (by omega)|exact decide_eq_true hi|(simp;omega)) ?_
   refine QF (by first|exact Kg (by omega)|exact decide_eq_true hi|(simp;omega)) ?_
   refine QF (by first|exact Kg (by omega)|exact decide_eq_true hi|(simp;omega)) ?_
   refine QF (by first|exact Kg (by omega)|exact decide_eq_true hi|(simp;omega)) ?_
   refine QF (by first|exact Kg (by omega)|exact decide_eq_true hi|(simp;omega)) ?_
   refine QI (fun b1 => ?_) (fun b1 => ?_)
   ·have e:toS x.turn 1=(0:Nat):=qdt b1;refine⟨2,by decide,by decide,fun _ _ r=>r,rfl,rfl,_,QcC ..,?_⟩
    rw[Kz e,q2.1,q3]
    repeat' first|with_reducible refine QN ?_ ?_|exact trivial|with_reducible rfl|exact qlr _|exact qRr|refine And.intro ?_ ?_|rfl
   ·refine QI (fun b2 => ?_) (fun b2 => ?_)
    ·have e:toS x.turn 1=(1:Nat):=qdt b2;refine⟨2,by decide,by decide,fun _ _ r=>r,rfl,rfl,_,QaR ..,?_⟩
     rw[Kz e,q2.1,q3]
     repeat' first|with_reducible refine QN ?_ ?_|exact trivial|with_reducible rfl|exact qlr _|exact qRr|refine And.intro ?_ ?_|rfl
    ·refine QI (fun b3 => ?_) (fun b3 => ?_)
     ·have e:toS x.turn 1=(2:Nat):=qdt b3;refine⟨2,by decide,by decide,fun _ _ r=>r,rfl,rfl,_,QXg ..,?_⟩
      rw[Kz e,q2.1,q3]
      repeat' first|with_reducible refine QN ?_ ?_|exact trivial|with_reducible rfl|exact qlr _|exact qRr|refine And.intro ?_ ?_|rfl
     ·have e:toS x.turn 1=(3:Nat):=Wv hi (of_decide_eq_false b1) (of_decide_eq_false b2) (of_decide_eq_false b3);refine⟨2,by decide,by decide,fun _ _ r=>r,rfl,rfl,_,QZk ..,?_⟩
      rw[Kz e,q2.1,q3]
      repeat' first|with_reducible refine QN ?_ ?_|exact trivial|with_reducible rfl|exact qlr _|exact qRr|refine And.intro ?_ ?_|rfl
  ·have q2:=G8 (w:=w) (k:=scK q k 1) (e:=Ky q 1) b0;have q3:scK q k 2=_:=q2.2;refine QF (by first|exact Kg (by omega)|exact decide_eq_true hi|(simp;omega)) ?_
   refine QI (fun b4 => ?_) (fun b4 => ?_)
   ·have e:toS x.turn 1=(0:Nat):=qdt b4;refine⟨2,by decide,by decide,fun _ _ r=>r,rfl,rfl,_,QZ1 ..,?_⟩
    rw[Kz e,q2.1,q3]
    repeat' first|with_reducible refine QN ?_ ?_|exact trivial|with_reducible rfl|exact qlr _|exact qRr|refine And.intro ?_ ?_|rfl
   ·refine QI (fun b5 => ?_) (fun b5 => ?_)
    ·have e:toS x.turn 1=(1:Nat):=qdt b5;refine⟨2,by decide,by decide,fun _ _ r=>r,rfl,rfl,_,QYW ..,?_⟩
     rw[Kz e,q2.1,q3]
     repeat' first|with_reducible refine QN ?_ ?_|exact trivial|with_reducible rfl|exact qlr _|exact qRr|refine And.intro ?_ ?_|rfl
    ·refine QI (fun b6 => ?_) (fun b6 => ?_)
     ·have e:toS x.turn 1=(2:Nat):=qdt b6;refine⟨2,by decide,by decide,fun _ _ r=>r,rfl,rfl,_,Qb3 ..,?_⟩
      rw[Kz e,q2.1,q3]
      repeat' first|with_reducible refine QN ?_ ?_|exact trivial|with_reducible rfl|exact qlr _|exact qRr|refine And.intro ?_ ?_|rfl
     ·have e:toS x.turn 1=(3:Nat):=Wv hi (of_decide_eq_false b4) (of_decide_eq_false b5) (of_decide_eq_false b6);refine⟨2,by decide,by decide,fun _ _ r=>r,rfl,rfl,_,QYJ ..,?_⟩
      rw[Kz e,q2.1,q3]
      repeat' first|with_reducible refine QN ?_ ?_|exact trivial|with_reducible rfl|exact qlr _|exact qRr|refine And.intro ?_ ?_|rfl
 ·have hi:0≤toS x.turn 2∧toS x.turn 2<4:=QBB hx (by decide)
  have hK:=vS q k 2;refine Q0 (QTX QS x w q (scS x.turn w q k 2) (scK q k 2) g) ?_;refine QI (fun b0 => ?_) (fun b0 => ?_)
  ·have q2:=Hd (w:=w) (k:=scK q k 2) (e:=Ky q 2) b0;have q3:scK q k 3=_:=q2.2;refine QF (by first|exact Kg (by omega)|exact decide_eq_true hi|(simp;omega)) ?_
   refine QF (by first|exact Kg (by omega)|exact decide_eq_true hi|(simp;omega)) ?_
   refine QF (by first|exact Kg (by omega)|exact decide_eq_true hi|(simp;omega)) ?_
   refine QF (by first|exact Kg (by omega)|exact decide_eq_true hi|(simp;omega)) ?_
   refine QF (by first|exact Kg (by omega)|exact decide_eq_true hi|(simp;omega)) ?_
   refine QF (by first|exact Kg (by omega)|exact decide_eq_true hi|(simp;omega)) ?_
   refine QF (by first|exact Kg (by omega)|exact decide_eq_true hi|(simp;omega)) ?_
   refine QI (fun b1 => ?_) (fun b1 => ?_)
   ·have e:toS x.turn 2=(0:Nat):=qdt b1;refine⟨3,by decide,by decide,fun _ _ r=>r,rfl,rfl,_,Qaa ..,?_⟩
    rw[Kz e,q2.1,q3]
    repeat' first|with_reducible refine QN ?_ ?_|exact trivial|with_reducible rfl|exact qlr _|exact qRr|refine And.intro ?_ ?_|rfl
   ·refine QI (fun b2 => ?_) (fun b2 => ?_)
    ·have e:toS x.turn 2=(1:Nat):=qdt b2;refine⟨3,by decide,by decide,fun _ _ r=>r,rfl,rfl,_,QWn ..,?_⟩
     rw[Kz e,q2.1,q3]
     repeat' first|with_reducible refine QN ?_ ?_|exact trivial|with_reducible rfl|exact qlr _|exact qRr|refine And.intro ?_ ?_|rfl
    ·refine QI (fun b3 => ?_) (fun b3 => ?_)
     ·have e:toS x.turn 2=(2:Nat):=qdt b3;refine⟨3,by decide,by decide,fun _ _ r=>r,rfl,rfl,_,QcA ..,?_⟩
      rw[Kz e,q2.1,q3]
      repeat' first|with_reducible refine QN ?_ ?_|exact trivial|with_reducible rfl|exact qlr _|exact qRr|refine And.intro ?_ ?_|rfl
     ·have e:toS x.turn 2=(3:Nat):=Wv hi (of_decide_eq_false b1) (of_decide_eq_false b2) (of_decide_eq_false b3);refine⟨3,by decide,by decide,fun _ _ r=>r,rfl,rfl,_,QRc ..,?_⟩
      rw[Kz e,q2.1,q3]
      repeat' first|with_reducible refine QN ?_ ?_|exact trivial|with_reducible rfl|exact qlr _|exact qRr|refine And.intro ?_ ?_|rfl
  ·have q2:=G8 (w:=w) (k:=scK q k 2) (e:=Ky q 2) b0;have q3:scK q k 3=_:=q2.2;refine QF (by first|exact Kg (by omega)|exact decide_eq_true hi|(simp;omega)) ?_
   refine QI (fun b4 => ?_) (fun b4 => ?_)
   ·have e:toS x.turn 2=(0:Nat):=qdt b4;refine⟨3,by decide,by decide,fun _ _ r=>r,rfl,rfl,_,QVc ..,?_⟩
    rw[Kz e,q2.1,q3]
    repeat' first|with_reducible refine QN ?_ ?_|exact trivial|with_reducible rfl|exact qlr _|exact qRr|refine And.intro ?_ ?_|rfl
   ·refine QI (fun b5 => ?_) (fun b5 => ?_)
    ·have e:toS x.turn 2=(1:Nat):=qdt b5;refine⟨3,by decide,by decide,fun _ _ r=>r,rfl,rfl,_,QSq ..,?_⟩
     rw[Kz e,q2.1,q3]
     repeat' first|with_reducible refine QN ?_ ?_|exact trivial|with_reducible rfl|exact qlr _|exact qRr|refine And.intro ?_ ?_|rfl
    ·refine QI (fun b6 => ?_) (fun b6 => ?_)
     ·have e:toS x.turn 2=(2:Nat):=qdt b6;refine⟨3,by decide,by decide,fun _ _ r=>r,rfl,rfl,_,QXa ..,?_⟩
      rw[Kz e,q2.1,q3]
      repeat' first|with_reducible refine QN ?_ ?_|exact trivial|with_reducible rfl|exact qlr _|exact qRr|refine And.intro ?_ ?_|rfl
     ·have e:toS x.turn 2=(3:Nat):=Wv hi (of_decide_eq_false b4) (of_decide_eq_false b5) (of_decide_eq_false b6);refine⟨3,by decide,by decide,fun _ _ r=>r,rfl,rfl,_,QR9 ..,?_⟩
      rw[Kz e,q2.1,q3]
      repeat' first|with_reducible refine QN ?_ ?_|exact trivial|with_reducible rfl|exact qlr _|exact qRr|refine And.intro ?_ ?_|rfl
 ·have hi:0≤toS x.turn 3∧toS x.turn 3<4:=QBB hx (by decide)
  have hK:=vS q k 3;refine Q0 (QWK QS x w q (scS x.turn w q k 3) (scK q k 3) g) ?_;refine QI (fun b0 => ?_) (fun b0 => ?_)
  ·have q2:=Hd (w:=w) (k:=scK q k 3) (e:=Ky q 3) b0;have q3:scK q k 4=_:=q2.2;refine QF (by first|exact Kg (by omega)|exact decide_eq_true hi|(simp;omega)) ?_
   refine QF (by first|exact Kg (by omega)|exact decide_eq_true hi|(simp;omega)) ?_
   refine QF (by first|exact Kg (by omega)|exact decide_eq_true hi|(simp;omega)) ?_
   refine QF (by first|exact Kg (by omega)|exact decide_eq_true hi|(simp;omega)) ?_
   refine QF (by first|exact Kg (by omega)|exact decide_eq_true hi|(simp;omega)) ?_
   refine QF (by first|exact Kg (by omega)|exact decide_eq_true hi|(simp;omega)) ?_
   refine QF (by first|exact Kg (by omega)|exact decide_eq_true hi|(simp;omega)) ?_
   refine QI (fun b1 => ?_) (fun b1 => ?_)
   ·have e:toS x.turn 3=(0:Nat):=qdt b1;refine⟨4,by decide,by decide,fun _ _ r=>r,rfl,rfl,_,QRn ..,?_⟩
    rw[Kz e,q2.1,q3]
    repeat' first|with_reducible refine QN ?_ ?_|exact trivial|with_reducible rfl|exact qlr _|exact qRr|refine And.intro ?_ ?_|rfl
   ·refine QI (fun b2 => ?_) (fun b2 => ?_)
    ·have e:toS x.turn 3=(1:Nat):=qdt b2;refine⟨4,by decide,by decide,fun _ _ r=>r,rfl,rfl,_,QYY ..,?_⟩
     rw[Kz e,q2.1,q3]
     repeat' first|with_reducible refine QN ?_ ?_|exact trivial|with_reducible rfl|exact qlr _|exact qRr|refine And.intro ?_ ?_|rfl
    ·refine QI (fun b3 => ?_) (fun b3 => ?_)
     ·have e:toS x.turn 3=(2:Nat):=qdt b3;refine⟨4,by decide,by decide,fun _ _ r=>r,rfl,rfl,_,QcH ..,?_⟩
      rw[Kz e,q2.1,q3]
      repeat' first|with_reducible refine QN ?_ ?_|exact trivial|with_reducible rfl|exact qlr _|exact qRr|refine And.intro ?_ ?_|rfl
     ·have e:toS x.turn 3=(3:Nat):=Wv hi (of_decide_eq_false b1) (of_decide_eq_false b2) (of_decide_eq_false b3);refine⟨4,by decide,by decide,fun _ _ r=>r,rfl,rfl,_,QYO ..,?_⟩
      rw[Kz e,q2.1,q3]
      repeat' first|with_reducible refine QN ?_ ?_|exact trivial|with_reducible rfl|exact qlr _|exact qRr|refine And.intro ?_ ?_|rfl
  ·have q2:=G8 (w:=w) (k:=scK q k 3) (e:=Ky q 3) b0;have q3:scK q k 4=_:=q2.2;refine QF (by first|exact Kg (by omega)|exact decide_eq_true hi|(simp;omega)) ?_
   refine QI (fun b4 => ?_) (fun b4 => ?_)
   ·have e:toS x.turn 3=(0:Nat):=qdt b4;refine⟨4,by decide,by decide,fun _ _ r=>r,rfl,rfl,_,QWA ..,?_⟩
    rw[Kz e,q2.1,q3]
    repeat' first|with_reducible refine QN ?_ ?_|exact trivial|with_reducible rfl|exact qlr _|exact qRr|refine And.intro ?_ ?_|rfl
   ·refine QI (fun b5 => ?_) (fun b5 => ?_)
    ·have e:toS x.turn 3=(1:Nat):=qdt b5;refine⟨4,by decide,by decide,fun _ _ r=>r,rfl,rfl,_,QYe ..,?_⟩
     rw[Kz e,q2.1,q3]
     repeat' first|with_reducible refine QN ?_ ?_|exact trivial|with_reducible rfl|exact qlr _|exact qRr|refine And.intro ?_ ?_|rfl
    ·refine QI (fun b6 => ?_) (fun b6 => ?_)
     ·have e:toS x.turn 3=(2:Nat):=qdt b6;refine⟨4,by decide,by decide,fun _ _ r=>r,rfl,rfl,_,QWV ..,?_⟩
      rw[Kz e,q2.1,q3]
      repeat' first|with_reducible refine QN ?_ ?_|exact trivial|with_reducible rfl|exact qlr _|exact qRr|refine And.intro ?_ ?_|rfl
     ·have e:toS x.turn 3=(3:Nat):=Wv hi (of_decide_eq_false b4) (of_decide_eq_false b5) (of_decide_eq_false b6);refine⟨4,by decide,by decide,fun _ _ r=>r,rfl,rfl,_,QV9 ..,?_⟩
      rw[Kz e,q2.1,q3]
      repeat' first|with_reducible refine QN ?_ ?_|exact trivial|with_reducible rfl|exact qlr _|exact qRr|refine And.intro ?_ ?_|rfl
 ·refine Q0 (QWT QS x w q (scS x.turn w q k 4) (scK q k 4) g) ?_;refine⟨_,⟨rfl,rfl⟩,rfl,rfl,_,QRh ..,?_⟩
  repeat' first|with_reducible refine QN ?_ ?_|exact trivial|with_reducible rfl|exact qlr _|exact qRr|refine And.intro ?_ ?_
end Go.Proofs.Ytbpffdkemeoajaa
