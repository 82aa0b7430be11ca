/- - -/
import Derived.Test.YtbpffdkemeoajaaMazo
open Go.IntKind (i64)
set_option maxRecDepth 100000
namespace Go.Proofs.Ytbpffdkemeoajaa
open Go Go.SX
noncomputable abbrev QPT(q:QG):List AV:=
  ((Enc.enc (q:QG)).cells)
abbrev vY:List CK:=
  [.int .i64,.int .i64,.int .i64,.int .i64,.int .i64,.int .i64,.int .i64,.int .i64,.int .i64,.int .i64,.int .i64,.int .i64,.int .i64,.int .i64,.int .i64,.int .i64,.int
  .i64,.int .i64,.int .i64,.int .i64,.int .i64,.int .i64,.int .i64,.int .i64,.int .i64,.int .i64,.int .i64,.int .i64]
abbrev WI(H:Nat→Jn)(M2:Made)(X:QE)(d:Puz)(fo:Int)(h:Nat):List Prop:=
  [(decide (d.ps.n≤d.ps.n)&&(decide (M2.m≤M2.m)&&(decide (h≤h)&&true)))=true,AtX [.agg [vi d.play.length,vi d.play.slack,.int false .i64
  d.play.loose,vi d.play.damp.lo,vi d.play.damp.hi,vi d.wide,vi d.high,.bool false d.turn,.slz 0 0 d.ps.n cO,.slz
  408 0 M2.m cO,.slz 416 0 h cO,vi M2.lost,vi fo]] [(0,.frz vY d.ps.n fun i=>QA.enc (d.ps.get i)),(408,.rowz false 33 vY M2.m
  fun i=>QA.enc (M2.P i)),(416,.rowz false 70 [.int .i64,.int .i64,.int .i64,.int .i64] h fun i=>QA.enc (H i))] X,decide (X.d.ps.n≤1000∧X.scans.n≤1000∧X.hang.n ≤
  1000)=true]
abbrev QDI(M1:Made)(X:QE)(d:Puz)(fo:Int)(q:QG):List Prop:=
  [(decide (d.ps.n≤d.ps.n)&&(decide (M1.m+1≤M1.m+1)&&(true&&true)))=true,AtX [.agg [vi d.play.length,vi d.play.slack,.int false .i64
  d.play.loose,vi d.play.damp.lo,vi d.play.damp.hi,vi d.wide,vi d.high,.bool false d.turn,.slz 0 0 d.ps.n cO,.slz
  588 0 (M1.m+1) cO,.nils,vi M1.lost,vi fo]] [(0,.frz vY d.ps.n fun i=>QA.enc (d.ps.get i)),(588,.rowz false 33 vY (M1.m+1) (QY
  M1.m (fun i=>QA.enc (M1.P i)) (QR [(QPT q)] 0)))] X,decide (X.d.ps.n≤1000∧X.scans.n≤1000∧X.hang.n≤1000)=true]
abbrev QCl(M1:Made)(X:QE)(d:Puz)(fo:Int):List Prop:=
  [(decide (d.ps.n≤d.ps.n)&&(decide (M1.m≤M1.m)&&(true&&true)))=true,AtX [.agg [vi d.play.length,vi d.play.slack,vi d.play.loose,
  .int false .i64 d.play.damp.lo,vi d.play.damp.hi,vi d.wide,vi d.high,.bool false d.turn,.slz 0 0 d.ps.n cO,.slz 408 0 M1.m
  cO,.nils,vi M1.lost,vi fo]] [(0,.frz vY d.ps.n fun i=>QA.enc (d.ps.get i)),(408,.rowz false 33 vY M1.m fun i=>QA.enc (M1.P i))]
  X,decide (X.d.ps.n≤1000∧X.scans.n≤1000∧X.hang.n≤1000)=true]
theorem QY8(pb:List Prop→Bool)(d:Puz)(q:QG)(w:Rw QO)(fo:Int)(M1 M2:Made)(h:Nat)(H:Nat→Jn)(X:QE)(S:List QB):(Kc (mkS Try.prog (zp Try.prog pb d w X)) (tqW Try.prog pb d q w fo M1 M2 h H X S) Try.f5 (QX.vals 0 (d,q,w,())) (QX.blks 0 (d,q,w,())) 8) = .need (!decide
  ((d.ps.n:Int)≤14)||decide (d.ps.n≤d.ps.n)&&true&&decide (d.ps.n≤1000)&&decide ((d.ps.n:Int)≤14)) (.need (!decide ((d.ps.n:Int)≤14)||decide ((d.ps.n:Int)
  ≤ 14)) (.bnd (decide ((d.ps.n:Int)≤14)&&d.ok) (fun(x0:Bool) => .need (!!!x0 || !!x0) (.need (!!!x0 || !!x0) (.need (!!!x0 || !!x0) (.need (!x0 || !!x0) (.bnd (!x0||decide
  ((d.ps.n:Int)>4)) (fun(x1:Bool) => .need (!!x1 || !x1) (.need (!!x1 || !x1) (.need (x1 || !x1) (.bnd (x1||(w.n:Int)==0) (fun(x2:Bool) => .need (!!x2||true && !x2)
  (.need (!!x2 || !x2) (.need (x2 || !x2) (.bnd (x2 || !q.ok) (fun(x3:Bool) => .br (x3) (.leaf (.bool true true) ([])) (.need (decide (1≤w.n∧(0:Int)≤0∧(0:Int)≤100000
  ∧ (0:Int)<2)&&pb [(d,q,w,()).snd.snd.fst.n=w.n,(d,q,w,()).snd.snd.fst.n=w.n,QC 1 w.n (fun i=>QA.enc ((d,q,w,()).snd.snd.fst.get i)) fun i=>QA.enc
  (w.get i)]) (.ask (d.ok=true∧1≤w.n) (.ask (0=0) (.ask (0=0) (.ask (0=0) (.ask (0=0) (.ask (Fn.func 58=Fn.func (58:FuncId)) (.ask (0=0) (.ask (0=0) (.ask (0 =
  0) (.ask (0=0) (.ask (0=0) (.ask (0=0) (.ask (0=0) (.ask ((0:Int)=0) (.ask ((d.ps.n:Int)=(d.ps.n:Int)) (.ask ((0:Int)=0) (.ask (d.play.length=d.play.length)
  (.ask (d.play.slack=d.play.slack) (.ask (d.play.loose=d.play.loose) (.ask (d.play.damp.lo=d.play.damp.lo) (.ask (d.play.damp.hi=d.play.damp.hi) (.ask (d.wide=d.wide) (.ask
  (d.high=d.high) (.ask (d.turn=d.turn) (.ask (0=0) (.ask (d.ps.n=d.ps.n) (.ask (cO=cO) (.ask (q.up.kind=q.up.kind) (.ask (q.up.at_.lo=q.up.at_.lo) (.ask
  (q.up.at_.hi=q.up.at_.hi) (.ask (q.up.wide.lo=q.up.wide.lo) (.ask (q.up.wide.hi=q.up.wide.hi) (.ask (q.up.deep.lo=q.up.deep.lo) (.ask (q.up.deep.hi=q.up.deep.hi) (.ask
  (q.right.kind=q.right.kind) (.ask (q.right.at_.lo=q.right.at_.lo) (.ask (q.right.at_.hi=q.right.at_.hi) (.ask (q.right.wide.lo=q.right.wide.lo) (.ask (q.right.wide.hi =
  q.right.wide.hi) (.ask (q.right.deep.lo=q.right.deep.lo) (.ask (q.right.deep.hi=q.right.deep.hi) (.ask (q.down.kind=q.down.kind) (.ask (q.down.at_.lo=q.down.at_.lo) (.ask
  (q.down.at_.hi=q.down.at_.hi) (.ask (q.down.wide.lo=q.down.wide.lo) (.ask (q.down.wide.hi=q.down.wide.hi) (.ask (q.down.deep.lo=q.down.deep.lo) (.ask (q.down.deep.hi =
  q.down.deep.hi) (.ask (q.left.kind=q.left.kind) (.ask (q.left.at_.lo=q.left.at_.lo) (.ask (q.left.at_.hi=q.left.at_.hi) (.ask (q.left.wide.lo=q.left.wide.lo) (.ask
  (q.left.wide.hi=q.left.wide.hi) (.ask (q.left.deep.lo=q.left.deep.lo) (.ask (q.left.deep.hi=q.left.deep.hi) (.ask (d.play.length=d.play.length) (.ask (d.play.slack =
  d.play.slack) (.ask (d.play.loose=d.play.loose) (.ask (d.play.damp.lo=d.play.damp.lo) (.ask (d.play.damp.hi=d.play.damp.hi) (.ask (d.wide=d.wide) (.ask (d.high=d.high)
  (.ask (d.turn=d.turn) (.ask (0=0) (.ask (d.ps.n=d.ps.n) (.ask (cO=cO) (.ask (0=0) (.ask ((0:Int)=0) (.ask (dv w (0:Int) (2:Int)=fo) (.ask (([]:List
  MapEntry)=[]) (.ask (qD (.int true .i64 0) zeM.has fun i => .int false .i64 (zeM.at_ i)) (.ask (0=0) (.ask (0=0) (.ask ((1:Int)=1) (.ask (0=0) (.ask (w.n=w.n)
  (.ask (cO=cO) (.ask (w.n≤w.n) (.ask (QC 1 w.n (fun i=>QA.enc (w.get i)) fun i=>QA.enc (w.get i)) (.ask (d.ps.n≤d.ps.n) (.ask (QC 28 d.ps.n (fun i
  => QA.enc (d.ps.get i)) fun i=>QA.enc (d.ps.get i)) (.asm (True) (.all (fun(g4:Nat→Value) => .br (decide (fo>0)) (.need (decide (M1.m≤M1.m)&&(true&&decide ((M1.m
  + 1+(M1.m+1) / 4+192)*16≤281474976710656∧M1.m+1≤9223372036854775807))) (.need (decide (M1.m≤M1.m)&&(true&&decide ((M1.m+1+(M1.m+1) / 4+192)*224 ≤
  281474976710656∧M1.m+1≤9223372036854775807))) (.need (decide (1≤w.n∧(0:Int)≤M1.k∧M1.k≤100000∧(0:Int)<2)&&pb [w.n=w.n,w.n=w.n,QC 1 w.n (fun i=>
  QA.enc (w.get i)) fun i=>QA.enc (w.get i)]) (.br (dv w M1.k (2:Int)==0) (.ask (d.ok=true) (.ask (0=0) (.ask (0=0) (.ask (0=0) (.ask (0=0) (.ask (0=0) (.ask
  (M1.m+1=M2.m) (.ask (cO=cO) (.ask (M1.gone=M2.gone) (.ask (0=0) (.ask (M1.m+1=M2.m) (.ask (cO=cO) (.ask ((↑(M1.m+1):Int)=(M2.m:Int))
  (.ask ((0:Int)=0) (.ask (d.play.length=d.play.length) (.ask (d.play.slack=d.play.slack) (.ask (d.play.loose=d.play.loose) (.ask (d.play.damp.lo=d.play.damp.lo) (.ask
  (d.play.damp.hi=d.play.damp.hi) (.ask (d.wide=d.wide) (.ask (d.high=d.high) (.ask (d.turn=d.turn) (.ask (0=0) (.ask (d.ps.n=d.ps.n) (.ask (cO=cO) (.ask
  (d.play.length=d.play.length) (.ask (d.play.slack=d.play.slack) (.ask (d.play.loose=d.play.loose) (.ask (d.play.damp.lo=d.play.damp.lo) (.ask (d.play.damp.hi =
  d.play.damp.hi) (.ask (d.wide=d.wide) (.ask (d.high=d.high) (.ask (d.turn=d.turn) (.ask (0=0) (.ask (d.ps.n=d.ps.n) (.ask (cO=cO) (.ask (0=0) (.ask (M1.m +
  1=M2.m) (.ask (cO=cO) (.ask (0=0) (.ask (M1.lost=M2.lost) (.ask (fo=fo) (.ask (KA (.int true .i64 0) (.int true .i64 0) M1.has M2.has (fun i => .int false
  .i64 (M1.at_ i)) fun i => .int false .i64 (M2.at_ i)) (.ask (M2.m≤M1.m+1) (.ask (QC 2 M2.m (QY M1.m (fun i=>QA.enc (M1.S i)) (QR [[vj (-2),.int true
  .i64 0]] 0)) fun i=>QA.enc (M2.S i)) (.ask (M2.m≤M1.m+1) (.ask (QC 28 M2.m (QY M1.m (fun i=>QA.enc (M1.P i)) (QR [(QPT q)] 0)) fun i=>QA.enc (M2.P i))
  (.ask (0=0) (.ask (d.ps.n≤d.ps.n) (.ask (QC 28 d.ps.n (fun i=>QA.enc (d.ps.get i)) fun i=>QA.enc (d.ps.get i)) (.asm (True) (.all (fun(g5:Nat→Value) => .need
  (pb ((WI H M2 X d fo h))) (.need (pb ((WI H M2 X d fo h))) (.need (pb ((WI H M2 X d fo h))) (.need (pb ((WI H M2 X d fo h))) (.need (!!(Qa X).2.2 != 0 || !(Qa
  X).2.2 != 0) (.need ((Qa X).2.2 != 0 || !(Qa X).2.2 != 0) (.bnd ((Qa X).2.2 != 0||(Qu X).2 != 0) (fun(x6:Bool) => .need (!!x6 || !x6) (.need (x6 || !x6) (.bnd
  (x6||(miV X).2.2 != 0) (fun(x7:Bool) => .need (!!x7 || !x7) (.need (x7 || !x7) (.bnd (x7||(JJ X).2.2.2 != 0) (fun(x8:Bool) => .need (!!x8 || !x8) (.need (x8 || !x8)
  (.bnd (x8||decide ((JJ X).2.2.1<1)) (fun(x9:Bool) => .need (!!x9 || !x9) (.need (!!x9 || !x9) (.need (!!x9 || !x9 && !x9) (.need (x9 || !x9) (.bnd (x9||(↑(Qa
  X).1.length:Int) != (M2.m:Int)) (fun(x10:Bool) => .need (!!x10 || !x10) (.need (!!x10 || !x10) (.need (!!x10 || !x10 && !x10) (.need (x10 || !x10) (.bnd (x10||(↑(Qu
  X).1.length:Int) != (M2.m:Int)) (fun(x11:Bool) => .need (!!x11 || !x11 && !x11) (.need (!!x11 || !x11) (.need (x11 || !x11) (.bnd (x11||i64.wrap (↑(BitVec.ofInt 64
  (miV X).1 &&& ~~~BitVec.ofInt 64 M2.gone).toNat:Int) != 0) (fun(x12:Bool) => .need (!!x12 || !x12 && !x12) (.need (!!x12 || !x12) (.need (x12 || !x12) (.bnd (x12 ||
  i64.wrap (↑(BitVec.ofInt 64 M2.gone &&& ~~~BitVec.ofInt 64 (miV X).2.1).toNat:Int) != 0) (fun(x13:Bool) => .br (x13) (.leaf (.bool true false) ([])) (.ask (Z5 S
  (Qa X).1 (Qa X).2.1 (Qu X).1) (.ask (0=0) (.ask ((Qa X).1.length=(Qa X).1.length) (.ask (cO=cO) (.ask ((Qa X).2.1=(Qa X).2.1)
  (.ask (0=0) (.ask ((Qu X).1.length=(Qu X).1.length) (.ask (cO=cO) (.ask (0=0) (.ask (M2.m=S.length) (.ask (cO=cO) (.ask ((M2.m:Int) =
  (S.length:Int)) (.ask ((0:Int)=0) (.ask (S.length≤M2.m) (.ask (QC 2 S.length (fun i=>QA.enc (M2.S i)) fun i=>QA.enc (S.getD i ⟨0,0⟩)) (.ask ((Qa
  X).1.length≤(Qa X).1.length) (.ask (QC 1 (Qa X).1.length (fun i=>QA.enc ((Qa X).1.getD i 0)) fun i=>QA.enc ((Qa X).1.getD i 0)) (.ask ((Qu
  X).1.length≤(Qu X).1.length) (.ask (QC 2 (Qu X).1.length (fun i=>QA.enc ((Qu X).1.getD i ⟨0,0⟩)) fun i=>QA.enc ((Qu X).1.getD i ⟨0,0⟩)) (.asm (True)
  (.all (fun(g14:Nat→Value) => .leaf (.bool true true) ([])))))))))))))))))))))))))))))))))))))))))))))))))))))))))))))))))))))))))))))))))))))))))))))))))))))))))))))) (.need
  (pb ((QDI M1 X d fo q))) (.need (pb ((QDI M1 X d fo q))) (.need (pb ((QDI M1 X d fo q))) (.need (pb ((QDI M1 X d fo q))) (.need (!!(Qa X).2.2 != 0 || !(Qa X).2.2 != 0)
  (.need ((Qa X).2.2 != 0 || !(Qa X).2.2 != 0) (.bnd ((Qa X).2.2 != 0||(Qu X).2 != 0) (fun(x15:Bool) => .need (!!x15 || !x15) (.need (x15 || !x15) (.bnd (x15 ||
  (miV X).2.2 != 0) (fun(x16:Bool) => .need (!!x16 || !x16) (.need (x16 || !x16) (.bnd (x16||(JJ X).2.2.2 != 0) (fun(x17:Bool) => .need (!!x17 || !x17) (.need (x17 || !x17)
  (.bnd (x17||decide ((JJ X).2.2.1<1)) (fun(x18:Bool) => .need (!!x18 || !x18) (.need (!!x18 || !x18) (.need (!!x18 || !x18 && !x18) (.need (x18 || !x18) (.bnd (x18 ||
  (↑(Qa X).1.length:Int) != (↑(M1.m+1):Int)) (fun(x19:Bool) => .need (!!x19 || !x19) (.need (!!x19 || !x19) (.need (!!x19 || !x19 && !x19) (.need (x19 || !x19) (.bnd
  (x19||(↑(Qu X).1.length:Int) != (↑(M1.m+1):Int)) (fun(x20:Bool) => .need (!!x20 || !x20 && !x20) (.need (!!x20 || !x20) (.need (x20 || !x20) (.bnd (x20 ||
  i64.wrap (↑(BitVec.ofInt 64 (miV X).1 &&& ~~~BitVec.ofInt 64 M1.gone).toNat:Int) != 0) (fun(x21:Bool) => .need (!!x21 || !x21 && !x21) (.need (!!x21 || !x21) (.need
  (x21 || !x21) (.bnd (x21||i64.wrap (↑(BitVec.ofInt 64 M1.gone &&& ~~~BitVec.ofInt 64 (miV X).2.1).toNat:Int) != 0) (fun(x22:Bool) => .br (x22) (.leaf (.bool true
  false) ([])) (.ask (Z5 S (Qa X).1 (Qa X).2.1 (Qu X).1) (.ask (0=0) (.ask ((Qa X).1.length=(Qa X).1.length) (.ask (cO=cO) (.ask ((Qa
  X).2.1=(Qa X).2.1) (.ask (0=0) (.ask ((Qu X).1.length=(Qu X).1.length) (.ask (cO=cO) (.ask (0=0) (.ask (M1.m+1=S.length) (.ask (cO =
  cO) (.ask ((↑(M1.m+1):Int)=(S.length:Int)) (.ask ((0:Int)=0) (.ask (S.length≤M1.m+1) (.ask (QC 2 S.length (QY M1.m (fun i=>QA.enc (M1.S i)) (QR
  [[vj (-2),vj 0]] 0)) fun i=>QA.enc (S.getD i ⟨0,0⟩)) (.ask ((Qa X).1.length≤(Qa X).1.length) (.ask (QC 1 (Qa X).1.length (fun i=>
  QA.enc ((Qa X).1.getD i 0)) fun i=>QA.enc ((Qa X).1.getD i 0)) (.ask ((Qu X).1.length≤(Qu X).1.length) (.ask (QC 2 (Qu X).1.length (fun i=>QA.enc
  ((Qu X).1.getD i ⟨0,0⟩)) fun i=>QA.enc ((Qu X).1.getD i ⟨0,0⟩)) (.asm (True) (.all (fun(g23:Nat→Value) => .leaf (.bool true true)
  ([])))))))))))))))))))))))))))))))))))))))))))))))))))))))))))))) (.need (decide (1≤w.n∧(0:Int)≤M1.k∧M1.k≤100000∧(0:Int)<2)&&pb [w.n=w.n,w.n=w.n,QC 1
  w.n (fun i=>QA.enc (w.get i)) fun i=>QA.enc (w.get i)]) (.br (dv w M1.k (2:Int)==0) (.ask (d.ok=true) (.ask (0=0) (.ask (0=0) (.ask (0=0) (.ask (0=0) (.ask (0
  = 0) (.ask (M1.m=M2.m) (.ask (cO=cO) (.ask (M1.gone=M2.gone) (.ask (0=0) (.ask (M1.m=M2.m) (.ask (cO=cO) (.ask ((M1.m:Int)=(M2.m:Int))
  (.ask ((0:Int)=0) (.ask (d.play.length=d.play.length) (.ask (d.play.slack=d.play.slack) (.ask (d.play.loose=d.play.loose) (.ask (d.play.damp.lo=d.play.damp.lo) (.ask
  (d.play.damp.hi=d.play.damp.hi) (.ask (d.wide=d.wide) (.ask (d.high=d.high) (.ask (d.turn=d.turn) (.ask (0=0) (.ask (d.ps.n=d.ps.n) (.ask (cO=cO) (.ask
  (d.play.length=d.play.length) (.ask (d.play.slack=d.play.slack) (.ask (d.play.loose=d.play.loose) (.ask (d.play.damp.lo=d.play.damp.lo) (.ask (d.play.damp.hi =
  d.play.damp.hi) (.ask (d.wide=d.wide) (.ask (d.high=d.high) (.ask (d.turn=d.turn) (.ask (0=0) (.ask (d.ps.n=d.ps.n) (.ask (cO=cO) (.ask (0=0) (.ask (M1.m =
  M2.m) (.ask (cO=cO) (.ask (0=0) (.ask (M1.lost=M2.lost) (.ask (fo=fo) (.ask (KA (.int true .i64 0) (.int true .i64 0) M1.has M2.has (fun i => .int false .i64
  (M1.at_ i)) fun i => .int false .i64 (M2.at_ i)) (.ask (M2.m≤M1.m) (.ask (QC 2 M2.m (fun i=>QA.enc (M1.S i)) fun i=>QA.enc (M2.S i)) (.ask (M2.m≤M1.m) (.ask (QC
  28 M2.m (fun i=>QA.enc (M1.P i)) fun i=>QA.enc (M2.P i)) (.ask (0=0) (.ask (d.ps.n≤d.ps.n) (.ask (QC 28 d.ps.n (fun i=>QA.enc (d.ps.get i)) fun i=>QA.enc
  (d.ps.get i)) (.asm (True) (.all (fun(g24:Nat→Value) => .need (pb ((WI H M2 X d fo h))) (.need (pb ((WI H M2 X d fo h))) (.need (pb ((WI H M2 X d fo h))) (.need (pb
  ((WI H M2 X d fo h))) (.need (!!(Qa X).2.2 != 0 || !(Qa X).2.2 != 0) (.need ((Qa X).2.2 != 0 || !(Qa X).2.2 != 0) (.bnd ((Qa X).2.2 != 0||(Qu X).2 !=
  0) (fun(x25:Bool) => .need (!!x25 || !x25) (.need (x25 || !x25) (.bnd (x25||(miV X).2.2 != 0) (fun(x26:Bool) => .need (!!x26 || !x26) (.need (x26 || !x26) (.bnd (x26 ||
  (JJ X).2.2.2 != 0) (fun(x27:Bool) => .need (!!x27 || !x27) (.need (x27 || !x27) (.bnd (x27||decide ((JJ X).2.2.1<1)) (fun(x28:Bool) => .need (!!x28 || !x28) (.need
  (!!x28 || !x28) (.need (!!x28 || !x28 && !x28) (.need (x28 || !x28) (.bnd (x28||(↑(Qa X).1.length:Int) != (M2.m:Int)) (fun(x29:Bool) => .need (!!x29 || !x29) (.need
  (!!x29 || !x29) (.need (!!x29 || !x29 && !x29) (.need (x29 || !x29) (.bnd (x29||(↑(Qu X).1.length:Int) != (M2.m:Int)) (fun(x30:Bool) => .need (!!x30 || !x30 && !x30)
  (.need (!!x30 || !x30) (.need (x30 || !x30) (.bnd (x30||i64.wrap (↑(BitVec.ofInt 64 (miV X).1 &&& ~~~BitVec.ofInt 64 M2.gone).toNat:Int) != 0) (fun(x31:Bool) => .need
  (!!x31 || !x31 && !x31) (.need (!!x31 || !x31) (.need (x31 || !x31) (.bnd (x31||i64.wrap (↑(BitVec.ofInt 64 M2.gone &&& ~~~BitVec.ofInt 64 (miV X).2.1).toNat:Int) != 0)
  (fun(x32:Bool) => .br (x32) (.leaf (.bool true false) ([])) (.ask (Z5 S (Qa X).1 (Qa X).2.1 (Qu X).1) (.ask (0=0) (.ask ((Qa X).1.length=(Qa
  X).1.length) (.ask (cO=cO) (.ask ((Qa X).2.1=(Qa X).2.1) (.ask (0=0) (.ask ((Qu X).1.length=(Qu X).1.length) (.ask (cO=cO) (.ask (0
  = 0) (.ask (M2.m=S.length) (.ask (cO=cO) (.ask ((M2.m:Int)=(S.length:Int)) (.ask ((0:Int)=0) (.ask (S.length≤M2.m) (.ask (QC 2 S.length (fun i=>
  QA.enc (M2.S i)) fun i=>QA.enc (S.getD i ⟨0,0⟩)) (.ask ((Qa X).1.length≤(Qa X).1.length) (.ask (QC 1 (Qa X).1.length (fun i=>QA.enc ((Qa
  X).1.getD i 0)) fun i=>QA.enc ((Qa X).1.getD i 0)) (.ask ((Qu X).1.length≤(Qu X).1.length) (.ask (QC 2 (Qu X).1.length (fun i=>QA.enc ((Qu X).1.getD i
  ⟨0,0⟩)) fun i=>QA.enc ((Qu X).1.getD i ⟨0,0⟩)) (.asm (True) (.all (fun(g33:Nat→Value) => .leaf (.bool true true)
  ([])))))))))))))))))))))))))))))))))))))))))))))))))))))))))))))))))))))))))))))))))))))))))))))))))))))))))))))) (.need (pb ((QCl M1 X d fo))) (.need (pb ((QCl M1 X d fo)))
  (.need (pb ((QCl M1 X d fo))) (.need (pb ((QCl M1 X d fo))) (.need (!!(Qa X).2.2 != 0 || !(Qa X).2.2 != 0) (.need ((Qa X).2.2 != 0 || !(Qa X).2.2 != 0) (.bnd
  ((Qa X).2.2 != 0||(Qu X).2 != 0) (fun(x34:Bool) => .need (!!x34 || !x34) (.need (x34 || !x34) (.bnd (x34||(miV X).2.2 != 0) (fun(x35:Bool) => .need (!!x35 || !x35)
  (.need (x35 || !x35) (.bnd (x35||(JJ X).2.2.2 != 0) (fun(x36:Bool) => .need (!!x36 || !x36) (.need (x36 || !x36) (.bnd (x36||decide ((JJ X).2.2.1<1)) (fun(x37:Bool)
  => .need (!!x37 || !x37) (.need (!!x37 || !x37) (.need (!!x37 || !x37 && !x37) (.need (x37 || !x37) (.bnd (x37||(↑(Qa X).1.length:Int) != (M1.m:Int)) (fun(x38:Bool)=>
  .need (!!x38 || !x38) (.need (!!x38 || !x38) (.need (!!x38 || !x38 && !x38) (.need (x38 || !x38) (.bnd (x38||(↑(Qu X).1.length:Int) != (M1.m:Int)) (fun(x39:Bool)=>
  .need (!!x39 || !x39 && !x39) (.need (!!x39 || !x39) (.need (x39 || !x39) (.bnd (x39||i64.wrap (↑(BitVec.ofInt 64 (miV X).1 &&& ~~~BitVec.ofInt 64 M1.gone).toNat:Int) !=
  0) (fun(x40:Bool) => .need (!!x40 || !x40 && !x40) (.need (!!x40 || !x40) (.need (x40 || !x40) (.bnd (x40||i64.wrap (↑(BitVec.ofInt 64 M1.gone &&& ~~~BitVec.ofInt 64
  (miV X).2.1).toNat:Int) != 0) (fun(x41:Bool) => .br (x41) (.leaf (.bool true false) ([])) (.ask (Z5 S (Qa X).1 (Qa X).2.1 (Qu X).1) (.ask (0=0) (.ask ((Qa
  X).1.length=(Qa X).1.length) (.ask (cO=cO) (.ask ((Qa X).2.1=(Qa X).2.1) (.ask (0=0) (.ask ((Qu X).1.length=(Qu X).1.length) (.ask (Cap.of
  0=cO) (.ask (0=0) (.ask (M1.m=S.length) (.ask (cO=cO) (.ask ((M1.m:Int)=(S.length:Int)) (.ask ((0:Int)=0) (.ask (S.length≤M1.m) (.ask (QC 2
  S.length (fun i=>QA.enc (M1.S i)) fun i=>QA.enc (S.getD i ⟨0,0⟩)) (.ask ((Qa X).1.length≤(Qa X).1.length) (.ask (QC 1 (Qa X).1.length (fun i=>
  QA.enc ((Qa X).1.getD i 0)) fun i=>QA.enc ((Qa X).1.getD i 0)) (.ask ((Qu X).1.length≤(Qu X).1.length) (.ask (QC 2 (Qu X).1.length (fun i=>QA.enc
  ((Qu X).1.getD i ⟨0,0⟩)) fun i=>QA.enc ((Qu X).1.getD i ⟨0,0⟩)) (.asm (True) (.all (fun(g42:Nat→Value) => .leaf (.bool true true)
  ([]))))))))))))))))))))))))))))))))))))))))))))))))))))))))))))))))))))))))))))))))))))))))))))))))))))))))))))))))))))))))))))))))))))))))))))))))))))))))))))))))):=by kernel_rfl
structure QPB (d:Puz) (q:QG) (w:Rw QO) (fo:Int) (M1 M2:Made) (h:Nat) (H:Nat→Jn) (X:QE) (S:List QB):Prop where
 n4:d.ps.n≤4
 hd:d.ok=true
 hw:1≤w.n
 hf:dv w 0 2=fo
 m1:M1.m≤4
 k1:0≤M1.k∧M1.k≤1000
 g:M1.gone=M2.gone
 l:M1.lost=M2.lost
 has:M1.has=M2.has
 at_:M1.at_=M2.at_
 am:decide (fo>0)=true→M1.m+1=M2.m∧M2.S=JD M1.S M1.m ⟨-2,0⟩∧M2.P=W2 M1.P M1.m q
 an:decide (fo>0)=false→M1.m=M2.m∧M2.S=M1.S∧M2.P=M1.P
 xh:(dv w M1.k 2==0)=true→X=QE.mk d (Rw.mk M2.m M2.P) (Rw.mk h H) M2.lost fo
 xn:(dv w M1.k 2==0)=false→X=QE.mk d (Rw.mk M2.m M2.P) (Rw.mk 0 fun _=>⟨0,0,0,0⟩) M2.lost fo
 small:X.d.ps.n≤1000∧X.scans.n≤1000∧X.hang.n≤1000
 ok:QDy X S
 sl:S.length=M2.m
 sg:∀ i,i<M2.m→S.getD i ⟨0,0⟩=M2.S i
 q3:Z5 S (Qa X).1 (Qa X).2.1 (Qu X).1
 gs:i64.wrap ((BitVec.ofInt 64 (miV X).1 &&& ~~~BitVec.ofInt 64 M2.gone).toNat:Nat)=0
 gm:i64.wrap ((BitVec.ofInt 64 M2.gone &&& ~~~BitVec.ofInt 64 (miV X).2.1).toNat:Nat)=0
theorem QaV{d:Puz}{q:QG}{w:Rw QO}{fo:Int}{M:Made}{c k:Nat}(hM:XV d w M c):Zb (sL (alM q fo M)) k=M.has (k:Int):=by
 cases e:M.has (k:Int)with
 | true=>
  obtain⟨i,hi,_,hc⟩:=hM.has _ e;have a:=zX (q:=q) (fo:=fo) hi;unfold Zb;refine List.any_eq_true.2 ⟨(alM q fo M).S i,?_,?_⟩
  ·unfold sL;exact List.mem_map.2 ⟨i,List.mem_range.2 a.2.2,rfl⟩
  ·rw[a.1,hc];simp
 | false=>
  cases e2:Zb (sL (alM q fo M)) k with
  | false=>rfl
  | true=>
   unfold Zb at e2;obtain⟨s,hs,hc⟩:=List.any_eq_true.1 e2;unfold sL at hs;obtain⟨i,hi,rfl⟩:=List.mem_map.1 hs;rcases vr (q:=q) (fo:=fo) hM (List.mem_range.1 hi)with ⟨e3,_⟩|⟨_,z,t,k0,o,e3,_⟩
   ·rw[e3]at hc;simp at hc
   ·rw[e3]at hc;have hz:(z:Int)=k:=by simpa using hc
    have:=o.h;rw[hz,e]at this;cases this
theorem QXB{d:Puz}{q:QG}{w:Rw QO}(hn:d.ps.n≤4)(hd:d.ok=true)(hw:1≤w.n)(hq:q.ok=true):QPB d q w (foM w) (m1M d w) (m2M d q w) (hgM d q w).h (hgM d q w).H (xF d q w) (sF d q w):=by
 have hM:XV d w (m1M d w) d.ps.n:=QB3 d w d.ps.n (by omega)
 have hf:0≤foM w∧foM w<2:=ZT w 0 (by decide)
 have al:(m2M d q w).lost=(m1M d w).lost∧(m2M d q w).has=(m1M d w).has∧(m2M d q w).at_=(m1M d w).at_∧(m2M d q w).k=(m1M d w).k∧(m2M d q w).gone=(m1M d w).gone:=QGL q (foM w) (m1M d w)
 have am:(m1M d w).m≤(m2M d q w).m∧(m2M d q w).m≤(m1M d w).m+1:=QE7 q (foM w) (m1M d w);have hm:=hM.m;have hk:=hM.k
 have hx:(hgF d q w).h≤12∧∀ m,m<(hgF d q w).h→WU d w (m1M d w) d.ps.n ((hgF d q w).H m):=by
  unfold hgF;cases dv w (m1M d w).k 2==0 with
  | true=>
   have:=QMC (q:=q) (fo:=foM w) hM (m2M d q w).m (qlr _);exact⟨Nat.le_trans this.1 (by show(m2M d q w).m≤12;omega),this.2⟩
  | false=>exact⟨Nat.zero_le _,fun m hm=>absurd hm (Nat.not_lt_zero _)⟩
 have hT:QDy (xF d q w) (sF d q w):=QTx (Qdd hd hq hf hM hx.1 hx.2);have hS:(sF d q w).length=(m2M d q w).m:=jk _;have hG:∀ i,i<(m2M d q w).m→(sF d q w).getD i ⟨0,0⟩=(m2M d q w).S i:=fun i hi=>QFB hi;have hC:∀ k,Zb (sF d q w) k=(m1M d w).has (k:Int):=fun k=>QaV hM;refine⟨hn,hd,hw,rfl,by omega,by omega,al.2.2.2.2.symm,al.1.symm,al.2.1.symm,al.2.2.1.symm,fun h => ?_,fun h => ?_,fun h => ?_,fun h => ?_,?_,hT,hS,hG,?_,?_,?_⟩
 ·unfold m2M alM;rw[h];exact⟨rfl,rfl,rfl⟩
 ·unfold m2M alM;rw[h];exact⟨rfl,rfl,rfl⟩
 ·unfold xF hgF;rw[h];rfl
 ·unfold xF hgF;rw[h];rfl
 ·have:=hx.1;exact⟨by show d.ps.n≤1000;omega,by show(m2M d q w).m≤1000;omega,by show(hgF d q w).h≤1000;omega⟩
 ·refine⟨by omega,hT.l1,hT.l2,hT.f,fun i hi => ?_⟩
  rw[hS]at hi;rw[hG i hi];rcases vr (q:=q) (fo:=foM w) hM hi with ⟨e3,_⟩|⟨_,z,t,k0,o,e3,_⟩
  ·left;show((alM q (foM w) (m1M d w)).S i).cell = -2;rw[e3]
  ·right;show 0≤((alM q (foM w) (m1M d w)).S i).cell;rw[e3];exact Int.natCast_nonneg _
 ·refine QKj (Ym _) (Ym 0) fun k => ?_;rw[QC5,ZW,al.2.2.2.2];cases e:Ql (miV (xF d q w)).1 k with
  | false=>rfl
  | true=>
   have h1:=hT.ms k e;rw[hC]at h1;have h2:Ql (m1M d w).gone k=true:=(hM.gone k).2 h1;rw[h2];rfl
 ·refine QKj (Ym _) (Ym 0) fun k => ?_;rw[QC5,ZW,al.2.2.2.2];cases e:Ql (m1M d w).gone k with
  | false=>rfl
  | true=>
   have h1:=(hM.gone k).1 e;have h2:=hT.mm k h1.1 (by rw[hC];exact h1.2)
   rw[h2];rfl
theorem QY6(P:Nat→QG)(m:Nat)(q:QG):W2 P m q=fun i=>QA.dec (QY m (fun i=>QA.enc (P i)) (QR [(Enc.enc q).cells] 0) i):=by
 funext i;unfold W2
 by_cases h:i<m
 ·have e2:QY m (fun i=>QA.enc (P i)) (QR [(Enc.enc q).cells] 0) i=QA.enc (P i):=by
   funext j;rw[VX,if_pos h]
  rw[if_pos h,e2];rfl
 ·have e2:QY m (fun i=>QA.enc (P i)) (QR [(Enc.enc q).cells] 0) i=QR [(Enc.enc q).cells] 0 (i-m):=by
   funext j;rw[VX,if_neg h]
  rw[if_neg h,e2];rfl
theorem QT9(P:Nat→QG)(m:Nat)(q:QG):QC 28 (m+1) (QY m (fun i=>QA.enc (P i)) (QR [(Enc.enc q).cells] 0)) (fun i=>QA.enc (W2 P m q i)):=by
 intro i hi;show eqF 28 0 (QY m (fun i=>QA.enc (P i)) (QR [(Enc.enc q).cells] 0) i) (QA.enc (W2 P m q i));unfold W2
 by_cases h:i<m
 ·have e2:QY m (fun i=>QA.enc (P i)) (QR [(Enc.enc q).cells] 0) i=QA.enc (P i):=by
   funext j;rw[VX,if_pos h]
  rw[e2,if_pos h];exact Xe _ _ _
 ·have e2:QY m (fun i=>QA.enc (P i)) (QR [(Enc.enc q).cells] 0) i=QR [(Enc.enc q).cells] 0 (i-m):=by
   funext j;rw[VX,if_neg h]
  rw[e2,if_neg h];exact⟨rfl,rfl,rfl,rfl,rfl,rfl,rfl,rfl,rfl,rfl,rfl,rfl,rfl,rfl,rfl,rfl,rfl,rfl,rfl,rfl,rfl,rfl,rfl,rfl,rfl,rfl,rfl,rfl,trivial⟩
set_option maxHeartbeats 3200000 in
theorem QZf(d:Puz)(q:QG)(w:Rw QO)(fo:Int)(M1 M2:Made)(h:Nat)(H:Nat→Jn)(X:QE)(S:List QB)(hR:d.ps.n≤4→d.ok=true→1≤w.n→q.ok=true→QPB d q w fo M1 M2 h H X S):XE (XG 8 (.bool false true) []) (Kc (mkS Try.prog (zp Try.prog QS d w X)) (tqW Try.prog QS d q w fo M1 M2 h H X S) Try.f5 (QX.vals 0 (d,q,w,())) (QX.blks 0 (d,q,w,())) 8):=by
 refine Q0 (QY8 QS d q w fo M1 M2 h H X S) ?_;have mN:qD (AV.int true .i64 0) zeM.has fun i=>AV.int false .i64 (zeM.at_ i):=⟨rfl,fun _=>rfl,fun n=>⟨fun r=>rfl,rfl⟩⟩
 refine QF (by by_cases q:(d.ps.n:Int)≤14<;>simp[q]<;>omega) ?_
 refine KC ?_;refine KL fun z0 y0 => ?_
 iterate 3 refine KC ?_
 refine Kb ?_;refine KL fun z1 y1 => ?_
 iterate 2 refine KC ?_
 refine Kb ?_;refine KL fun z2 y2 => ?_;refine jP (fun q=>by first|(simp;done)|(simp at q ⊢;omega)) ?_
 refine KC ?_;refine Kb ?_;refine KL fun z3 y3 => ?_;refine QI (fun b0 => ?_) (fun b0 => ?_)
 ·exact JE rfl rfl
 ·have hz:=y3.symm.trans b0;rw[y2,y1]at hz;simp only[Bool.or_eq_false_iff,Bool.not_eq_false',decide_eq_false_iff_not,beq_eq_false_iff_ne]at hz;obtain⟨⟨⟨hz0,hn⟩,hw⟩,hq⟩:=hz;rw[y0,qbA]at hz0;have R:=hR (by omega) hz0.2 (by omega) hq
  have T:=R.ok;have n4:=R.n4;have m1:=R.m1;have k1:=R.k1;have hw1:=R.hw;have sl0:=R.sl;refine QF (by exact Kg (by omega)) ?_
  iterate 81 refine Qb (by first|with_reducible rfl|exact qlr _|exact qRr|exact trivial|exact R.hd|exact⟨R.hd,R.hw⟩|exact R.hf|exact am|exact R.g|exact R.l|exact R.q3|exact mE|exact rS|exact rP|exact rL|exact sl|omega|exact mN) ?_
  refine KO fun a0 => ?_;refine KK fun g0 => ?_;refine QI (fun b1 => ?_) (fun b1 => ?_)
  ·obtain⟨am,aS,aP⟩:=R.am b1;have gsg:M1.gone=M2.gone:=R.g;have rS:QC 2 M2.m (QY M1.m (fun i=>QA.enc (M1.S i)) (QR [[AV.int true i64 (-2),AV.int true i64 0]] 0)) (fun i=>QA.enc (M2.S i)):=by rw[aS,←am];exact QBu _ _ _ _ ⟨rfl,rfl,trivial⟩
   have rP:QC 28 M2.m (QY M1.m (fun i=>QA.enc (M1.P i)) (QR [(Enc.enc q).cells] 0)) (fun i=>QA.enc (M2.P i)):=by rw[aP,←am];exact QT9 _ _ _
   have mE:KA (AV.int true .i64 0) (AV.int true .i64 0) M1.has M2.has (fun i=>AV.int false .i64 (M1.at_ i)) fun i=>AV.int false .i64 (M2.at_ i):=by rw[R.has,R.at_];exact jG _ rfl _ _ _ (fun _=>rfl)
   refine QF (by first|rfl|(simp;done)|(simp;omega)|omega|grind) ?_
   refine QF (by first|rfl|(simp;done)|(simp;omega)|omega|grind) ?_
   refine QF (by exact Kg (by omega)) ?_
   refine QI (fun b2 => ?_) (fun b2 => ?_)
   ·have hX:=R.xh b2;have gs:=R.gs;have gm:=R.gm;have sl:=sl0
    have rL:QC 2 S.length (fun i=>QA.enc (M2.S i)) (fun i=>QA.enc (S.getD i ⟨0,0⟩)):=fun i hi=>by
     rw[sl]at hi;show eqF 2 0 (QA.enc (M2.S i)) (QA.enc (S.getD i ⟨0,0⟩));rw[R.sg i hi];exact Xe _ _ _
    iterate 50 refine Qb (by first|with_reducible rfl|exact qlr _|exact qRr|exact trivial|exact R.hd|exact⟨R.hd,R.hw⟩|exact R.hf|exact am|exact R.g|exact R.l|exact R.q3|exact mE|exact rS|exact rP|exact rL|exact sl|omega|exact mN) ?_
    refine KO fun a1 => ?_;refine KK fun g1 => ?_;refine QF (by exact Q4.2 ⟨by simp,⟨_,by rw[hX];rfl⟩,decide_eq_true R.small,trivial⟩) ?_
    refine QF (by exact Q4.2 ⟨by simp,⟨_,by rw[hX];rfl⟩,decide_eq_true R.small,trivial⟩) ?_
    refine QF (by exact Q4.2 ⟨by simp,⟨_,by rw[hX];rfl⟩,decide_eq_true R.small,trivial⟩) ?_
    refine QF (by exact Q4.2 ⟨by simp,⟨_,by rw[hX];rfl⟩,decide_eq_true R.small,trivial⟩) ?_
    refine KC ?_;refine Kb ?_;refine KL fun z4 y4 => ?_;obtain rfl:z4=false:=y4.trans (by rw[T.e1,T.e2];rfl)
    refine KC ?_;refine Kb ?_;refine KL fun z5 y5 => ?_;obtain rfl:z5=false:=y5.trans (by rw[T.e3];rfl)
    refine KC ?_;refine Kb ?_;refine KL fun z6 y6 => ?_;obtain rfl:z6=false:=y6.trans (by rw[T.e4];rfl)
    refine KC ?_;refine Kb ?_;refine KL fun z7 y7 => ?_;obtain rfl:z7=false:=y7.trans ((Bool.false_or _).trans (decide_eq_false (by have:=T.m;omega)))
    iterate 2 refine KC ?_
    refine VC ?_;refine Kb ?_;refine KL fun z8 y8 => ?_;obtain rfl:z8=false:=y8.trans (by rw[T.l1,sl];simp)
    iterate 2 refine KC ?_
    refine VC ?_;refine Kb ?_;refine KL fun z9 y9 => ?_;obtain rfl:z9=false:=y9.trans (by rw[T.l2,sl];simp)
    refine VC ?_;refine KC ?_;refine Kb ?_;refine KL fun z10 y10 => ?_;obtain rfl:z10=false:=y10.trans (by rw[gs];rfl)
    refine VC ?_;refine KC ?_;refine Kb ?_;refine KL fun z11 y11 => ?_;obtain rfl:z11=false:=y11.trans (by rw[gm];rfl)
    refine QI (fun b3 => ?_) (fun b3 => ?_)
    ·cases b3
    ·iterate 19 refine Qb (by first|with_reducible rfl|exact qlr _|exact qRr|exact trivial|exact R.hd|exact⟨R.hd,R.hw⟩|exact R.hf|exact am|exact R.g|exact R.l|exact R.q3|exact mE|exact rS|exact rP|exact rL|exact sl|omega|exact mN) ?_
     refine KO fun a2 => ?_;refine KK fun g2 => ?_;exact JE rfl rfl
   ·have hX:=R.xn b2;rw[aP,←am,←R.l,QY6]at hX;have gs:=R.gs;have gm:=R.gm;rw[←R.g]at gs gm;have sl:S.length=M1.m+1:=sl0.trans am.symm
    have rL:QC 2 S.length (QY M1.m (fun i=>QA.enc (M1.S i)) (QR [[AV.int true i64 (-2),AV.int true i64 0]] 0)) (fun i=>QA.enc (S.getD i ⟨0,0⟩)):=fun i hi=>by
     have hi':i<M2.m:=by omega
     show eqF 2 0 _ (QA.enc (S.getD i ⟨0,0⟩));rw[R.sg i hi'];exact rS i hi'
    refine QF (by exact Q4.2 ⟨by simp,⟨_,by rw[hX];rfl⟩,decide_eq_true R.small,trivial⟩) ?_
    refine QF (by exact Q4.2 ⟨by simp,⟨_,by rw[hX];rfl⟩,decide_eq_true R.small,trivial⟩) ?_
    refine QF (by exact Q4.2 ⟨by simp,⟨_,by rw[hX];rfl⟩,decide_eq_true R.small,trivial⟩) ?_
    refine QF (by exact Q4.2 ⟨by simp,⟨_,by rw[hX];rfl⟩,decide_eq_true R.small,trivial⟩) ?_
    refine KC ?_;refine Kb ?_;refine KL fun z12 y12 => ?_;obtain rfl:z12=false:=y12.trans (by rw[T.e1,T.e2];rfl)
    refine KC ?_;refine Kb ?_;refine KL fun z13 y13 => ?_;obtain rfl:z13=false:=y13.trans (by rw[T.e3];rfl)
    refine KC ?_;refine Kb ?_;refine KL fun z14 y14 => ?_;obtain rfl:z14=false:=y14.trans (by rw[T.e4];rfl)
    refine KC ?_;refine Kb ?_;refine KL fun z15 y15 => ?_;obtain rfl:z15=false:=y15.trans ((Bool.false_or _).trans (decide_eq_false (by have:=T.m;omega)))
    iterate 2 refine KC ?_
    refine VC ?_;refine Kb ?_;refine KL fun z16 y16 => ?_;obtain rfl:z16=false:=y16.trans (by rw[T.l1,sl];simp)
    iterate 2 refine KC ?_
    refine VC ?_;refine Kb ?_;refine KL fun z17 y17 => ?_;obtain rfl:z17=false:=y17.trans (by rw[T.l2,sl];simp)
    refine VC ?_;refine KC ?_;refine Kb ?_;refine KL fun z18 y18 => ?_;obtain rfl:z18=false:=y18.trans (by rw[gs];rfl)
    refine VC ?_;refine KC ?_;refine Kb ?_;refine KL fun z19 y19 => ?_;obtain rfl:z19=false:=y19.trans (by rw[gm];rfl)
    refine QI (fun b4 => ?_) (fun b4 => ?_)
    ·cases b4
    ·iterate 19 refine Qb (by first|with_reducible rfl|exact qlr _|exact qRr|exact trivial|exact R.hd|exact⟨R.hd,R.hw⟩|exact R.hf|exact am|exact R.g|exact R.l|exact R.q3|exact mE|exact rS|exact rP|exact rL|exact sl|omega|exact mN) ?_
     refine KO fun a3 => ?_;refine KK fun g3 => ?_;exact JE rfl rfl
  ·obtain⟨am,aS,aP⟩:=R.an b1;have rS:QC 2 M2.m (fun i=>QA.enc (M1.S i)) (fun i=>QA.enc (M2.S i)):=by rw[aS];exact qRr
   have rP:QC 28 M2.m (fun i=>QA.enc (M1.P i)) (fun i=>QA.enc (M2.P i)):=by rw[aP];exact qRr
   have mE:KA (AV.int true .i64 0) (AV.int true .i64 0) M1.has M2.has (fun i=>AV.int false .i64 (M1.at_ i)) fun i=>AV.int false .i64 (M2.at_ i):=by rw[R.has,R.at_];exact jG _ rfl _ _ _ (fun _=>rfl)
   refine QF (by exact Kg (by omega)) ?_
   refine QI (fun b5 => ?_) (fun b5 => ?_)
   ·have hX:=R.xh b5;have gs:=R.gs;have gm:=R.gm;have sl:=sl0
    have rL:QC 2 S.length (fun i=>QA.enc (M2.S i)) (fun i=>QA.enc (S.getD i ⟨0,0⟩)):=fun i hi=>by
     rw[sl]at hi;show eqF 2 0 (QA.enc (M2.S i)) (QA.enc (S.getD i ⟨0,0⟩));rw[R.sg i hi];exact Xe _ _ _
    iterate 50 refine Qb (by first|with_reducible rfl|exact qlr _|exact qRr|exact trivial|exact R.hd|exact⟨R.hd,R.hw⟩|exact R.hf|exact am|exact R.g|exact R.l|exact R.q3|exact mE|exact rS|exact rP|exact rL|exact sl|omega|exact mN) ?_
    refine KO fun a4 => ?_;refine KK fun g4 => ?_;refine QF (by exact Q4.2 ⟨by simp,⟨_,by rw[hX];rfl⟩,decide_eq_true R.small,trivial⟩) ?_
    refine QF (by exact Q4.2 ⟨by simp,⟨_,by rw[hX];rfl⟩,decide_eq_true R.small,trivial⟩) ?_
    refine QF (by exact Q4.2 ⟨by simp,⟨_,by rw[hX];rfl⟩,decide_eq_true R.small,trivial⟩) ?_
    refine QF (by exact Q4.2 ⟨by simp,⟨_,by rw[hX];rfl⟩,decide_eq_true R.small,trivial⟩) ?_
    refine KC ?_;refine Kb ?_;refine KL fun z20 y20 => ?_;obtain rfl:z20=false:=y20.trans (by rw[T.e1,T.e2];rfl)
    refine KC ?_;refine Kb ?_;refine KL fun z21 y21 => ?_;obtain rfl:z21=false:=y21.trans (by rw[T.e3];rfl)
    refine KC ?_;refine Kb ?_;refine KL fun z22 y22 => ?_;obtain rfl:z22=false:=y22.trans (by rw[T.e4];rfl)
    refine KC ?_;refine Kb ?_;refine KL fun z23 y23 => ?_;obtain rfl:z23=false:=y23.trans ((Bool.false_or _).trans (decide_eq_false (by have:=T.m;omega)))
    iterate 2 refine KC ?_
    refine VC ?_;refine Kb ?_;refine KL fun z24 y24 => ?_;obtain rfl:z24=false:=y24.trans (by rw[T.l1,sl];simp)
    iterate 2 refine KC ?_
    refine VC ?_;refine Kb ?_;refine KL fun z25 y25 => ?_;obtain rfl:z25=false:=y25.trans (by rw[T.l2,sl];simp)
    refine VC ?_;refine KC ?_;refine Kb ?_;refine KL fun z26 y26 => ?_;obtain rfl:z26=false:=y26.trans (by rw[gs];rfl)
    refine VC ?_;refine KC ?_;refine Kb ?_;refine KL fun z27 y27 => ?_;obtain rfl:z27=false:=y27.trans (by rw[gm];rfl)
    refine QI (fun b6 => ?_) (fun b6 => ?_)
    ·cases b6
    ·iterate 19 refine Qb (by first|with_reducible rfl|exact qlr _|exact qRr|exact trivial|exact R.hd|exact⟨R.hd,R.hw⟩|exact R.hf|exact am|exact R.g|exact R.l|exact R.q3|exact mE|exact rS|exact rP|exact rL|exact sl|omega|exact mN) ?_
     refine KO fun a5 => ?_;refine KK fun g5 => ?_;exact JE rfl rfl
   ·have hX:=R.xn b5;rw[aP,←am,←R.l]at hX;have gs:=R.gs;have gm:=R.gm;rw[←R.g]at gs gm;have sl:S.length=M1.m:=sl0.trans am.symm
    have rL:QC 2 S.length (fun i=>QA.enc (M1.S i)) (fun i=>QA.enc (S.getD i ⟨0,0⟩)):=fun i hi=>by
     have hi':i<M2.m:=by omega
     show eqF 2 0 (QA.enc (M1.S i)) (QA.enc (S.getD i ⟨0,0⟩));rw[R.sg i hi',aS];exact Xe _ _ _
    refine QF (by exact Q4.2 ⟨by simp,⟨_,by rw[hX];rfl⟩,decide_eq_true R.small,trivial⟩) ?_
    refine QF (by exact Q4.2 ⟨by simp,⟨_,by rw[hX];rfl⟩,decide_eq_true R.small,trivial⟩) ?_
    refine QF (by exact Q4.2 ⟨by simp,⟨_,by rw[hX];rfl⟩,decide_eq_true R.small,trivial⟩) ?_
    refine QF (by exact Q4.2 ⟨by simp,⟨_,by rw[hX];rfl⟩,decide_eq_true R.small,trivial⟩) ?_
    refine KC ?_;refine Kb ?_;refine KL fun z28 y28 => ?_;obtain rfl:z28=false:=y28.trans (by rw[T.e1,T.e2];rfl)
    refine KC ?_;refine Kb ?_;refine KL fun z29 y29 => ?_;obtain rfl:z29=false:=y29.trans (by rw[T.e3];rfl)
    refine KC ?_;refine Kb ?_;refine KL fun z30 y30 => ?_;obtain rfl:z30=false:=y30.trans (by rw[T.e4];rfl)
    refine KC ?_;refine Kb ?_;refine KL fun z31 y31 => ?_;obtain rfl:z31=false:=y31.trans ((Bool.false_or _).trans (decide_eq_false (by have:=T.m;omega)))
    iterate 2 refine KC ?_
    refine VC ?_;refine Kb ?_;refine KL fun z32 y32 => ?_;obtain rfl:z32=false:=y32.trans (by rw[T.l1,sl];simp)
    iterate 2 refine KC ?_
    refine VC ?_;refine Kb ?_;refine KL fun z33 y33 => ?_;obtain rfl:z33=false:=y33.trans (by rw[T.l2,sl];simp)
    refine VC ?_;refine KC ?_;refine Kb ?_;refine KL fun z34 y34 => ?_;obtain rfl:z34=false:=y34.trans (by rw[gs];rfl)
    refine VC ?_;refine KC ?_;refine Kb ?_;refine KL fun z35 y35 => ?_;obtain rfl:z35=false:=y35.trans (by rw[gm];rfl)
    refine QI (fun b7 => ?_) (fun b7 => ?_)
    ·cases b7
    ·iterate 19 refine Qb (by first|with_reducible rfl|exact qlr _|exact qRr|exact trivial|exact R.hd|exact⟨R.hd,R.hw⟩|exact R.hf|exact am|exact R.g|exact R.l|exact R.q3|exact mE|exact rS|exact rP|exact rL|exact sl|omega|exact mN) ?_
     refine KO fun a6 => ?_;refine KK fun g6 => ?_;exact JE rfl rfl
end Go.Proofs.Ytbpffdkemeoajaa
