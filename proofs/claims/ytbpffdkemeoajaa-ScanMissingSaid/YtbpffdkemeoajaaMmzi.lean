/- The law ScanMissing, its contract (layer 7). -/
import Derived.Test.YtbpffdkemeoajaaMmzh
set_option maxRecDepth 100000
namespace Go.Proofs.Ytbpffdkemeoajaa
open Go.SX
theorem Xr {x:QE} {c s:Int} (h:WB x c s=false):x.d.ps.n≤14∧x.scans.n≤18∧x.hang.n≤18:=by
 simp only [WB,Bool.or_eq_false_iff,decide_eq_false_iff_not] at h
 omega
theorem Z6 {x:QE} (h:x.d.ps.n≤14∧x.scans.n≤18∧x.hang.n≤18):(decide (x.d.ps.n≤x.d.ps.n)&&(decide (x.scans.n≤x.scans.n)&&(decide (x.hang.n≤x.hang.n)&&true))&&decide (x.d.ps.n≤(1000:Nat)∧x.scans.n≤(1000:Nat)∧x.hang.n≤(1000:Nat)))=true:=by
 simp;omega
theorem QFo (x:QE):((miV x).2.2 != (Q7 x).2)=false:=by
 rw [(qa x).1,QBA];simp
def Ha:WF (QE×Unit):=fun|(x,_)=>(true,.bool false true,[])
theorem QPu (x:QE) :KY (mkS Try.prog Jx) (laH Try.prog x) Try.f7 (QS.vals 0 ((x,()):QE×Unit)) (QS.blks 0 ((x,()):QE×Unit)) 8 = .need (decide (x.d.ps.n≤x.d.ps.n)&&(decide
  (x.scans.n≤x.scans.n)&&(decide (x.hang.n≤x.hang.n)&&(true&&(true&&true))))&&true) (.br (WB x (5:Int) (5:Int)) (.leaf (.bool true true) ([])) (.need (decide
  (x.d.ps.n≤x.d.ps.n)&&(decide (x.scans.n≤x.scans.n)&&(decide (x.hang.n≤x.hang.n)&&true))&&decide (x.d.ps.n≤1000∧x.scans.n≤1000∧x.hang.n≤1000)) (.need (decide
  (x.d.ps.n≤x.d.ps.n)&&(decide (x.scans.n≤x.scans.n)&&(decide (x.hang.n≤x.hang.n)&&true))&&decide (x.d.ps.n≤1000∧x.scans.n≤1000∧x.hang.n≤1000)) (.br ((miV
  x).2.2 != (Q7 x).2) (.leaf (.bool true false) ([])) (.need (!!(miV x).2.2 != (0:Int)||decide (x.d.ps.n≤x.d.ps.n)&&(decide (x.scans.n≤x.scans.n)&&(decide (x.hang.n ≤
  x.hang.n)&&true))&&decide (x.d.ps.n≤1000∧x.scans.n≤1000∧x.hang.n≤1000) && !(miV x).2.2 != (0:Int)) (.need (!!(miV x).2.2 != (0:Int) || !(miV x).2.2 != (0:Int))
  (.need ((miV x).2.2 != (0:Int) || !(miV x).2.2 != (0:Int)) (.bnd ((miV x).2.2 != (0:Int) || !x.ok) (fun (x0:Bool) => .br (x0) (.need (!(miV x).1 == (0:Int)||(miV x).1 ==
  (0:Int)) (.need (!(miV x).1 == (0:Int)||(miV x).1 == (0:Int)) (.bnd ((miV x).1 == (0:Int)&&(miV x).2.1 == (0:Int)) (fun (x1:Bool) => .need (!x1||x1) (.bnd (x1 ||
  false) (fun (x2:Bool) => .leaf (.bool false x2) ([]))))))) (.need (!!IntKind.i64.wrap (↑(BitVec.ofInt 64 (miV x).1 &&& ~~~BitVec.ofInt 64 (miV x).2.1).toNat:Int) != (0:Int) ||
  !IntKind.i64.wrap (↑(BitVec.ofInt 64 (miV x).1 &&& ~~~BitVec.ofInt 64 (miV x).2.1).toNat:Int) != (0:Int)) (.need (IntKind.i64.wrap (↑(BitVec.ofInt 64 (miV x).1 &&&
  ~~~BitVec.ofInt 64 (miV x).2.1).toNat:Int) != (0:Int) || !IntKind.i64.wrap (↑(BitVec.ofInt 64 (miV x).1 &&& ~~~BitVec.ofInt 64 (miV x).2.1).toNat:Int) != (0:Int)) (.bnd
  (IntKind.i64.wrap (↑(BitVec.ofInt 64 (miV x).1 &&& ~~~BitVec.ofInt 64 (miV x).2.1).toNat:Int) != (0:Int)||decide ((miV x).2.1 < (0:Int))) (fun (x3:Bool) => .need (!!x3 ||
  !x3) (.need (!!x3 || !x3) (.need (!!x3 || !x3) (.need (!!x3||decide ((0:Int)≤(↑x.d.ps.n:Int)) && !x3) (.need (!!x3 || !x3 && !x3) (.need (x3 || !x3) (.bnd (x3||decide
  ((miV x).2.1≥IntKind.i64.wrap ((1:Int) * (2:Int) ^ min x.d.ps.n 64))) (fun (x4:Bool) => .br (x4) (.leaf (.bool true false) ([])) (.ask (x.d.ps.n≤1000) (.ask (0=0) (.ask
  (0=0) (.ask ((miV x).1=(miV x).1) (.ask ((miV x).2.1=(miV x).2.1) (.ask (0=0) (.ask ((Q7 x).1.length=(Q7 x).1.length) (.ask (Cap.of 0=Cap.of 0) (.ask ((0:Int) =
  (0:Int)) (.ask ((↑x.d.ps.n:Int)=(↑x.d.ps.n:Int)) (.ask ((0:Int)=(0:Int)) (.ask ((Q7 x).1.length≤(Q7 x).1.length) (.ask (QD 2 (Q7 x).1.length (fun i=>
  QB.enc ((Q7 x).1.getD i (QA.mk (0:Int) (0:Int)))) fun i=>QB.enc ((Q7 x).1.getD i (QA.mk (0:Int) (0:Int)))) (.ask (x.d.play.length=x.d.play.length) (.ask
  (x.d.play.slack=x.d.play.slack) (.ask (x.d.play.loose=x.d.play.loose) (.ask (x.d.play.damp.lo=x.d.play.damp.lo) (.ask (x.d.play.damp.hi=x.d.play.damp.hi) (.ask (x.d.wide =
  x.d.wide) (.ask (x.d.high=x.d.high) (.ask (x.d.turn=x.d.turn) (.ask (0=0) (.ask (x.d.ps.n=x.d.ps.n) (.ask (Cap.of 0=Cap.of 0) (.ask (0=0) (.ask (x.scans.n=x.scans.n)
  (.ask (Cap.of 0=Cap.of 0) (.ask (0=0) (.ask (x.hang.n=x.hang.n) (.ask (Cap.of 0=Cap.of 0) (.ask (x.lost=x.lost) (.ask (x.foreign=x.foreign) (.ask (x.d.ps.n≤x.d.ps.n)
  (.ask (QD 28 x.d.ps.n (fun i=>QB.enc (x.d.ps.get i)) fun i=>QB.enc (x.d.ps.get i)) (.ask (x.scans.n≤x.scans.n) (.ask (QD 28 x.scans.n (fun i=>QB.enc
  (x.scans.get i)) fun i=>QB.enc (x.scans.get i)) (.ask (x.hang.n≤x.hang.n) (.ask (QD 4 x.hang.n (fun i=>QB.enc (x.hang.get i)) fun i=>QB.enc (x.hang.get i)) (.asm
  (True) (.all (fun (g5:Nat→Value) => .ask (VI x=(0:Int)∧x.scans.n≤1000) (.ask (0=0) (.ask (0=0) (.ask ((miV x).2.1=(miV x).2.1) (.ask (Q9 (miV x).1 x.d.ps.n =
  Q9 (miV x).1 x.d.ps.n) (.ask (0=0) (.ask ((Q7 x).1.length=(Q7 x).1.length) (.ask (Cap.of 0=Cap.of 0) (.ask ((↑(Q7 x).1.length:Int)=(↑(Q7 x).1.length:Int))
  (.ask ((0:Int)=(0:Int)) (.ask ((Q7 x).1.length≤(Q7 x).1.length) (.ask (QD 2 (Q7 x).1.length (fun i=>QB.enc ((Q7 x).1.getD i (QA.mk (0:Int) (0 :
  Int)))) fun i=>QB.enc ((Q7 x).1.getD i (QA.mk (0:Int) (0:Int)))) (.ask (x.d.play.length=x.d.play.length) (.ask (x.d.play.slack=x.d.play.slack) (.ask (x.d.play.loose
  = x.d.play.loose) (.ask (x.d.play.damp.lo=x.d.play.damp.lo) (.ask (x.d.play.damp.hi=x.d.play.damp.hi) (.ask (x.d.wide=x.d.wide) (.ask (x.d.high=x.d.high) (.ask (x.d.turn =
  x.d.turn) (.ask (0=0) (.ask (x.d.ps.n=x.d.ps.n) (.ask (Cap.of 0=Cap.of 0) (.ask (0=0) (.ask (x.scans.n=x.scans.n) (.ask (Cap.of 0=Cap.of 0) (.ask (0=0) (.ask (x.hang.n
  = x.hang.n) (.ask (Cap.of 0=Cap.of 0) (.ask (x.lost=x.lost) (.ask (x.foreign=x.foreign) (.ask (x.d.ps.n≤x.d.ps.n) (.ask (QD 28 x.d.ps.n (fun i=>QB.enc (x.d.ps.get
  i)) fun i=>QB.enc (x.d.ps.get i)) (.ask (x.scans.n≤x.scans.n) (.ask (QD 28 x.scans.n (fun i=>QB.enc (x.scans.get i)) fun i=>QB.enc (x.scans.get i)) (.ask (x.hang.n
  ≤ x.hang.n) (.ask (QD 4 x.hang.n (fun i=>QB.enc (x.hang.get i)) fun i=>QB.enc (x.hang.get i)) (.asm (True) (.all (fun (g6:Nat→Value) => .need (!!decide (Q9 (miV
  x).1 x.d.ps.n > x.lost) || !decide (Q9 (miV x).1 x.d.ps.n > x.lost)) (.need (!!decide (Q9 (miV x).1 x.d.ps.n > x.lost) || !decide (Q9 (miV x).1 x.d.ps.n > x.lost)) (.need
  (!!decide (Q9 (miV x).1 x.d.ps.n > x.lost) || !decide (Q9 (miV x).1 x.d.ps.n > x.lost)) (.need (!!decide (Q9 (miV x).1 x.d.ps.n > x.lost) || !decide (Q9 (miV x).1 x.d.ps.n >
  x.lost)) (.need (!!decide (Q9 (miV x).1 x.d.ps.n > x.lost) || !decide (Q9 (miV x).1 x.d.ps.n > x.lost)) (.need (!!decide (Q9 (miV x).1 x.d.ps.n > x.lost) || !decide (Q9 (miV
  x).1 x.d.ps.n > x.lost) && !decide (Q9 (miV x).1 x.d.ps.n > x.lost)) (.need (!!decide (Q9 (miV x).1 x.d.ps.n > x.lost) || !decide (Q9 (miV x).1 x.d.ps.n > x.lost)) (.need
  (!!decide (Q9 (miV x).1 x.d.ps.n > x.lost) || !decide (Q9 (miV x).1 x.d.ps.n > x.lost) && !decide (Q9 (miV x).1 x.d.ps.n > x.lost)) (.need (decide (Q9 (miV x).1 x.d.ps.n >
  x.lost) || !decide (Q9 (miV x).1 x.d.ps.n > x.lost)) (.bnd (decide (Q9 (miV x).1 x.d.ps.n > x.lost)||decide (IntKind.i64.wrap ((↑x.d.ps.n:Int) - (↑x.scans.n:Int)) >
  x.lost)) (fun (x7:Bool) => .need (!!x7 || !x7) (.need (!!x7 || !x7) (.need (!!x7 || !x7) (.need (!!x7 || !x7) (.need (!!x7 || !x7) (.need (!!x7 || !x7 && !x7) (.need (!!x7 || !x7)
  (.need (!!x7 || !x7 && !x7) (.need (x7 || !x7) (.bnd (x7||decide (IntKind.i64.wrap ((↑x.scans.n:Int) - (↑x.d.ps.n:Int)) > x.foreign)) (fun (x8:Bool) => .br (x8) (.leaf
  (.bool true false) ([])) (.need (!!decide (x.lost > (0:Int)) || !decide (x.lost > (0:Int))) (.need (!!decide (x.lost > (0:Int)) || !decide (x.lost > (0:Int))) (.need (decide
  (x.lost > (0:Int)) || !decide (x.lost > (0:Int))) (.bnd (decide (x.lost > (0:Int))||decide (x.foreign > (0:Int))) (fun (x9:Bool) => .need (!!x9 || !x9) (.need (!!x9 ||
  !x9) (.need (!(!x9&&(miV x).2.1 == (0:Int)) || !x9&&(miV x).2.1 == (0:Int)) (.need (!(!x9&&(miV x).2.1 == (0:Int)) || !x9&&(miV x).2.1 == (0:Int)) (.need (!(!x9 &&
  (miV x).2.1 == (0:Int)) || !x9&&(miV x).2.1 == (0:Int)) (.need (!(!x9&&(miV x).2.1 == (0:Int)) || !x9&&(miV x).2.1 == (0:Int)) (.need (!(!x9&&(miV x).2.1 == (0 :
  Int)) || !x9&&(miV x).2.1 == (0:Int)) (.need (!(!x9&&(miV x).2.1 == (0:Int)) || !x9&&(miV x).2.1 == (0:Int)&&(!x9&&(miV x).2.1 == (0:Int))) (.need (!!x9 || !x9 &&
  (!(miV x).2.1 == (0:Int) || !x9&&(miV x).2.1 == (0:Int))) (.bnd ((miV x).2.1 == (0:Int)&&(↑x.scans.n:Int) == (↑x.d.ps.n:Int)) (fun (x10:Bool) => .need (x9 || !x9)
  (.bnd (x9||x10) (fun (x11:Bool) => .need (!x11||x11) (.bnd (x11||false) (fun (x12:Bool) => .leaf (.bool false x12)
  ([])))))))))))))))))))))))))))))))))))))))))))))))))))))))))))))))))))))))))))))))))))))))))))))))))))))))))))))))))))))))))))))))))))))))))))):=by kernel_rfl
theorem QQ9:Kz (mkS Try.prog Jx) (Qm Try.f7) 8 Ha (fun x_=>(laH Try.prog x_.1)):=by
 refine ⟨?_⟩
 rintro ⟨x,⟨⟩⟩ hp G h1 h2
 exact QNX x G h1 h2
theorem QK3:K1 (mkS Try.prog Jx) Try.f7 8 Ha (fun x_=>(laH Try.prog x_.1)):=by
 refine ⟨?_⟩
 rintro ⟨x,⟨⟩⟩ hp
 refine ⟨⟨rfl,by simp [Ha],rfl⟩,⟨?_⟩⟩
 rw [QPu x]
 simp only [Ha] at hp
 by_cases h0:VI x=0
 ·have hl:=QFE h0
  have hx:=((qa x).2.2 h0).1
  have e1:=QFo x
  have e2:((miV x).2.2 != 0)=false:=by rw [(qa x).1,h0];rfl
  have e4:(IntKind.i64.wrap ((BitVec.ofInt 64 (miV x).1 &&& ~~~BitVec.ofInt 64 (miV x).2.1).toNat:Int) != 0)=false:=by
   rw [bne_eq_false_iff_eq];exact hl.sub
  have e5:decide ((miV x).2.1 < 0)=false:=decide_eq_false (by have:=hl.pos;omega)
  have e6:decide ((miV x).2.1≥IntKind.i64.wrap (1 * 2 ^ min x.d.ps.n 64))=false:=decide_eq_false (by have:=hl.lt;omega)
  have e7:decide (Q9 (miV x).1 x.d.ps.n > x.lost)=false:=decide_eq_false (by have:=hl.n;omega)
  refine QF (by first|rfl|(simp;done)|(simp;omega)|omega|grind) ?_
  refine QL (fun b0 => ?_) (fun b0 => ?_)
  ·exact Ki rfl rfl
  ·refine QF (by exact Z6 (Xr b0)) ?_
   refine QF (by exact Z6 (Xr b0)) ?_
   refine QL (fun b1 => ?_) (fun b1 => ?_)
   ·rw [e1] at b1;cases b1
   ·refine QF (by rw [Z6 (Xr b0),e2];rfl) ?_
    refine QF (by first|rfl|(simp;done)|(simp;omega)|omega|grind) ?_
    refine QF (by first|rfl|(simp;done)|(simp;omega)|omega|grind) ?_
    refine Jc fun z0 y0 => ?_
    refine QL (fun b2 => ?_) (fun b2 => ?_)
    ·refine QF (by first|rfl|(simp;done)|(simp;omega)|omega|grind) ?_
     refine QF (by first|rfl|(simp;done)|(simp;omega)|omega|grind) ?_
     refine Jc fun z1 y1 => ?_
     refine QF (by first|rfl|(simp;done)|(simp;omega)|omega|grind) ?_
     refine Jc fun z2 y2 => ?_
     rw [b2,e2,hx] at y0;cases y0
    ·refine QF (by first|rfl|(simp;done)|(simp;omega)|omega|grind) ?_
     refine QF (by first|rfl|(simp;done)|(simp;omega)|omega|grind) ?_
     refine Jc fun z3 y3 => ?_
     refine QF (by first|rfl|(simp;done)|(simp;omega)|omega|grind) ?_
     refine QF (by first|rfl|(simp;done)|(simp;omega)|omega|grind) ?_
     refine QF (by first|rfl|(simp;done)|(simp;omega)|omega|grind) ?_
     refine QF (by first|rfl|(simp;done)|(simp;omega)|omega|grind) ?_
     refine QF (by first|rfl|(simp;done)|(simp;omega)|omega|grind) ?_
     refine QF (by first|rfl|(simp;done)|(simp;omega)|omega|grind) ?_
     refine Jc fun z4 y4 => ?_
     refine QL (fun b3 => ?_) (fun b3 => ?_)
     ·rw [b3,y3,e4,e5,e6] at y4;cases y4
     ·refine Qc (by have:=Xr b0;omega) ?_
      iterate 37 refine Qc (by first|with_reducible rfl|exact Nat.le_refl _|exact QD.refl _ _ _|exact Qp _ _ _ _|exact trivial) ?_
      refine KQ fun a0 => ?_
      refine KX fun g0 => ?_
      refine Qc (by exact ⟨h0,by have:=Xr b0;omega⟩) ?_
      iterate 36 refine Qc (by first|with_reducible rfl|exact Nat.le_refl _|exact QD.refl _ _ _|exact Qp _ _ _ _|exact trivial) ?_
      refine KQ fun a1 => ?_
      refine KX fun g1 => ?_
      refine QF (by first|rfl|(simp;done)|(simp;omega)|omega|grind) ?_
      refine QF (by first|rfl|(simp;done)|(simp;omega)|omega|grind) ?_
      refine QF (by first|rfl|(simp;done)|(simp;omega)|omega|grind) ?_
      refine QF (by first|rfl|(simp;done)|(simp;omega)|omega|grind) ?_
      refine QF (by first|rfl|(simp;done)|(simp;omega)|omega|grind) ?_
      refine QF (by first|rfl|(simp;done)|(simp;omega)|omega|grind) ?_
      refine QF (by first|rfl|(simp;done)|(simp;omega)|omega|grind) ?_
      refine QF (by first|rfl|(simp;done)|(simp;omega)|omega|grind) ?_
      refine QF (by first|rfl|(simp;done)|(simp;omega)|omega|grind) ?_
      refine Jc fun z5 y5 => ?_
      refine QF (by first|rfl|(simp;done)|(simp;omega)|omega|grind) ?_
      refine QF (by first|rfl|(simp;done)|(simp;omega)|omega|grind) ?_
      refine QF (by first|rfl|(simp;done)|(simp;omega)|omega|grind) ?_
      refine QF (by first|rfl|(simp;done)|(simp;omega)|omega|grind) ?_
      refine QF (by first|rfl|(simp;done)|(simp;omega)|omega|grind) ?_
      refine QF (by first|rfl|(simp;done)|(simp;omega)|omega|grind) ?_
      refine QF (by first|rfl|(simp;done)|(simp;omega)|omega|grind) ?_
      refine QF (by first|rfl|(simp;done)|(simp;omega)|omega|grind) ?_
      refine QF (by first|rfl|(simp;done)|(simp;omega)|omega|grind) ?_
      refine Jc fun z6 y6 => ?_
      refine QL (fun b4 => ?_) (fun b4 => ?_)
      ·rw [b4,y5,e7] at y6
       have:∀ a:Int,-10000≤a→a≤10000→IntKind.i64.wrap a=a:=fun a h1 h2=>w64 (by omega) (by omega)
       have sz:=Xr b0
       have h1:=hl.l
       have h2:=hl.f
       rw [this _ (by omega) (by omega),decide_eq_false (by omega)] at y6
       rw [this _ (by omega) (by omega),decide_eq_false (by omega)] at y6
       cases y6
      ·refine QF (by first|rfl|(simp;done)|(simp;omega)|omega|grind) ?_
       refine QF (by first|rfl|(simp;done)|(simp;omega)|omega|grind) ?_
       refine QF (by first|rfl|(simp;done)|(simp;omega)|omega|grind) ?_
       refine Jc fun z7 y7 => ?_
       refine QF (by first|rfl|(simp;done)|(simp;omega)|omega|grind) ?_
       refine QF (by first|rfl|(simp;done)|(simp;omega)|omega|grind) ?_
       refine QF (by first|rfl|(simp;done)|(simp;omega)|omega|grind) ?_
       refine QF (by first|rfl|(simp;done)|(simp;omega)|omega|grind) ?_
       refine QF (by first|rfl|(simp;done)|(simp;omega)|omega|grind) ?_
       refine QF (by first|rfl|(simp;done)|(simp;omega)|omega|grind) ?_
       refine QF (by first|rfl|(simp;done)|(simp;omega)|omega|grind) ?_
       refine QF (by first|rfl|(simp;done)|(simp;omega)|omega|grind) ?_
       refine QF (by first|rfl|(simp;done)|(simp;omega)|omega|grind) ?_
       refine Jc fun z8 y8 => ?_
       refine QF (by first|rfl|(simp;done)|(simp;omega)|omega|grind) ?_
       refine Jc fun z9 y9 => ?_
       refine QF (by first|rfl|(simp;done)|(simp;omega)|omega|grind) ?_
       refine Jc fun z10 y10 => ?_
       refine Ki (show _=true from ?_) rfl
       rw [y10,y9,y7,y8,Bool.or_false]
       by_cases k1:x.lost > 0
       ·rw [decide_eq_true k1];rfl
       ·by_cases k2:x.foreign > 0
        ·rw [decide_eq_true k2];simp
        ·obtain ⟨k3,k4⟩:=hl.z (by omega) (by omega)
         rw [k3,k4];simp
 ·have e1:=QFo x
  have e2:((miV x).2.2 != 0)=true:=by rw [(qa x).1];simpa using h0
  obtain ⟨q1,q2⟩:=(qa x).2.1 h0
  refine QF (by first|rfl|(simp;done)|(simp;omega)|omega|grind) ?_
  refine QL (fun b0 => ?_) (fun b0 => ?_)
  ·exact Ki rfl rfl
  ·refine QF (by exact Z6 (Xr b0)) ?_
   refine QF (by exact Z6 (Xr b0)) ?_
   refine QL (fun b1 => ?_) (fun b1 => ?_)
   ·rw [e1] at b1;cases b1
   ·refine QF (by rw [Z6 (Xr b0),e2];rfl) ?_
    refine QF (by first|rfl|(simp;done)|(simp;omega)|omega|grind) ?_
    refine QF (by first|rfl|(simp;done)|(simp;omega)|omega|grind) ?_
    refine Jc fun z0 y0 => ?_
    refine QL (fun b2 => ?_) (fun b2 => ?_)
    ·refine QF (by first|rfl|(simp;done)|(simp;omega)|omega|grind) ?_
     refine QF (by first|rfl|(simp;done)|(simp;omega)|omega|grind) ?_
     refine Jc fun z1 y1 => ?_
     refine QF (by first|rfl|(simp;done)|(simp;omega)|omega|grind) ?_
     refine Jc fun z2 y2 => ?_
     refine Ki (show _=true from ?_) rfl
     rw [y2,y1,q1,q2];rfl
    ·rw [y0,e2] at b2;cases b2
end Go.Proofs.Ytbpffdkemeoajaa
