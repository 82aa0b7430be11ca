/- - -/
import Derived.Test.YtbpffdkemeoajaaProg
import Derived.Test.YtbpffdkemeoajaaMvm
import Derived.Test.YtbpffdkemeoajaaMvn
import Derived.KernelRfl
open Go.IntKind (i64)
set_option maxRecDepth 100000
namespace Go.Proofs.Ytbpffdkemeoajaa
open Go.SX
theorem W8:Try.prog.follows .mixedOrders=true:=by kernel_rfl
abbrev Tab:=FuncId→Option FC
def zp:Tab:=fun _=>none
def Qb(C:Tab)(f:FuncId)(fc:FC):Tab:=fun g=>match g==f with
 | true=>some fc
 | false=>C g
def QV(C:Tab):Prop:=∀ f fc,C f=some fc→QQ Try.prog f fc
theorem QV.add{C:Tab}(h:QV C){f:FuncId}{fc:FC}(hf:QQ Try.prog f fc):QV (Qb C f fc):=by
 intro g fc' e;unfold Qb at e;split at e
 ·rename_i hg;simp only[qsI]at e;subst e;have:g=f:=by simpa using hg
  subst this;exact hf
 ·exact h g fc' e
theorem QFM:QV zp:=fun _ _ h=>by cases h
instance : Enc Sp where
  enc x := .agg [.int false .i64 x.lo,.int false .i64 x.hi]
  dec | .agg [.int _ .i64 a0,.int _ .i64 a1] => some ⟨a0,a1⟩ | _ => none
  ok v x h := by
    split at h <;> (try (cases h; done))
    simp only[qsI]at h; subst h; exact⟨fun _ => rfl,rfl⟩
instance : Enc Edge where
  enc x := .agg [.int false .i64 x.kind,.int false .i64 x.at_.lo,.int false .i64 x.at_.hi,.int false .i64 x.wide.lo,.int false .i64 x.wide.hi,.int false .i64 x.deep.lo,.int false .i64 x.deep.hi]
  dec | .agg [.int _ .i64 a0,.int _ .i64 a1,.int _ .i64 a2,.int _ .i64 a3,.int _ .i64 a4,.int _ .i64 a5,.int _ .i64 a6] => some ⟨a0,⟨a1,a2⟩,⟨a3,a4⟩,⟨a5,a6⟩⟩ | _ => none
  ok v x h := by
    split at h <;> (try (cases h; done))
    simp only[qsI]at h; subst h; exact⟨fun _ => rfl,rfl⟩
instance : Enc Qk where
  enc x := .agg [.int false .i64 x.length,.int false .i64 x.slack,.int false .i64 x.loose,.int false .i64 x.damp.lo,.int false .i64 x.damp.hi]
  dec | .agg [.int _ .i64 a0,.int _ .i64 a1,.int _ .i64 a2,.int _ .i64 a3,.int _ .i64 a4] => some ⟨a0,a1,a2,⟨a3,a4⟩⟩ | _ => none
  ok v x h := by
    split at h <;> (try (cases h; done))
    simp only[qsI]at h; subst h; exact⟨fun _ => rfl,rfl⟩
structure Qs where
 p:Qk
 t:Edge
 h:Edge
inductive D where
 | off (c:Qs)
 | wide (c:Qs)
 | deep (c:Qs)
instance : Enc Qs where
  enc x := .agg [.int false .i64 x.p.length,.int false .i64 x.p.slack,.int false .i64 x.p.loose,.int false .i64 x.p.damp.lo,.int false .i64 x.p.damp.hi,
    .int false .i64 x.t.kind,.int false .i64 x.t.at_.lo,.int false .i64 x.t.at_.hi,.int false .i64 x.t.wide.lo,.int false .i64 x.t.wide.hi,.int false .i64 x.t.deep.lo,.int false .i64 x.t.deep.hi,
    .int false .i64 x.h.kind,.int false .i64 x.h.at_.lo,.int false .i64 x.h.at_.hi,.int false .i64 x.h.wide.lo,.int false .i64 x.h.wide.hi,.int false .i64 x.h.deep.lo,.int false .i64 x.h.deep.hi]
  dec | .agg [.int _ .i64 p0,.int _ .i64 p1,.int _ .i64 p2,.int _ .i64 p3,.int _ .i64 p4,
      .int _ .i64 a0,.int _ .i64 a1,.int _ .i64 a2,.int _ .i64 a3,.int _ .i64 a4,.int _ .i64 a5,.int _ .i64 a6,
      .int _ .i64 b0,.int _ .i64 b1,.int _ .i64 b2,.int _ .i64 b3,.int _ .i64 b4,.int _ .i64 b5,.int _ .i64 b6] =>
        some ⟨⟨p0,p1,p2,⟨p3,p4⟩⟩,⟨a0,⟨a1,a2⟩,⟨a3,a4⟩,⟨a5,a6⟩⟩,⟨b0,⟨b1,b2⟩,⟨b3,b4⟩,⟨b5,b6⟩⟩⟩
      | _ => none
  ok v x h := by
    split at h <;> (try (cases h; done))
    simp only[qsI]at h; subst h; exact⟨fun _ => rfl,rfl⟩
instance : Enc D where
  enc | .off c => .ifc 167 (Enc.enc c)
      | .wide c => .ifc 168 (Enc.enc c)
      | .deep c => .ifc 169 (Enc.enc c)
  dec | .ifc t v => match (Enc.dec v : Option Qs)with
        | some c => if t = 167 then some (.off c)else if t = 168 then some (.wide c)else if t = 169 then some (.deep c)else none
        | none => none
      | _ => none
  ok v x h := by
    split at h <;> (try (cases h; done))
    split at h <;> (try (cases h; done))
    rename_i t v c hc;have h1 := Enc.ok _ c hc;split at h
    · rename_i e; simp only[qsI]at h; subst h e
      exact⟨fun r => by simp only[AV.den]; rw[h1.1 r],h1.2⟩
    · split at h
      · rename_i e; simp only[qsI]at h; subst h e
        exact⟨fun r => by simp only[AV.den]; rw[h1.1 r],h1.2⟩
      · split at h <;> (try (cases h; done))
        rename_i e; simp only[qsI]at h; subst h e;exact⟨fun r => by simp only[AV.den]; rw[h1.1 r],h1.2⟩
theorem w64{n:Int}(h1 : -9223372036854775808≤n)(h2:n≤9223372036854775807):i64.wrap n=n:=IntWalk.i64_in n ⟨h1,h2⟩
def Jz(e:Edge):Prop:=(0≤e.at_.lo∧e.at_.lo≤10000∧0≤e.at_.hi∧e.at_.hi≤10000)∧(0≤e.wide.lo∧e.wide.lo≤3000∧0≤e.wide.hi∧e.wide.hi≤3000)∧(0≤e.deep.lo∧e.deep.lo≤3000∧0≤e.deep.hi∧e.deep.hi≤3000)
def Jq(p:Qk):Prop:=(1≤p.length∧p.length≤10000)∧(0≤p.slack∧p.slack≤500)∧(0≤p.loose∧p.loose≤500)∧(0≤p.damp.lo∧p.damp.lo≤100)∧0≤p.damp.hi∧p.damp.hi≤100
def Qs.B(c:Qs):Prop:=Jq c.p∧Jz c.t∧Jz c.h
instance (e : Edge) : Decidable (Jz e) := by unfold Jz; infer_instance
instance (p : Qk) : Decidable (Jq p) := by unfold Jq; infer_instance
instance (c : Qs) : Decidable c.B := by unfold Qs.B; infer_instance
def D.by_:D→Sp
 | .off c=>Qd c.p c.t c.h
 | .wide c=>Qe c.t c.h
 | .deep c=>Qf c.t c.h
def D.lo:D→Int
 | .off c => -c.p.slack
 | _=>0
def D.hi:D→Int
 | .off c=>c.p.slack
 | .wide c=>c.p.loose
 | .deep c=>c.p.loose
def D.c:D→Qs
 | .off c=>c
 | .wide c=>c
 | .deep c=>c
abbrev mkE(P:Program)(C:Tab):Env:=⟨P,C,Zs P,false,fun _=>false,false,false,false⟩
theorem QS{C:Tab}(hC:QV C):(mkE Try.prog C).Sound:={ c:=hC,m:=jc Try.prog,mixed:=W8 }
abbrev mkF(P:Program)(C:Tab):Env:=⟨P,C,Zs P,false,fun _=>false,false,false,true⟩
theorem qb{C:Tab}(hC:QV C):(mkF Try.prog C).Sound:={ c:=hC,m:=jc Try.prog,mixed:=W8 }
abbrev mkS(P:Program)(C:Tab):Env:=⟨P,C,Zs P,true,fun _=>false,false,false,false⟩
theorem Xl{C:Tab}(hC:QV C):(mkS Try.prog C).Sound:={ c:=hC,m:=jc Try.prog,mixed:=W8 }
def binds(fs:List FuncId):Op→Bool
 | .call ⟨.value (.func f),_,_⟩=>fs.contains f
 | .binOp .mul _ _ _ _=>true
 | _=>false
def Qr(fn:Func):Code:=fn.body.getD .skip
theorem KC{C:Tab}(hC:QV C)(d:Nat){f:FuncId}{fn:Func}(hf:Try.prog.funcs[f]? = some fn)(hb:fn.body=some (Qr fn))(hgo:JY Try.prog f=true){α:Type}[Qm α]{F:α→Bool×AV}(hF:∀ x,(F x).1=true→(Q2 (mkE Try.prog C) (hnd (mkE Try.prog C) d) false fn (Qm.enc x) [] 0).den fun u _=>u.same (F x).2):QQ Try.prog f (Q5 (Q6 F)):=
 QC0 (QS hC) hf hb hgo (fun G _ hG=>Q3 (QS hC) d G _ hG) hF
def QLO:Sp×Int×Int×Unit→Bool×AV:=fun|(s,(a,(b,_)))=>(true,.bool false (s.isIn a b))
def QF3:FC:=Q5 (Q6 QLO)
theorem QUz(s:Sp)(a:Int)(b:Int):Q2 (mkE Try.prog zp) (hnd (mkE Try.prog zp) 0) false Try.f82 (Qm.enc ((s,a,b,()):Sp×Int×Int×Unit)) [] 0 =
  QC.br (decide (a≤s.lo)) (QC.br (decide (s.lo≤s.hi)) (QC.leaf (AV.bool false (decide (s.hi≤b))) ([])) (QC.leaf (AV.bool true false) ([]))) (QC.leaf (AV.bool true
  false) ([])):=by kernel_rfl
theorem QRA:QQ Try.prog 82 QF3:=by
 refine KC QFM 0 Try.func82 (by kernel_rfl) (by kernel_rfl) ?_
 rintro⟨s,a,b,⟨⟩⟩ hp;rw[QUz s a b];simp only[QLO,QC.den,AV.same,AV.sameL,and_true,true_and]at hp ⊢
 (repeat' (first|(refine And.intro ?_ ?_)|(intro _)))<;>simp_all [Sp.isIn]<;>omega
def QAa:Tab:=Qb zp 82 QF3
theorem QG5:QV QAa:=QFM.add QRA
def QHd:Int×Int×Int×Unit→Bool×AV:=fun|(n,(a,(b,_)))=>(true,.bool false (QY n a b))
def QEx:FC:=Q5 (Q6 QHd)
theorem QVE(n:Int)(a:Int)(b:Int):Q2 (mkE Try.prog QAa) (hnd (mkE Try.prog QAa) 0) false Try.f81 (Qm.enc ((n,a,b,()):Int×Int×Int×Unit)) [] 0 =
  QC.br (decide (a≤n)) (QC.leaf (AV.bool false (decide (n≤b))) ([])) (QC.leaf (AV.bool true false) ([])):=by kernel_rfl
theorem QNv:QQ Try.prog 81 QEx:=by
 refine KC QG5 0 Try.func81 (by kernel_rfl) (by kernel_rfl) ?_
 rintro⟨n,a,b,⟨⟩⟩ hp;rw[QVE n a b];simp only[QHd,QC.den,AV.same,AV.sameL,and_true,true_and]at hp ⊢
 (repeat' (first|(refine And.intro ?_ ?_)|(intro _)))<;>simp_all [QY]<;>omega
def QA3:Tab:=Qb QAa 81 QEx
theorem QGe:QV QA3:=QG5.add QNv
def QLr:Edge×Unit→Bool×AV:=fun|(a,_)=>(true,.bool false a.ok)
def QFh:FC:=Q5 (Q6 QLr)
theorem QR0(a:Edge):Q2 (mkE Try.prog QA3) (hnd (mkE Try.prog QA3) 0) false Try.f85 (Qm.enc ((a,()):Edge×Unit)) [] 0 =
  QC.br (a.kind==(0:Int)) (QC.leaf (AV.bool true true) ([])) (QC.br (a.kind==(1:Int)) (QC.need (true) (QC.br (a.at_.isIn (0:Int) (10000:Int)) (QC.need (true)
  (QC.br (a.wide.isIn (1:Int) (3000:Int)) (QC.need (true) (QC.leaf (AV.bool false (a.deep.isIn (1:Int) (3000:Int))) ([]))) (QC.leaf (AV.bool true false) ([]))))
  (QC.leaf (AV.bool true false) ([])))) (QC.br (a.kind==(2:Int)) (QC.need (true) (QC.br (a.at_.isIn (0:Int) (10000:Int)) (QC.need (true) (QC.br (a.wide.isIn (1 :
  Int) (3000:Int)) (QC.need (true) (QC.leaf (AV.bool false (a.deep.isIn (1:Int) (3000:Int))) ([]))) (QC.leaf (AV.bool true false) ([])))) (QC.leaf (AV.bool true false)
  ([])))) (QC.leaf (AV.bool true false) ([])))):=by kernel_rfl
theorem QVk:QQ Try.prog 85 QFh:=by
 refine KC QGe 0 Try.func85 (by kernel_rfl) (by kernel_rfl) ?_
 rintro⟨a,⟨⟩⟩ hp;rw[QR0 a];simp only[QLr,QC.den,AV.same,AV.sameL,and_true,true_and]at hp ⊢
 (repeat' (first|(refine And.intro ?_ ?_)|(intro _)))<;>simp_all [Edge.ok]
def QAl:Tab:=Qb QA3 85 QFh
theorem QLM:QV QAl:=QGe.add QVk
def QI6:Qk×Unit→Bool×AV:=fun|(p,_)=>(true,.bool false p.ok)
def QMP:FC:=Q5 (Q6 QI6)
theorem QTX(p:Qk):Q2 (mkE Try.prog QAl) (hnd (mkE Try.prog QAl) 0) false Try.f59 (Qm.enc ((p,()):Qk×Unit)) [] 0 =
  QC.need (true) (QC.br (QY p.length (1:Int) (10000:Int)) (QC.need (true) (QC.br (QY p.slack (0:Int) (500:Int)) (QC.need (true) (QC.br (QY p.loose (0 :
  Int) (500:Int)) (QC.need (true) (QC.leaf (AV.bool false (p.damp.isIn (0:Int) (100:Int))) ([]))) (QC.leaf (AV.bool true false) ([])))) (QC.leaf (AV.bool true false)
  ([])))) (QC.leaf (AV.bool true false) ([]))):=by kernel_rfl
theorem QRB:QQ Try.prog 59 QMP:=by
 refine KC QLM 0 Try.func59 (by kernel_rfl) (by kernel_rfl) ?_
 rintro⟨p,⟨⟩⟩ hp;rw[QTX p];simp only[QI6,QC.den,AV.same,AV.sameL,and_true,true_and]at hp ⊢
 (repeat' (first|(refine And.intro ?_ ?_)|(intro _)))<;>simp_all [Qk.ok]
def Hy:Tab:=Qb QAl 59 QMP
theorem QLi:QV Hy:=QLM.add QRB
def QL4:Sp×Sp×Unit→Bool×AV:=fun|(s,(o,_))=>(decide (Sm s.lo∧Sm s.hi∧Sm o.lo∧Sm o.hi),Enc.enc (s.less o))
def QFK:FC:=Q5 (Q6 QL4)
theorem QVP(s:Sp)(o:Sp):Q2 (mkE Try.prog Hy) (hnd (mkE Try.prog Hy) 0) false Try.f132 (Qm.enc ((s,o,()):Sp×Sp×Unit)) [] 0 =
  QC.leaf (AV.agg [AV.int false i64 (i64.wrap (s.lo-o.hi)),AV.int false i64 (i64.wrap (s.hi-o.lo))]) ([]):=by kernel_rfl
theorem QRb:QQ Try.prog 132 QFK:=by
 refine KC QLi 0 Try.func132 (by kernel_rfl) (by kernel_rfl) ?_
 rintro⟨s,o,⟨⟩⟩ hp;rw[QVP s o];simp only[QL4,QC.den,AV.same,AV.sameL,and_true,true_and]at hp ⊢;have hp:=qdt hp;unfold Sm at hp;simp only[Sp.less,Enc.enc,AV.same,AV.sameL];rw[w64 (by omega) (by omega),w64 (by omega) (by omega)];simp
def QAY:Tab:=Qb Hy 132 QFK
theorem QI3:QV QAY:=QLi.add QRb
def QG1:Sp×Sp×Unit→Bool×AV:=fun|(s,(o,_))=>(decide (Sm s.lo∧Sm s.hi∧Sm o.lo∧Sm o.hi),Enc.enc (s.plus o))
def QF1:FC:=Q5 (Q6 QG1)
theorem QUv(s:Sp)(o:Sp):Q2 (mkE Try.prog QAY) (hnd (mkE Try.prog QAY) 0) false Try.f129 (Qm.enc ((s,o,()):Sp×Sp×Unit)) [] 0 =
  QC.leaf (AV.agg [AV.int false i64 (i64.wrap (s.lo+o.lo)),AV.int false i64 (i64.wrap (s.hi+o.hi))]) ([]):=by kernel_rfl
theorem QUa:QQ Try.prog 129 QF1:=by
 refine KC QI3 0 Try.func129 (by kernel_rfl) (by kernel_rfl) ?_
 rintro⟨s,o,⟨⟩⟩ hp;rw[QUv s o];simp only[QG1,QC.den,AV.same,AV.sameL,and_true,true_and]at hp ⊢;have hp:=qdt hp;unfold Sm at hp;simp only[Sp.plus,Enc.enc,AV.same,AV.sameL];rw[w64 (by omega) (by omega),w64 (by omega) (by omega)];simp
def HP:Tab:=Qb QAY 129 QF1
theorem QIt:QV HP:=QI3.add QUa
def QLB:Qs×Unit→Bool×AV:=fun|(c,_)=>(decide c.B,Enc.enc (Qd c.p c.t c.h))
def QMn:FC:=Q5 (Q6 QLB)
theorem QNx(c:Qs):Q2 (mkE Try.prog HP) (hnd (mkE Try.prog HP) 0) false Try.f128 (Qm.enc ((c,()):Qs×Unit)) [] 0 =
  QC.need (decide (Sm c.t.at_.lo∧Sm c.t.at_.hi∧Sm c.h.at_.lo∧Sm c.h.at_.hi)) (QC.need (decide (Sm (c.t.at_.plus c.h.at_).lo∧Sm (c.t.at_.plus c.h.at_).hi∧Sm
  (i64.wrap ((0:Int)-c.p.length))∧Sm (i64.wrap ((0:Int)-c.p.length)))) (QC.leaf (AV.agg [AV.int false i64 ((c.t.at_.plus c.h.at_).plus (Sp.mk
  (i64.wrap ((0:Int)-c.p.length)) (i64.wrap ((0:Int)-c.p.length)))).lo,AV.int false i64 ((c.t.at_.plus c.h.at_).plus (Sp.mk (i64.wrap ((0 :
  Int)-c.p.length)) (i64.wrap ((0:Int)-c.p.length)))).hi]) ([]))):=by kernel_rfl
theorem QNz:QQ Try.prog 128 QMn:=by
 refine KC QIt 0 Try.func128 (by kernel_rfl) (by kernel_rfl) ?_
 rintro⟨c,⟨⟩⟩ hp;rw[QNx c];simp only[QLB,QC.den,AV.same,AV.sameL,and_true,true_and]at hp ⊢;have hp:=qdt hp;obtain⟨h1,h2,h3⟩:=hp;unfold Jq at h1;unfold Jz at h2 h3;have e:i64.wrap (0-c.p.length) = -c.p.length:=by rw[w64 (by omega) (by omega)];omega
 rw[e];refine⟨decide_eq_true (by unfold Sm;omega),decide_eq_true (by unfold Sm Sp.plus;simp only;omega),?_⟩
 simp[Qd,Sp.plus,Enc.enc,AV.same,AV.sameL]
def HM:Tab:=Qb HP 128 QMn
theorem QFE:QV HM:=QIt.add QNz
def QGy:Qs×Unit→Bool×AV:=fun|(c,_)=>(decide c.B,Enc.enc (Qe c.t c.h))
def QF7:FC:=Q5 (Q6 QGy)
theorem QTw(c:Qs):Q2 (mkE Try.prog HM) (hnd (mkE Try.prog HM) 0) false Try.f131 (Qm.enc ((c,()):Qs×Unit)) [] 0 =
  QC.need (decide (Sm c.h.wide.lo∧Sm c.h.wide.hi∧Sm c.t.wide.lo∧Sm c.t.wide.hi)) (QC.leaf (AV.agg [AV.int false i64 (c.h.wide.less c.t.wide).lo,AV.int false
  i64 (c.h.wide.less c.t.wide).hi]) ([])):=by kernel_rfl
theorem QRG:QQ Try.prog 131 QF7:=by
 refine KC QFE 0 Try.func131 (by kernel_rfl) (by kernel_rfl) ?_
 rintro⟨c,⟨⟩⟩ hp;rw[QTw c];simp only[QGy,QC.den,AV.same,AV.sameL,and_true,true_and]at hp ⊢;have hp:=qdt hp;obtain⟨h1,h2,h3⟩:=hp;unfold Jq at h1;unfold Jz at h2 h3;refine⟨decide_eq_true (by unfold Sm;omega),?_⟩
 simp[Qe,Sp.less,Enc.enc,AV.same,AV.sameL]
def z6:Tab:=Qb HM 131 QF7
theorem QJG:QV z6:=QFE.add QRG
def QGU:Qs×Unit→Bool×AV:=fun|(c,_)=>(decide c.B,Enc.enc (Qf c.t c.h))
def QLt:FC:=Q5 (Q6 QGU)
theorem QQh(c:Qs):Q2 (mkE Try.prog z6) (hnd (mkE Try.prog z6) 0) false Try.f134 (Qm.enc ((c,()):Qs×Unit)) [] 0 =
  QC.need (decide (Sm c.h.deep.lo∧Sm c.h.deep.hi∧Sm c.t.deep.lo∧Sm c.t.deep.hi)) (QC.leaf (AV.agg [AV.int false i64 (c.h.deep.less c.t.deep).lo,AV.int false
  i64 (c.h.deep.less c.t.deep).hi]) ([])):=by kernel_rfl
theorem QTl:QQ Try.prog 134 QLt:=by
 refine KC QJG 0 Try.func134 (by kernel_rfl) (by kernel_rfl) ?_
 rintro⟨c,⟨⟩⟩ hp;rw[QQh c];simp only[QGU,QC.den,AV.same,AV.sameL,and_true,true_and]at hp ⊢;have hp:=qdt hp;obtain⟨h1,h2,h3⟩:=hp;unfold Jq at h1;unfold Jz at h2 h3;refine⟨decide_eq_true (by unfold Sm;omega),?_⟩
 simp[Qf,Sp.less,Enc.enc,AV.same,AV.sameL]
def He:Tab:=Qb z6 134 QLt
theorem QJg:QV He:=QJG.add QTl
def QHZ:Qs×Unit→Bool×AV:=fun|(c,_)=>(decide c.B,.tup [.int false .i64 (-c.p.slack),.int false .i64 c.p.slack])
def QKn:FC:=Q5 (Q6 QHZ)
theorem QPW(c:Qs):Q2 (mkE Try.prog He) (hnd (mkE Try.prog He) 0) false Try.f127 (Qm.enc ((c,()):Qs×Unit)) [] 0 =
  QC.leaf (AV.tup [AV.int false i64 (i64.wrap ((0:Int)-c.p.slack)),AV.int false i64 c.p.slack]) ([]):=by kernel_rfl
theorem QNb:QQ Try.prog 127 QKn:=by
 refine KC QJg 0 Try.func127 (by kernel_rfl) (by kernel_rfl) ?_
 rintro⟨c,⟨⟩⟩ hp;rw[QPW c];simp only[QHZ,QC.den,AV.same,AV.sameL,and_true,true_and]at hp ⊢;have hp:=qdt hp;obtain⟨h1,h2,h3⟩:=hp;unfold Jq at h1;rw[w64 (by omega) (by omega)];omega
def QAy:Tab:=Qb He 127 QKn
theorem QME:QV QAy:=QJg.add QNb
def QGd:Qs×Unit→Bool×AV:=fun|(c,_)=>(decide c.B,.tup [.int false .i64 0,.int false .i64 c.p.loose])
def QJB:FC:=Q5 (Q6 QGd)
theorem QQX(c:Qs):Q2 (mkE Try.prog QAy) (hnd (mkE Try.prog QAy) 0) false Try.f130 (Qm.enc ((c,()):Qs×Unit)) [] 0 =
  QC.leaf (AV.tup [AV.int true i64 (0:Int),AV.int false i64 c.p.loose]) ([]):=by kernel_rfl
theorem QSY:QQ Try.prog 130 QJB:=by
 refine KC QME 0 Try.func130 (by kernel_rfl) (by kernel_rfl) ?_
 rintro⟨c,⟨⟩⟩ hp;rw[QQX c];simp only[QGd,QC.den,AV.same,AV.sameL,and_true,true_and]at hp ⊢
def Gn:Tab:=Qb QAy 130 QJB
theorem QFJ:QV Gn:=QME.add QSY
def QG6:Qs×Unit→Bool×AV:=fun|(c,_)=>(decide c.B,.tup [.int false .i64 0,.int false .i64 c.p.loose])
def QI5:FC:=Q5 (Q6 QG6)
theorem QN8(c:Qs):Q2 (mkE Try.prog Gn) (hnd (mkE Try.prog Gn) 0) false Try.f133 (Qm.enc ((c,()):Qs×Unit)) [] 0 =
  QC.leaf (AV.tup [AV.int true i64 (0:Int),AV.int false i64 c.p.loose]) ([]):=by kernel_rfl
theorem QVJ:QQ Try.prog 133 QI5:=by
 refine KC QFJ 0 Try.func133 (by kernel_rfl) (by kernel_rfl) ?_
 rintro⟨c,⟨⟩⟩ hp;rw[QN8 c];simp only[QG6,QC.den,AV.same,AV.sameL,and_true,true_and]at hp ⊢
def ZA:Tab:=Qb Gn 133 QI5
theorem QKZ:QV ZA:=QFJ.add QVJ
variable {sl sh hi:Int}
theorem zL{lo dh:Int}(h1 : -100000≤sl∧sl≤100000)(h2 : -100000≤sh∧sh≤100000)(h3 : -500≤lo∧lo≤500)(h4 : -500≤hi∧hi≤500)(h5:0≤dh∧dh≤100):
  (decide (i64.wrap (sl*i64.wrap (1000+dh))≥i64.wrap (1000*lo))=true→decide (i64.wrap (sh*i64.wrap (1000+dh))≤i64.wrap (1000*hi))=KW sl sh lo hi dh) ∧
  (decide (i64.wrap (sl*i64.wrap (1000+dh))≥i64.wrap (1000*lo))=false→false=KW sl sh lo hi dh):=by
 obtain⟨m1,m2⟩:=QDN (a:=sl) (m:=1000+dh) (by omega) (by omega) (by omega) (by omega)
 obtain⟨m3,m4⟩:=QDN (a:=sh) (m:=1000+dh) (by omega) (by omega) (by omega) (by omega)
 rw[w64 (n:=1000+dh) (by omega) (by omega),w64 (n:=sl*_) (by omega) (by omega),w64 (n:=sh*_) (by omega) (by omega),w64 (n:=1000*lo) (by omega) (by omega),w64 (n:=1000*hi) (by omega) (by omega)]
 exact⟨fun h=>QOM (qdt h),fun h=>QRw (by have:=of_decide_eq_false h;omega)⟩
theorem zn{lo dl:Int}(h1 : -100000≤sl∧sl≤100000)(h2 : -100000≤sh∧sh≤100000)(h3 : -500≤lo∧lo≤500)(h4 : -500≤hi∧hi≤500)(h5:0≤dl∧dl≤100):
  (decide (i64.wrap (1000*lo)≤i64.wrap (min (max 0 sl) sh*i64.wrap (1000+dl)))=true→decide (i64.wrap (min (max 0 sl) sh*i64.wrap (1000+dl))≤i64.wrap (1000*hi))=Qp sl sh lo hi dl) ∧
  (decide (i64.wrap (1000*lo)≤i64.wrap (min (max 0 sl) sh*i64.wrap (1000+dl)))=false→false=Qp sl sh lo hi dl):=by
 obtain⟨m1,m2⟩:=QDN (a:=min (max 0 sl) sh) (m:=1000+dl) (by omega) (by omega) (by omega) (by omega)
 rw[w64 (n:=1000+dl) (by omega) (by omega),w64 (n:=min (max 0 sl) sh*_) (by omega) (by omega),w64 (n:=1000*lo) (by omega) (by omega),w64 (n:=1000*hi) (by omega) (by omega)]
 exact⟨fun h=>QPb (qdt h),fun h=>QRl (by have:=of_decide_eq_false h;omega)⟩
theorem QJD:i64.wrap (1000*0)=0:=by decide
theorem QDc{dh:Int}(h1 : -100000≤sl∧sl≤100000)(h2 : -100000≤sh∧sh≤100000)(h4 : -500≤hi∧hi≤500)(h5:0≤dh∧dh≤100):
  (decide (i64.wrap (sl*i64.wrap (1000+dh))≥0)=true→decide (i64.wrap (sh*i64.wrap (1000+dh))≤i64.wrap (1000*hi))=KW sl sh 0 hi dh) ∧
  (decide (i64.wrap (sl*i64.wrap (1000+dh))≥0)=false→false=KW sl sh 0 hi dh):=by
 have:=zL (lo:=0) h1 h2 (by omega) h4 h5
 rw[QJD]at this;exact this
theorem QEW{dl:Int}(h1 : -100000≤sl∧sl≤100000)(h2 : -100000≤sh∧sh≤100000)(h4 : -500≤hi∧hi≤500)(h5:0≤dl∧dl≤100):
  (decide (0≤i64.wrap (min (max 0 sl) sh*i64.wrap (1000+dl)))=true→decide (i64.wrap (min (max 0 sl) sh*i64.wrap (1000+dl))≤i64.wrap (1000*hi))=Qp sl sh 0 hi dl) ∧
  (decide (0≤i64.wrap (min (max 0 sl) sh*i64.wrap (1000+dl)))=false→false=Qp sl sh 0 hi dl):=by
 have:=zn (lo:=0) h1 h2 (by omega) h4 h5
 rw[QJD]at this;exact this
def H8:Qs×D×Unit→Bool×AV:=fun|(x,(d,_))=>(decide (x.B∧d.c.B),.bool false (KW d.by_.lo d.by_.hi d.lo d.hi x.p.damp.hi))
def QIc:FC:=Q5 (Q6 H8)
theorem QOn(x:Qs)(c:Qs):Q2 (mkE Try.prog ZA) (hnd (mkE Try.prog ZA) 0) false Try.f97 (Qm.enc ((x,(D.off c),()):Qs×D×Unit)) [] 0 =
  QC.need (decide c.B) (QC.need (decide c.B) (QC.br (decide (i64.wrap ((Qd c.p c.t c.h).lo*i64.wrap ((1000:Int)+x.p.damp.hi))≥i64.wrap ((1000
  : Int) * -c.p.slack))) (QC.leaf (AV.bool false (decide (i64.wrap ((Qd c.p c.t c.h).hi*i64.wrap ((1000:Int)+x.p.damp.hi))≤i64.wrap ((1000:Int)
  * c.p.slack)))) ([])) (QC.leaf (AV.bool true false) ([])))):=by kernel_rfl
theorem QQt(x:Qs)(c:Qs):Q2 (mkE Try.prog ZA) (hnd (mkE Try.prog ZA) 0) false Try.f97 (Qm.enc ((x,(D.wide c),()):Qs×D×Unit)) [] 0 =
  QC.need (decide c.B) (QC.need (decide c.B) (QC.br (decide (i64.wrap ((Qe c.t c.h).lo*i64.wrap ((1000:Int)+x.p.damp.hi))≥(0:Int))) (QC.leaf
  (AV.bool false (decide (i64.wrap ((Qe c.t c.h).hi*i64.wrap ((1000:Int)+x.p.damp.hi))≤i64.wrap ((1000:Int)*c.p.loose)))) ([])) (QC.leaf
  (AV.bool true false) ([])))):=by kernel_rfl
theorem QR7(x:Qs)(c:Qs):Q2 (mkE Try.prog ZA) (hnd (mkE Try.prog ZA) 0) false Try.f97 (Qm.enc ((x,(D.deep c),()):Qs×D×Unit)) [] 0 =
  QC.need (decide c.B) (QC.need (decide c.B) (QC.br (decide (i64.wrap ((Qf c.t c.h).lo*i64.wrap ((1000:Int)+x.p.damp.hi))≥(0:Int))) (QC.leaf
  (AV.bool false (decide (i64.wrap ((Qf c.t c.h).hi*i64.wrap ((1000:Int)+x.p.damp.hi))≤i64.wrap ((1000:Int)*c.p.loose)))) ([])) (QC.leaf
  (AV.bool true false) ([])))):=by kernel_rfl
theorem QS2:QQ Try.prog 97 QIc:=by
 refine KC QKZ 0 Try.func97 (by kernel_rfl) (by kernel_rfl) ?_
 rintro⟨x,(c|c|c),⟨⟩⟩ hp
 ·rw[QOn x c];simp only[H8,QC.den,AV.same,AV.sameL,and_true,true_and]at hp ⊢;have hq:=qdt hp;obtain⟨⟨hx,_⟩,hc⟩:=hq;refine⟨decide_eq_true hc,decide_eq_true hc,?_⟩;obtain⟨h1,h2,h3⟩:=hc;unfold Jq at h1 hx;unfold Jz at h2 h3;simp only[D.c]at h1 h2 h3
  first
   | (refine zL ?_ ?_ ?_ ?_ ?_<;>(try simp only[Qd,Qe,Qf])<;>omega)
   | (refine QDc ?_ ?_ ?_ ?_<;>(try simp only[Qd,Qe,Qf])<;>omega)
 ·rw[QQt x c];simp only[H8,QC.den,AV.same,AV.sameL,and_true,true_and]at hp ⊢;have hq:=qdt hp;obtain⟨⟨hx,_⟩,hc⟩:=hq;refine⟨decide_eq_true hc,decide_eq_true hc,?_⟩;obtain⟨h1,h2,h3⟩:=hc;unfold Jq at h1 hx;unfold Jz at h2 h3;simp only[D.c]at h1 h2 h3
  first
   | (refine zL ?_ ?_ ?_ ?_ ?_<;>(try simp only[Qd,Qe,Qf])<;>omega)
   | (refine QDc ?_ ?_ ?_ ?_<;>(try simp only[Qd,Qe,Qf])<;>omega)
 ·rw[QR7 x c];simp only[H8,QC.den,AV.same,AV.sameL,and_true,true_and]at hp ⊢;have hq:=qdt hp;obtain⟨⟨hx,_⟩,hc⟩:=hq;refine⟨decide_eq_true hc,decide_eq_true hc,?_⟩;obtain⟨h1,h2,h3⟩:=hc;unfold Jq at h1 hx;unfold Jz at h2 h3;simp only[D.c]at h1 h2 h3
  first
   | (refine zL ?_ ?_ ?_ ?_ ?_<;>(try simp only[Qd,Qe,Qf])<;>omega)
   | (refine QDc ?_ ?_ ?_ ?_<;>(try simp only[Qd,Qe,Qf])<;>omega)
def ZX:Tab:=Qb ZA 97 QIc
theorem QIS:QV ZX:=QKZ.add QS2
def Hk:Qs×D×Unit→Bool×AV:=fun|(x,(d,_))=>(decide (x.B∧d.c.B),.bool false (Qp d.by_.lo d.by_.hi d.lo d.hi x.p.damp.lo))
def QJ4:FC:=Q5 (Q6 Hk)
theorem QSe(x:Qs)(c:Qs):Q2 (mkE Try.prog ZX) (hnd (mkE Try.prog ZX) 0) false Try.f98 (Qm.enc ((x,(D.off c),()):Qs×D×Unit)) [] 0 =
  QC.need (decide c.B) (QC.need (decide c.B) (QC.br (decide (i64.wrap ((1000:Int) * -c.p.slack)≤i64.wrap (min (max (0:Int) (Qd c.p c.t c.h).lo) (Qd
  c.p c.t c.h).hi*i64.wrap ((1000:Int)+x.p.damp.lo)))) (QC.leaf (AV.bool false (decide (i64.wrap (min (max (0:Int) (Qd c.p c.t c.h).lo) (Qd c.p c.t
  c.h).hi*i64.wrap ((1000:Int)+x.p.damp.lo))≤i64.wrap ((1000:Int)*c.p.slack)))) ([])) (QC.leaf (AV.bool true false) ([])))):=by kernel_rfl
theorem QSH(x:Qs)(c:Qs):Q2 (mkE Try.prog ZX) (hnd (mkE Try.prog ZX) 0) false Try.f98 (Qm.enc ((x,(D.wide c),()):Qs×D×Unit)) [] 0 =
  QC.need (decide c.B) (QC.need (decide c.B) (QC.br (decide ((0:Int)≤i64.wrap (min (max (0:Int) (Qe c.t c.h).lo) (Qe c.t c.h).hi*i64.wrap ((1000
  : Int)+x.p.damp.lo)))) (QC.leaf (AV.bool false (decide (i64.wrap (min (max (0:Int) (Qe c.t c.h).lo) (Qe c.t c.h).hi*i64.wrap ((1000:Int) +
  x.p.damp.lo))≤i64.wrap ((1000:Int)*c.p.loose)))) ([])) (QC.leaf (AV.bool true false) ([])))):=by kernel_rfl
theorem QNW(x:Qs)(c:Qs):Q2 (mkE Try.prog ZX) (hnd (mkE Try.prog ZX) 0) false Try.f98 (Qm.enc ((x,(D.deep c),()):Qs×D×Unit)) [] 0 =
  QC.need (decide c.B) (QC.need (decide c.B) (QC.br (decide ((0:Int)≤i64.wrap (min (max (0:Int) (Qf c.t c.h).lo) (Qf c.t c.h).hi*i64.wrap ((1000
  : Int)+x.p.damp.lo)))) (QC.leaf (AV.bool false (decide (i64.wrap (min (max (0:Int) (Qf c.t c.h).lo) (Qf c.t c.h).hi*i64.wrap ((1000:Int) +
  x.p.damp.lo))≤i64.wrap ((1000:Int)*c.p.loose)))) ([])) (QC.leaf (AV.bool true false) ([])))):=by kernel_rfl
theorem QT5:QQ Try.prog 98 QJ4:=by
 refine KC QIS 0 Try.func98 (by kernel_rfl) (by kernel_rfl) ?_
 rintro⟨x,(c|c|c),⟨⟩⟩ hp
 ·rw[QSe x c];simp only[Hk,QC.den,AV.same,AV.sameL,and_true,true_and]at hp ⊢;have hq:=qdt hp;obtain⟨⟨hx,_⟩,hc⟩:=hq;refine⟨decide_eq_true hc,decide_eq_true hc,?_⟩;obtain⟨h1,h2,h3⟩:=hc;unfold Jq at h1 hx;unfold Jz at h2 h3;simp only[D.c]at h1 h2 h3
  first
   | (refine zn ?_ ?_ ?_ ?_ ?_<;>(try simp only[Qd,Qe,Qf])<;>omega)
   | (refine QEW ?_ ?_ ?_ ?_<;>(try simp only[Qd,Qe,Qf])<;>omega)
 ·rw[QSH x c];simp only[Hk,QC.den,AV.same,AV.sameL,and_true,true_and]at hp ⊢;have hq:=qdt hp;obtain⟨⟨hx,_⟩,hc⟩:=hq;refine⟨decide_eq_true hc,decide_eq_true hc,?_⟩;obtain⟨h1,h2,h3⟩:=hc;unfold Jq at h1 hx;unfold Jz at h2 h3;simp only[D.c]at h1 h2 h3
  first
   | (refine zn ?_ ?_ ?_ ?_ ?_<;>(try simp only[Qd,Qe,Qf])<;>omega)
   | (refine QEW ?_ ?_ ?_ ?_<;>(try simp only[Qd,Qe,Qf])<;>omega)
 ·rw[QNW x c];simp only[Hk,QC.den,AV.same,AV.sameL,and_true,true_and]at hp ⊢;have hq:=qdt hp;obtain⟨⟨hx,_⟩,hc⟩:=hq;refine⟨decide_eq_true hc,decide_eq_true hc,?_⟩;obtain⟨h1,h2,h3⟩:=hc;unfold Jq at h1 hx;unfold Jz at h2 h3;simp only[D.c]at h1 h2 h3
  first
   | (refine zn ?_ ?_ ?_ ?_ ?_<;>(try simp only[Qd,Qe,Qf])<;>omega)
   | (refine QEW ?_ ?_ ?_ ?_<;>(try simp only[Qd,Qe,Qf])<;>omega)
def QAG:Tab:=Qb ZX 98 QJ4
theorem QJt:QV QAG:=QIS.add QT5
def QJh:Qs×Unit→Bool×AV:=fun|(x,_)=>(decide x.B,.int false .i64 (Yg x.p x.t x.h))
def QIk:FC:=Q5 (Q6 QJh)
theorem QPO(x:Qs):Q2 (mkE Try.prog QAG) (hnd (mkE Try.prog QAG) 14) false Try.f87 (Qm.enc ((x,()):Qs×Unit)) [] 0 = .need (decide (x.B∧(D.off x).c.B)) (.br (!KW
  (D.off x).by_.lo (D.off x).by_.hi (D.off x).lo (D.off x).hi x.p.damp.hi) (.need (decide (x.B∧(D.off x).c.B)) (.br (!Qp (D.off x).by_.lo (D.off x).by_.hi (D.off x).lo (D.off
  x).hi x.p.damp.lo) (.leaf (.int true .i64 0) ([])) (.need (decide (x.B∧(D.wide x).c.B)) (.br (!Qp (D.wide x).by_.lo (D.wide x).by_.hi (D.wide x).lo (D.wide x).hi
  x.p.damp.lo) (.leaf (.int true .i64 0) ([])) (.need (decide (x.B∧(D.deep x).c.B)) (.br (!Qp (D.deep x).by_.lo (D.deep x).by_.hi (D.deep x).lo (D.deep x).hi x.p.damp.lo)
  (.leaf (.int true .i64 0) ([])) (.leaf (.int true .i64 1) ([])))))))) (.need (decide (x.B∧(D.wide x).c.B)) (.br (!KW (D.wide x).by_.lo (D.wide x).by_.hi (D.wide x).lo (D.wide
  x).hi x.p.damp.hi) (.need (decide (x.B∧(D.off x).c.B)) (.br (!Qp (D.off x).by_.lo (D.off x).by_.hi (D.off x).lo (D.off x).hi x.p.damp.lo) (.leaf (.int true .i64 0) ([]))
  (.need (decide (x.B∧(D.wide x).c.B)) (.br (!Qp (D.wide x).by_.lo (D.wide x).by_.hi (D.wide x).lo (D.wide x).hi x.p.damp.lo) (.leaf (.int true .i64 0) ([])) (.need (decide
  (x.B∧(D.deep x).c.B)) (.br (!Qp (D.deep x).by_.lo (D.deep x).by_.hi (D.deep x).lo (D.deep x).hi x.p.damp.lo) (.leaf (.int true .i64 0) ([])) (.leaf (.int true .i64 1)
  ([])))))))) (.need (decide (x.B∧(D.deep x).c.B)) (.br (!KW (D.deep x).by_.lo (D.deep x).by_.hi (D.deep x).lo (D.deep x).hi x.p.damp.hi) (.need (decide (x.B∧(D.off x).c.B))
  (.br (!Qp (D.off x).by_.lo (D.off x).by_.hi (D.off x).lo (D.off x).hi x.p.damp.lo) (.leaf (.int true .i64 0) ([])) (.need (decide (x.B∧(D.wide x).c.B)) (.br (!Qp
  (D.wide x).by_.lo (D.wide x).by_.hi (D.wide x).lo (D.wide x).hi x.p.damp.lo) (.leaf (.int true .i64 0) ([])) (.need (decide (x.B∧(D.deep x).c.B)) (.br (!Qp (D.deep x).by_.lo
  (D.deep x).by_.hi (D.deep x).lo (D.deep x).hi x.p.damp.lo) (.leaf (.int true .i64 0) ([])) (.leaf (.int true .i64 1) ([])))))))) (.leaf (.int true .i64 2) ([]))))))):=by kernel_rfl
theorem QSj:QQ Try.prog 87 QIk:=by
 refine KC QJt 14 Try.func87 (by kernel_rfl) (by kernel_rfl) ?_
 rintro⟨x,⟨⟩⟩ hp;rw[QPO x];simp only[QJh,QC.den,AV.same,AV.sameL,and_true,true_and]at hp ⊢;have hB:=qdt hp;have d1:decide (x.B∧(D.off x).c.B)=true:=decide_eq_true ⟨hB,hB⟩;have d2:decide (x.B∧(D.wide x).c.B)=true:=decide_eq_true ⟨hB,hB⟩;have d3:decide (x.B∧(D.deep x).c.B)=true:=decide_eq_true ⟨hB,hB⟩;have a0:KW (D.off x).by_.lo (D.off x).by_.hi (D.off x).lo (D.off x).hi x.p.damp.hi=alw x.p x.t x.h 0:=rfl;have a1:KW (D.wide x).by_.lo (D.wide x).by_.hi (D.wide x).lo (D.wide x).hi x.p.damp.hi=alw x.p x.t x.h 1:=rfl
 have a2:KW (D.deep x).by_.lo (D.deep x).by_.hi (D.deep x).lo (D.deep x).hi x.p.damp.hi=alw x.p x.t x.h 2:=rfl;have b0:Qp (D.off x).by_.lo (D.off x).by_.hi (D.off x).lo (D.off x).hi x.p.damp.lo=may x.p x.t x.h 0:=rfl;have b1:Qp (D.wide x).by_.lo (D.wide x).by_.hi (D.wide x).lo (D.wide x).hi x.p.damp.lo=may x.p x.t x.h 1:=rfl;have b2:Qp (D.deep x).by_.lo (D.deep x).by_.hi (D.deep x).lo (D.deep x).hi x.p.damp.lo=may x.p x.t x.h 2:=rfl;simp only[d1,d2,d3,a0,a1,a2,b0,b1,b2,QB7,true_and]
 cases alw x.p x.t x.h 0<;>cases alw x.p x.t x.h 1<;>cases alw x.p x.t x.h 2<;>cases may x.p x.t x.h 0<;>cases may x.p x.t x.h 1<;>cases may x.p x.t x.h 2<;>simp
def QAo:Tab:=Qb QAG 87 QIk
theorem QMq:QV QAo:=QJt.add QSj
theorem QVq{p:Qk}(h:p.ok=true):Jq p:=by rw[Qk.ok_iff]at h;unfold Jq;omega
theorem QIZ{e:Edge}(h:e.ok=true)(hk:e.kind=1∨e.kind=2):Jz e:=by rw[Edge.ok_iff]at h;unfold Jz;omega
def okP(p:Qk)(a b:Edge):Bool:=p.ok&&(a.ok&&b.ok)
instance : Enc Gap where
  enc x := .agg [.int false .i64 x.off.lo,.int false .i64 x.off.hi,.int false .i64 x.wide.lo,.int false .i64 x.wide.hi,.int false .i64 x.deep.lo,.int false .i64 x.deep.hi]
  dec | .agg [.int _ .i64 a0,.int _ .i64 a1,.int _ .i64 a2,.int _ .i64 a3,.int _ .i64 a4,.int _ .i64 a5] => some ⟨⟨a0,a1⟩,⟨a2,a3⟩,⟨a4,a5⟩⟩ | _ => none
  ok v x h := by
    split at h <;> (try (cases h; done))
    simp only[qsI]at h; subst h; exact⟨fun _ => rfl,rfl⟩
theorem QEb{p:Qk}{a b:Edge}(h1:p.ok=true)(h2:a.ok=true)(h3:b.ok=true)(ha:a.kind=1)(hb:b.kind=2):Qs.B ⟨p,a,b⟩:=⟨QVq h1,QIZ h2 (.inl ha),QIZ h3 (.inr hb)⟩
def Edge.zero:Edge:=⟨0,⟨0,0⟩,⟨0,0⟩,⟨0,0⟩⟩
def QIp(s:Edge)(w:Sp)(n:Int):Prop:=Jz s∧(0≤w.lo∧w.lo≤100∧0≤w.hi∧w.hi≤100)∧0≤n∧n≤20000
instance (s : Edge) (w : Sp) (n : Int) : Decidable (QIp s w n) := by unfold QIp; infer_instance
def QMT:Qk×Edge×Edge×Unit→Bool×AV:=fun|(p,(a,(b,_)))=>(okP p a b,.int false .i64 (Yp p a b))
def QHG:FC:=Q5 (Q6 QMT)
theorem QWK(p:Qk)(a:Edge)(b:Edge):Q2 (mkE Try.prog QAo) (hnd (mkE Try.prog QAo) 4) false Try.f61 (Qm.enc ((p,a,b,()):Qk×Edge×Edge×Unit)) [] 0 =
  QC.br (a.kind==(2:Int)) (QC.br (b.kind==(1:Int)) (QC.br (a.kind==(2:Int)) (QC.need (decide (Qs.mk p b a).B) (QC.leaf (AV.int false i64 (Yg p b
  a)) ([]))) (QC.leaf (AV.int true i64 (0:Int)) ([]))) (QC.leaf (AV.int true i64 (0:Int)) ([]))) (QC.br (a.kind==(1:Int)) (QC.br (b.kind==(2:Int))
  (QC.need (decide (Qs.mk p a b).B) (QC.leaf (AV.int false i64 (Yg p a b)) ([]))) (QC.leaf (AV.int true i64 (0:Int)) ([]))) (QC.leaf (AV.int true
  i64 (0:Int)) ([]))):=by kernel_rfl
theorem QUc:QQ Try.prog 61 QHG:=by
 refine KC QMq 4 Try.func61 (by kernel_rfl) (by kernel_rfl) ?_
 rintro⟨p,a,b,⟨⟩⟩ hp;rw[QWK p a b];simp only[QMT,QC.den,AV.same,AV.sameL,and_true,true_and]at hp ⊢;unfold okP at hp;simp only[qbA]at hp;obtain⟨h1,h2,h3⟩:=hp;unfold Yp;simp only[beq_iff_eq,beq_eq_false_iff_ne];refine⟨fun ha=>⟨fun hb => ?_,fun hb=>by rw[if_pos ha,if_neg hb]⟩,fun ha=>⟨fun ha1 => ?_,fun ha1=>by rw[if_neg ha,if_neg (fun h=>ha1 h.1)]⟩⟩
 ·refine⟨fun _=>⟨decide_eq_true (QEb h1 h3 h2 hb ha),by rw[if_pos ha,if_pos hb]⟩,fun h=>absurd ha h⟩
 ·refine⟨fun hb=>⟨decide_eq_true (QEb h1 h2 h3 ha1 hb),by rw[if_neg ha,if_pos ⟨ha1,hb⟩]⟩,fun hb=>by rw[if_neg ha,if_neg (fun h=>hb h.2)]⟩
def Hp:Tab:=Qb QAo 61 QHG
theorem QLI:QV Hp:=QMq.add QUc
def QLY:Qk×Edge×Edge×Unit→Bool×AV:=fun|(p,(a,(b,_)))=>(true,.tup [.int false .i64 (Qw p a b).1,.int false .i64 (Qw p a b).2])
def QJT:FC:=Q5 (Q6 QLY)
theorem QTJ(p:Qk)(a:Edge)(b:Edge):Q2 (mkE Try.prog Hp) (hnd (mkE Try.prog Hp) 14) false Try.f32 (Qm.enc ((p,a,b,()):Qk×Edge×Edge×Unit)) [] 0 =
  QC.need (true) (QC.br (!p.ok) (QC.leaf (AV.tup [AV.int true i64 (0:Int),AV.int true i64 (1:Int)]) ([])) (QC.need (true) (QC.br (!a.ok) (QC.leaf
  (AV.tup [AV.int true i64 (0:Int),AV.int true i64 (1:Int)]) ([])) (QC.need (true) (QC.br (!b.ok) (QC.leaf (AV.tup [AV.int true i64 (0:Int),
  AV.int true i64 (1:Int)]) ([])) (QC.need (okP p a b) (QC.leaf (AV.tup [AV.int false i64 (Yp p a b),AV.int true i64 (0:Int)]) ([])))))))):=by kernel_rfl
theorem QUA:QQ Try.prog 32 QJT:=by
 refine KC QLI 14 Try.func32 (by kernel_rfl) (by kernel_rfl) ?_
 rintro⟨p,a,b,⟨⟩⟩ hp;rw[QTJ p a b];simp only[QLY,QC.den,AV.same,AV.sameL,and_true,true_and]at hp ⊢;unfold Qw okP;cases p.ok<;>cases a.ok<;>cases b.ok<;>simp
def HX:Tab:=Qb Hp 32 QJT
theorem QJY:QV HX:=QLI.add QUA
end Go.Proofs.Ytbpffdkemeoajaa
