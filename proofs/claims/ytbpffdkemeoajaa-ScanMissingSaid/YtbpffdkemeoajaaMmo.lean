/- This seat's program: the environment of the abstract runs. -/
import Derived.Test.YtbpffdkemeoajaaProg
import Derived.Test.YtbpffdkemeoajaaMmm
import Derived.Test.YtbpffdkemeoajaaMmn
import Derived.KernelRfl
set_option maxRecDepth 100000
namespace Go.Proofs.Ytbpffdkemeoajaa
open Go.SX
theorem Gl:Try.prog.follows .mixedOrders=true:=by kernel_rfl
abbrev Tab:=FuncId→Option FC
def Hw:Tab:=fun _=>none
def QX (C:Tab) (f:FuncId) (fc:FC):Tab:=fun g=>match g == f with
 | true=>some fc
 | false=>C g
def QU (C:Tab):Prop:=∀ f fc,C f=some fc→QM Try.prog f fc
theorem QU.add {C:Tab} (h:QU C) {f:FuncId} {fc:FC} (hf:QM Try.prog f fc):QU (QX C f fc):=by
 intro g fc' e
 unfold QX at e
 split at e
 ·rename_i hg
  simp only [Option.some.injEq] at e;subst e
  have:g=f:=by simpa using hg
  subst this;exact hf
 ·exact h g fc' e
theorem QGr:QU Hw:=fun _ _ h=>by cases h
instance : Enc Sp where
  enc x := .agg [.int false .i64 x.lo, .int false .i64 x.hi]
  dec | .agg [.int _ .i64 a0, .int _ .i64 a1] => some ⟨a0, a1⟩ | _ => none
  ok v x h := by
    split at h <;> (try (cases h; done))
    simp only [Option.some.injEq] at h; subst h; exact ⟨fun _ => rfl, rfl⟩
instance : Enc Edge where
  enc x := .agg [.int false .i64 x.kind, .int false .i64 x.at_.lo, .int false .i64 x.at_.hi, .int false .i64 x.wide.lo, .int false .i64 x.wide.hi, .int false .i64 x.deep.lo, .int false .i64 x.deep.hi]
  dec | .agg [.int _ .i64 a0, .int _ .i64 a1, .int _ .i64 a2, .int _ .i64 a3, .int _ .i64 a4, .int _ .i64 a5, .int _ .i64 a6] => some ⟨a0, ⟨a1, a2⟩, ⟨a3, a4⟩, ⟨a5, a6⟩⟩ | _ => none
  ok v x h := by
    split at h <;> (try (cases h; done))
    simp only [Option.some.injEq] at h; subst h; exact ⟨fun _ => rfl, rfl⟩
instance : Enc Qg where
  enc x := .agg [.int false .i64 x.length, .int false .i64 x.slack, .int false .i64 x.loose, .int false .i64 x.damp.lo, .int false .i64 x.damp.hi]
  dec | .agg [.int _ .i64 a0, .int _ .i64 a1, .int _ .i64 a2, .int _ .i64 a3, .int _ .i64 a4] => some ⟨a0, a1, a2, ⟨a3, a4⟩⟩ | _ => none
  ok v x h := by
    split at h <;> (try (cases h; done))
    simp only [Option.some.injEq] at h; subst h; exact ⟨fun _ => rfl, rfl⟩
structure Qn where
 p:Qg
 t:Edge
 h:Edge
inductive D where
 | off (c:Qn)
 | wide (c:Qn)
 | deep (c:Qn)
instance : Enc Qn where
  enc x := .agg [.int false .i64 x.p.length, .int false .i64 x.p.slack, .int false .i64 x.p.loose, .int false .i64 x.p.damp.lo, .int false .i64 x.p.damp.hi,
    .int false .i64 x.t.kind, .int false .i64 x.t.at_.lo, .int false .i64 x.t.at_.hi, .int false .i64 x.t.wide.lo, .int false .i64 x.t.wide.hi, .int false .i64 x.t.deep.lo, .int false .i64 x.t.deep.hi,
    .int false .i64 x.h.kind, .int false .i64 x.h.at_.lo, .int false .i64 x.h.at_.hi, .int false .i64 x.h.wide.lo, .int false .i64 x.h.wide.hi, .int false .i64 x.h.deep.lo, .int false .i64 x.h.deep.hi]
  dec | .agg [.int _ .i64 p0, .int _ .i64 p1, .int _ .i64 p2, .int _ .i64 p3, .int _ .i64 p4,
      .int _ .i64 a0, .int _ .i64 a1, .int _ .i64 a2, .int _ .i64 a3, .int _ .i64 a4, .int _ .i64 a5, .int _ .i64 a6,
      .int _ .i64 b0, .int _ .i64 b1, .int _ .i64 b2, .int _ .i64 b3, .int _ .i64 b4, .int _ .i64 b5, .int _ .i64 b6] =>
        some ⟨⟨p0, p1, p2, ⟨p3, p4⟩⟩, ⟨a0, ⟨a1, a2⟩, ⟨a3, a4⟩, ⟨a5, a6⟩⟩, ⟨b0, ⟨b1, b2⟩, ⟨b3, b4⟩, ⟨b5, b6⟩⟩⟩
      | _ => none
  ok v x h := by
    split at h <;> (try (cases h; done))
    simp only [Option.some.injEq] at h; subst h; exact ⟨fun _ => rfl, rfl⟩
instance : Enc D where
  enc | .off c => .ifc 167 (Enc.enc c)
      | .wide c => .ifc 168 (Enc.enc c)
      | .deep c => .ifc 169 (Enc.enc c)
  dec | .ifc t v => match (Enc.dec v : Option Qn) with
        | some c => if t = 167 then some (.off c) else if t = 168 then some (.wide c) else if t = 169 then some (.deep c) else none
        | none => none
      | _ => none
  ok v x h := by
    split at h <;> (try (cases h; done))
    split at h <;> (try (cases h; done))
    rename_i t v c hc
    have h1 := Enc.ok _ c hc
    split at h
    · rename_i e; simp only [Option.some.injEq] at h; subst h e
      exact ⟨fun r => by simp only [AV.den]; rw [h1.1 r], h1.2⟩
    · split at h
      · rename_i e; simp only [Option.some.injEq] at h; subst h e
        exact ⟨fun r => by simp only [AV.den]; rw [h1.1 r], h1.2⟩
      · split at h <;> (try (cases h; done))
        rename_i e; simp only [Option.some.injEq] at h; subst h e
        exact ⟨fun r => by simp only [AV.den]; rw [h1.1 r], h1.2⟩
theorem w64 {n:Int} (h1 : -9223372036854775808≤n) (h2:n≤9223372036854775807):IntKind.i64.wrap n=n:=IntWalk.i64_in n ⟨h1,h2⟩
def JL (e:Edge):Prop:=(0≤e.at_.lo∧e.at_.lo≤10000∧0≤e.at_.hi∧e.at_.hi≤10000)∧(0≤e.wide.lo∧e.wide.lo≤3000∧0≤e.wide.hi∧e.wide.hi≤3000)∧(0≤e.deep.lo∧e.deep.lo≤3000∧0≤e.deep.hi∧e.deep.hi≤3000)
def JM (p:Qg):Prop:=(1≤p.length∧p.length≤10000)∧(0≤p.slack∧p.slack≤500)∧(0≤p.loose∧p.loose≤500)∧(0≤p.damp.lo∧p.damp.lo≤100)∧0≤p.damp.hi∧p.damp.hi≤100
def Qn.B (c:Qn):Prop:=JM c.p∧JL c.t∧JL c.h
instance (e : Edge) : Decidable (JL e) := by unfold JL; infer_instance
instance (p : Qg) : Decidable (JM p) := by unfold JM; infer_instance
instance (c : Qn) : Decidable c.B := by unfold Qn.B; infer_instance
def D.by_:D→Sp
 | .off c=>Qa c.p c.t c.h
 | .wide c=>QY c.t c.h
 | .deep c=>QZ c.t c.h
def D.lo:D→Int
 | .off c => -c.p.slack
 | _=>0
def D.hi:D→Int
 | .off c=>c.p.slack
 | .wide c=>c.p.loose
 | .deep c=>c.p.loose
def D.c:D→Qn
 | .off c=>c
 | .wide c=>c
 | .deep c=>c
abbrev mkE (P:Program) (C:Tab):Env:=⟨P,C,Wz P,false,fun _=>false,false,false,false⟩
theorem QN {C:Tab} (hC:QU C):(mkE Try.prog C).Sound:={ c:=hC,m:=vm Try.prog,mixed:=Gl }
abbrev mkF (P:Program) (C:Tab):Env:=⟨P,C,Wz P,false,fun _=>false,false,false,true⟩
theorem QGm {C:Tab} (hC:QU C):(mkF Try.prog C).Sound:={ c:=hC,m:=vm Try.prog,mixed:=Gl }
abbrev mkS (P:Program) (C:Tab):Env:=⟨P,C,Wz P,true,fun _=>false,false,false,false⟩
theorem YY {C:Tab} (hC:QU C):(mkS Try.prog C).Sound:={ c:=hC,m:=vm Try.prog,mixed:=Gl }
def binds (fs:List FuncId):Op→Bool
 | .call ⟨.value (.func f),_,_⟩=>fs.contains f
 | .binOp .mul _ _ _ _=>true
 | _=>false
def Qm (fn:Func):Code:=fn.body.getD .skip
theorem Q2 {C:Tab} (hC:QU C) (d:Nat) {f:FuncId} {fn:Func} (hf:Try.prog.funcs[f]? = some fn) (hb:fn.body=some (Qm fn)) (hgo:K8 Try.prog f=true) {α:Type} [Qi α] {F:α→Bool×AV}
  (hF:∀ x,(F x).1=true→(Qs (mkE Try.prog C) (hnd (mkE Try.prog C) d) false fn (Qi.enc x) [] 0).den fun u _=>u.same (F x).2):QM Try.prog f (Qw (Qx F)):=
 QCY (QN hC) hf hb hgo (fun G _ hG=>Qt (QN hC) d G _ hG) hF
end Go.Proofs.Ytbpffdkemeoajaa
namespace Go.Proofs.Ytbpffdkemeoajaa
open Go.SX
def QDY:Sp×Int×Int×Unit→Bool×AV:=fun|(s,(a,(b,_)))=>(true,.bool false (s.isIn a b))
def QFi:FC:=Qw (Qx QDY)
theorem QOx (s:Sp) (a:Int) (b:Int):Qs (mkE Try.prog Hw) (hnd (mkE Try.prog Hw) 0) false Try.f82 (Qi.enc ((s,a,b,()):Sp×Int×Int×Unit)) [] 0 =
  QC.br (decide (a≤s.lo)) (QC.br (decide (s.lo≤s.hi)) (QC.leaf (AV.bool false (decide (s.hi≤b))) ([])) (QC.leaf (AV.bool true false) ([]))) (QC.leaf (AV.bool true
  false) ([])):=by kernel_rfl
theorem QQ2:QM Try.prog 82 QFi:=by
 refine Q2 QGr 0 Try.func82 (by kernel_rfl) (by kernel_rfl) ?_
 rintro ⟨s,a,b,⟨⟩⟩ hp
 rw [QOx s a b]
 simp only [QDY,QC.den,AV.same,AV.sameL,and_true,true_and] at hp ⊢
 (repeat' (first|(refine And.intro ?_ ?_)|(intro _)))<;>simp_all [Sp.isIn]<;>omega
def G8:Tab:=QX Hw 82 QFi
theorem QGQ:QU G8:=QGr.add QQ2
def QGY:Int×Int×Int×Unit→Bool×AV:=fun|(n,(a,(b,_)))=>(true,.bool false (QW n a b))
def QJb:FC:=Qw (Qx QGY)
theorem QSm (n:Int) (a:Int) (b:Int):Qs (mkE Try.prog G8) (hnd (mkE Try.prog G8) 0) false Try.f81 (Qi.enc ((n,a,b,()):Int×Int×Int×Unit)) [] 0 =
  QC.br (decide (a≤n)) (QC.leaf (AV.bool false (decide (n≤b))) ([])) (QC.leaf (AV.bool true false) ([])):=by kernel_rfl
theorem QLN:QM Try.prog 81 QJb:=by
 refine Q2 QGQ 0 Try.func81 (by kernel_rfl) (by kernel_rfl) ?_
 rintro ⟨n,a,b,⟨⟩⟩ hp
 rw [QSm n a b]
 simp only [QGY,QC.den,AV.same,AV.sameL,and_true,true_and] at hp ⊢
 (repeat' (first|(refine And.intro ?_ ?_)|(intro _)))<;>simp_all [QW]<;>omega
def vx:Tab:=QX G8 81 QJb
theorem QGy:QU vx:=QGQ.add QLN
def QJC:Edge×Unit→Bool×AV:=fun|(a,_)=>(true,.bool false a.ok)
def QIL:FC:=Qw (Qx QJC)
theorem QNU (a:Edge):Qs (mkE Try.prog vx) (hnd (mkE Try.prog vx) 0) false Try.f85 (Qi.enc ((a,()):Edge×Unit)) [] 0 =
  QC.br (a.kind == (0:Int)) (QC.leaf (AV.bool true true) ([])) (QC.br (a.kind == (1:Int)) (QC.need (true) (QC.br (a.at_.isIn (0:Int) (10000:Int)) (QC.need (true)
  (QC.br (a.wide.isIn (1:Int) (3000:Int)) (QC.need (true) (QC.leaf (AV.bool false (a.deep.isIn (1:Int) (3000:Int))) ([]))) (QC.leaf (AV.bool true false) ([]))))
  (QC.leaf (AV.bool true false) ([])))) (QC.br (a.kind == (2:Int)) (QC.need (true) (QC.br (a.at_.isIn (0:Int) (10000:Int)) (QC.need (true) (QC.br (a.wide.isIn (1 :
  Int) (3000:Int)) (QC.need (true) (QC.leaf (AV.bool false (a.deep.isIn (1:Int) (3000:Int))) ([]))) (QC.leaf (AV.bool true false) ([])))) (QC.leaf (AV.bool true false)
  ([])))) (QC.leaf (AV.bool true false) ([])))):=by kernel_rfl
theorem QPy:QM Try.prog 85 QIL:=by
 refine Q2 QGy 0 Try.func85 (by kernel_rfl) (by kernel_rfl) ?_
 rintro ⟨a,⟨⟩⟩ hp
 rw [QNU a]
 simp only [QJC,QC.den,AV.same,AV.sameL,and_true,true_and] at hp ⊢
 (repeat' (first|(refine And.intro ?_ ?_)|(intro _)))<;>simp_all [Edge.ok]
def vh:Tab:=QX vx 85 QIL
theorem QHC:QU vh:=QGy.add QPy
def QGK:Qg×Unit→Bool×AV:=fun|(p,_)=>(true,.bool false p.ok)
def QFu:FC:=Qw (Qx QGK)
theorem QKq (p:Qg):Qs (mkE Try.prog vh) (hnd (mkE Try.prog vh) 0) false Try.f59 (Qi.enc ((p,()):Qg×Unit)) [] 0 =
  QC.need (true) (QC.br (QW p.length (1:Int) (10000:Int)) (QC.need (true) (QC.br (QW p.slack (0:Int) (500:Int)) (QC.need (true) (QC.br (QW p.loose (0 :
  Int) (500:Int)) (QC.need (true) (QC.leaf (AV.bool false (p.damp.isIn (0:Int) (100:Int))) ([]))) (QC.leaf (AV.bool true false) ([])))) (QC.leaf (AV.bool true false)
  ([])))) (QC.leaf (AV.bool true false) ([]))):=by kernel_rfl
theorem QMi:QM Try.prog 59 QFu:=by
 refine Q2 QHC 0 Try.func59 (by kernel_rfl) (by kernel_rfl) ?_
 rintro ⟨p,⟨⟩⟩ hp
 rw [QKq p]
 simp only [QGK,QC.den,AV.same,AV.sameL,and_true,true_and] at hp ⊢
 (repeat' (first|(refine And.intro ?_ ?_)|(intro _)))<;>simp_all [Qg.ok]
def Gw:Tab:=QX vh 59 QFu
theorem QH6:QU Gw:=QHC.add QMi
def QD6:Sp×Sp×Unit→Bool×AV:=fun|(s,(o,_))=>(decide (Sm s.lo∧Sm s.hi∧Sm o.lo∧Sm o.hi),Enc.enc (s.less o))
def QFA:FC:=Qw (Qx QD6)
theorem QPg (s:Sp) (o:Sp):Qs (mkE Try.prog Gw) (hnd (mkE Try.prog Gw) 0) false Try.f132 (Qi.enc ((s,o,()):Sp×Sp×Unit)) [] 0 =
  QC.leaf (AV.agg [AV.int false IntKind.i64 (IntKind.i64.wrap (s.lo - o.hi)),AV.int false IntKind.i64 (IntKind.i64.wrap (s.hi - o.lo))]) ([]):=by kernel_rfl
theorem QRk:QM Try.prog 132 QFA:=by
 refine Q2 QH6 0 Try.func132 (by kernel_rfl) (by kernel_rfl) ?_
 rintro ⟨s,o,⟨⟩⟩ hp
 rw [QPg s o]
 simp only [QD6,QC.den,AV.same,AV.sameL,and_true,true_and] at hp ⊢
 have hp:=of_decide_eq_true hp
 unfold Sm at hp
 simp only [Sp.less,Enc.enc,AV.same,AV.sameL]
 rw [w64 (by omega) (by omega),w64 (by omega) (by omega)];simp
def vt:Tab:=QX Gw 132 QFA
theorem QHk:QU vt:=QH6.add QRk
def QFK:Sp×Sp×Unit→Bool×AV:=fun|(s,(o,_))=>(decide (Sm s.lo∧Sm s.hi∧Sm o.lo∧Sm o.hi),Enc.enc (s.plus o))
def QGa:FC:=Qw (Qx QFK)
theorem QN6 (s:Sp) (o:Sp):Qs (mkE Try.prog vt) (hnd (mkE Try.prog vt) 0) false Try.f129 (Qi.enc ((s,o,()):Sp×Sp×Unit)) [] 0 =
  QC.leaf (AV.agg [AV.int false IntKind.i64 (IntKind.i64.wrap (s.lo + o.lo)),AV.int false IntKind.i64 (IntKind.i64.wrap (s.hi + o.hi))]) ([]):=by kernel_rfl
theorem QLU:QM Try.prog 129 QGa:=by
 refine Q2 QHk 0 Try.func129 (by kernel_rfl) (by kernel_rfl) ?_
 rintro ⟨s,o,⟨⟩⟩ hp
 rw [QN6 s o]
 simp only [QFK,QC.den,AV.same,AV.sameL,and_true,true_and] at hp ⊢
 have hp:=of_decide_eq_true hp
 unfold Sm at hp
 simp only [Sp.plus,Enc.enc,AV.same,AV.sameL]
 rw [w64 (by omega) (by omega),w64 (by omega) (by omega)];simp
def H2:Tab:=QX vt 129 QGa
theorem QHQ:QU H2:=QHk.add QLU
def QFw:Qn×Unit→Bool×AV:=fun|(c,_)=>(decide c.B,Enc.enc (Qa c.p c.t c.h))
def QGD:FC:=Qw (Qx QFw)
theorem QNu (c:Qn):Qs (mkE Try.prog H2) (hnd (mkE Try.prog H2) 0) false Try.f128 (Qi.enc ((c,()):Qn×Unit)) [] 0 =
  QC.need (decide (Sm c.t.at_.lo∧Sm c.t.at_.hi∧Sm c.h.at_.lo∧Sm c.h.at_.hi)) (QC.need (decide (Sm (c.t.at_.plus c.h.at_).lo∧Sm (c.t.at_.plus c.h.at_).hi∧Sm
  (IntKind.i64.wrap ((0:Int) - c.p.length))∧Sm (IntKind.i64.wrap ((0:Int) - c.p.length)))) (QC.leaf (AV.agg [AV.int false IntKind.i64 ((c.t.at_.plus c.h.at_).plus (Sp.mk
  (IntKind.i64.wrap ((0:Int) - c.p.length)) (IntKind.i64.wrap ((0:Int) - c.p.length)))).lo,AV.int false IntKind.i64 ((c.t.at_.plus c.h.at_).plus (Sp.mk (IntKind.i64.wrap ((0 :
  Int) - c.p.length)) (IntKind.i64.wrap ((0:Int) - c.p.length)))).hi]) ([]))):=by kernel_rfl
theorem QSt:QM Try.prog 128 QGD:=by
 refine Q2 QHQ 0 Try.func128 (by kernel_rfl) (by kernel_rfl) ?_
 rintro ⟨c,⟨⟩⟩ hp
 rw [QNu c]
 simp only [QFw,QC.den,AV.same,AV.sameL,and_true,true_and] at hp ⊢
 have hp:=of_decide_eq_true hp
 obtain ⟨h1,h2,h3⟩:=hp
 unfold JM at h1;unfold JL at h2 h3
 have e:IntKind.i64.wrap (0 - c.p.length) = -c.p.length:=by rw [w64 (by omega) (by omega)];omega
 rw [e]
 refine ⟨decide_eq_true (by unfold Sm;omega),decide_eq_true (by unfold Sm Sp.plus;simp only;omega),?_⟩
 simp [Qa,Sp.plus,Enc.enc,AV.same,AV.sameL]
def GK:Tab:=QX H2 128 QGD
theorem QDj:QU GK:=QHQ.add QSt
def QGf:Qn×Unit→Bool×AV:=fun|(c,_)=>(decide c.B,Enc.enc (QY c.t c.h))
def QDM:FC:=Qw (Qx QGf)
theorem QPO (c:Qn):Qs (mkE Try.prog GK) (hnd (mkE Try.prog GK) 0) false Try.f131 (Qi.enc ((c,()):Qn×Unit)) [] 0 =
  QC.need (decide (Sm c.h.wide.lo∧Sm c.h.wide.hi∧Sm c.t.wide.lo∧Sm c.t.wide.hi)) (QC.leaf (AV.agg [AV.int false IntKind.i64 (c.h.wide.less c.t.wide).lo,AV.int false
  IntKind.i64 (c.h.wide.less c.t.wide).hi]) ([])):=by kernel_rfl
theorem QPQ:QM Try.prog 131 QDM:=by
 refine Q2 QDj 0 Try.func131 (by kernel_rfl) (by kernel_rfl) ?_
 rintro ⟨c,⟨⟩⟩ hp
 rw [QPO c]
 simp only [QGf,QC.den,AV.same,AV.sameL,and_true,true_and] at hp ⊢
 have hp:=of_decide_eq_true hp
 obtain ⟨h1,h2,h3⟩:=hp
 unfold JM at h1;unfold JL at h2 h3
 refine ⟨decide_eq_true (by unfold Sm;omega),?_⟩
 simp [QY,Sp.less,Enc.enc,AV.same,AV.sameL]
def HP:Tab:=QX GK 131 QDM
theorem QKU:QU HP:=QDj.add QPQ
def QKK:Qn×Unit→Bool×AV:=fun|(c,_)=>(decide c.B,Enc.enc (QZ c.t c.h))
def QFH:FC:=Qw (Qx QKK)
theorem QR4 (c:Qn):Qs (mkE Try.prog HP) (hnd (mkE Try.prog HP) 0) false Try.f134 (Qi.enc ((c,()):Qn×Unit)) [] 0 =
  QC.need (decide (Sm c.h.deep.lo∧Sm c.h.deep.hi∧Sm c.t.deep.lo∧Sm c.t.deep.hi)) (QC.leaf (AV.agg [AV.int false IntKind.i64 (c.h.deep.less c.t.deep).lo,AV.int false
  IntKind.i64 (c.h.deep.less c.t.deep).hi]) ([])):=by kernel_rfl
theorem QOi:QM Try.prog 134 QFH:=by
 refine Q2 QKU 0 Try.func134 (by kernel_rfl) (by kernel_rfl) ?_
 rintro ⟨c,⟨⟩⟩ hp
 rw [QR4 c]
 simp only [QKK,QC.den,AV.same,AV.sameL,and_true,true_and] at hp ⊢
 have hp:=of_decide_eq_true hp
 obtain ⟨h1,h2,h3⟩:=hp
 unfold JM at h1;unfold JL at h2 h3
 refine ⟨decide_eq_true (by unfold Sm;omega),?_⟩
 simp [QZ,Sp.less,Enc.enc,AV.same,AV.sameL]
def HG:Tab:=QX HP 134 QFH
theorem QGM:QU HG:=QKU.add QOi
def QJc:Qn×Unit→Bool×AV:=fun|(c,_)=>(decide c.B,.tup [.int false .i64 (-c.p.slack),.int false .i64 c.p.slack])
def QI2:FC:=Qw (Qx QJc)
theorem QPj (c:Qn):Qs (mkE Try.prog HG) (hnd (mkE Try.prog HG) 0) false Try.f127 (Qi.enc ((c,()):Qn×Unit)) [] 0 =
  QC.leaf (AV.tup [AV.int false IntKind.i64 (IntKind.i64.wrap ((0:Int) - c.p.slack)),AV.int false IntKind.i64 c.p.slack]) ([]):=by kernel_rfl
theorem QMM:QM Try.prog 127 QI2:=by
 refine Q2 QGM 0 Try.func127 (by kernel_rfl) (by kernel_rfl) ?_
 rintro ⟨c,⟨⟩⟩ hp
 rw [QPj c]
 simp only [QJc,QC.den,AV.same,AV.sameL,and_true,true_and] at hp ⊢
 have hp:=of_decide_eq_true hp
 obtain ⟨h1,h2,h3⟩:=hp
 unfold JM at h1
 rw [w64 (by omega) (by omega)];omega
def vj:Tab:=QX HG 127 QI2
theorem QGV:QU vj:=QGM.add QMM
def QF9:Qn×Unit→Bool×AV:=fun|(c,_)=>(decide c.B,.tup [.int false .i64 0,.int false .i64 c.p.loose])
def QD2:FC:=Qw (Qx QF9)
theorem QMp (c:Qn):Qs (mkE Try.prog vj) (hnd (mkE Try.prog vj) 0) false Try.f130 (Qi.enc ((c,()):Qn×Unit)) [] 0 =
  QC.leaf (AV.tup [AV.int true IntKind.i64 (0:Int),AV.int false IntKind.i64 c.p.loose]) ([]):=by kernel_rfl
theorem QTx:QM Try.prog 130 QD2:=by
 refine Q2 QGV 0 Try.func130 (by kernel_rfl) (by kernel_rfl) ?_
 rintro ⟨c,⟨⟩⟩ hp
 rw [QMp c]
 simp only [QF9,QC.den,AV.same,AV.sameL,and_true,true_and] at hp ⊢
def zV:Tab:=QX vj 130 QD2
theorem QIP:QU zV:=QGV.add QTx
def QHV:Qn×Unit→Bool×AV:=fun|(c,_)=>(decide c.B,.tup [.int false .i64 0,.int false .i64 c.p.loose])
def QIv:FC:=Qw (Qx QHV)
theorem QRv (c:Qn):Qs (mkE Try.prog zV) (hnd (mkE Try.prog zV) 0) false Try.f133 (Qi.enc ((c,()):Qn×Unit)) [] 0 =
  QC.leaf (AV.tup [AV.int true IntKind.i64 (0:Int),AV.int false IntKind.i64 c.p.loose]) ([]):=by kernel_rfl
theorem QND:QM Try.prog 133 QIv:=by
 refine Q2 QIP 0 Try.func133 (by kernel_rfl) (by kernel_rfl) ?_
 rintro ⟨c,⟨⟩⟩ hp
 rw [QRv c]
 simp only [QHV,QC.den,AV.same,AV.sameL,and_true,true_and] at hp ⊢
def Y8:Tab:=QX zV 133 QIv
theorem QEg:QU Y8:=QIP.add QND
theorem jx {sl sh lo hi dh:Int} (h1 : -100000≤sl∧sl≤100000) (h2 : -100000≤sh∧sh≤100000) (h3 : -500≤lo∧lo≤500) (h4 : -500≤hi∧hi≤500) (h5:0≤dh∧dh≤100) :
  (decide (IntKind.i64.wrap (sl * IntKind.i64.wrap (1000 + dh))≥IntKind.i64.wrap (1000 * lo))=true→decide (IntKind.i64.wrap (sh * IntKind.i64.wrap (1000 + dh))≤IntKind.i64.wrap (1000 * hi))=KM sl sh lo hi dh) ∧
  (decide (IntKind.i64.wrap (sl * IntKind.i64.wrap (1000 + dh))≥IntKind.i64.wrap (1000 * lo))=false→false=KM sl sh lo hi dh):=by
 obtain ⟨m1,m2⟩:=QCr (a:=sl) (m:=1000 + dh) (by omega) (by omega) (by omega) (by omega)
 obtain ⟨m3,m4⟩:=QCr (a:=sh) (m:=1000 + dh) (by omega) (by omega) (by omega) (by omega)
 rw [w64 (n:=1000 + dh) (by omega) (by omega),w64 (n:=sl * _) (by omega) (by omega),w64 (n:=sh * _) (by omega) (by omega),w64 (n:=1000 * lo) (by omega) (by omega),w64 (n:=1000 * hi) (by omega) (by omega)]
 exact ⟨fun h=>QOz (of_decide_eq_true h),fun h=>QOY (by have:=of_decide_eq_false h;omega)⟩
theorem Gr {sl sh lo hi dl:Int} (h1 : -100000≤sl∧sl≤100000) (h2 : -100000≤sh∧sh≤100000) (h3 : -500≤lo∧lo≤500) (h4 : -500≤hi∧hi≤500) (h5:0≤dl∧dl≤100) :
  (decide (IntKind.i64.wrap (1000 * lo)≤IntKind.i64.wrap (min (max 0 sl) sh * IntKind.i64.wrap (1000 + dl)))=true→decide (IntKind.i64.wrap (min (max 0 sl) sh * IntKind.i64.wrap (1000 + dl))≤IntKind.i64.wrap (1000 * hi))=Qk sl sh lo hi dl) ∧
  (decide (IntKind.i64.wrap (1000 * lo)≤IntKind.i64.wrap (min (max 0 sl) sh * IntKind.i64.wrap (1000 + dl)))=false→false=Qk sl sh lo hi dl):=by
 obtain ⟨m1,m2⟩:=QCr (a:=min (max 0 sl) sh) (m:=1000 + dl) (by omega) (by omega) (by omega) (by omega)
 rw [w64 (n:=1000 + dl) (by omega) (by omega),w64 (n:=min (max 0 sl) sh * _) (by omega) (by omega),w64 (n:=1000 * lo) (by omega) (by omega),w64 (n:=1000 * hi) (by omega) (by omega)]
 exact ⟨fun h=>QPe (of_decide_eq_true h),fun h=>QOI (by have:=of_decide_eq_false h;omega)⟩
theorem QD4:IntKind.i64.wrap (1000 * 0)=0:=by decide
theorem QAq {sl sh hi dh:Int} (h1 : -100000≤sl∧sl≤100000) (h2 : -100000≤sh∧sh≤100000) (h4 : -500≤hi∧hi≤500) (h5:0≤dh∧dh≤100) :
  (decide (IntKind.i64.wrap (sl * IntKind.i64.wrap (1000 + dh))≥0)=true→decide (IntKind.i64.wrap (sh * IntKind.i64.wrap (1000 + dh))≤IntKind.i64.wrap (1000 * hi))=KM sl sh 0 hi dh) ∧
  (decide (IntKind.i64.wrap (sl * IntKind.i64.wrap (1000 + dh))≥0)=false→false=KM sl sh 0 hi dh):=by
 have:=jx (lo:=0) h1 h2 (by omega) h4 h5
 rw [QD4] at this;exact this
theorem QCc {sl sh hi dl:Int} (h1 : -100000≤sl∧sl≤100000) (h2 : -100000≤sh∧sh≤100000) (h4 : -500≤hi∧hi≤500) (h5:0≤dl∧dl≤100) :
  (decide (0≤IntKind.i64.wrap (min (max 0 sl) sh * IntKind.i64.wrap (1000 + dl)))=true→decide (IntKind.i64.wrap (min (max 0 sl) sh * IntKind.i64.wrap (1000 + dl))≤IntKind.i64.wrap (1000 * hi))=Qk sl sh 0 hi dl) ∧
  (decide (0≤IntKind.i64.wrap (min (max 0 sl) sh * IntKind.i64.wrap (1000 + dl)))=false→false=Qk sl sh 0 hi dl):=by
 have:=Gr (lo:=0) h1 h2 (by omega) h4 h5
 rw [QD4] at this;exact this
def HO:Qn×D×Unit→Bool×AV:=fun|(x,(d,_))=>(decide (x.B∧d.c.B),.bool false (KM d.by_.lo d.by_.hi d.lo d.hi x.p.damp.hi))
def QD3:FC:=Qw (Qx HO)
theorem QRW (x:Qn) (c:Qn):Qs (mkE Try.prog Y8) (hnd (mkE Try.prog Y8) 0) false Try.f97 (Qi.enc ((x,(D.off c),()):Qn×D×Unit)) [] 0 =
  QC.need (decide c.B) (QC.need (decide c.B) (QC.br (decide (IntKind.i64.wrap ((Qa c.p c.t c.h).lo * IntKind.i64.wrap ((1000:Int) + x.p.damp.hi))≥IntKind.i64.wrap ((1000
  : Int) * -c.p.slack))) (QC.leaf (AV.bool false (decide (IntKind.i64.wrap ((Qa c.p c.t c.h).hi * IntKind.i64.wrap ((1000:Int) + x.p.damp.hi))≤IntKind.i64.wrap ((1000:Int)
  * c.p.slack)))) ([])) (QC.leaf (AV.bool true false) ([])))):=by kernel_rfl
theorem QO9 (x:Qn) (c:Qn):Qs (mkE Try.prog Y8) (hnd (mkE Try.prog Y8) 0) false Try.f97 (Qi.enc ((x,(D.wide c),()):Qn×D×Unit)) [] 0 =
  QC.need (decide c.B) (QC.need (decide c.B) (QC.br (decide (IntKind.i64.wrap ((QY c.t c.h).lo * IntKind.i64.wrap ((1000:Int) + x.p.damp.hi))≥(0:Int))) (QC.leaf
  (AV.bool false (decide (IntKind.i64.wrap ((QY c.t c.h).hi * IntKind.i64.wrap ((1000:Int) + x.p.damp.hi))≤IntKind.i64.wrap ((1000:Int) * c.p.loose)))) ([])) (QC.leaf
  (AV.bool true false) ([])))):=by kernel_rfl
theorem QTF (x:Qn) (c:Qn):Qs (mkE Try.prog Y8) (hnd (mkE Try.prog Y8) 0) false Try.f97 (Qi.enc ((x,(D.deep c),()):Qn×D×Unit)) [] 0 =
  QC.need (decide c.B) (QC.need (decide c.B) (QC.br (decide (IntKind.i64.wrap ((QZ c.t c.h).lo * IntKind.i64.wrap ((1000:Int) + x.p.damp.hi))≥(0:Int))) (QC.leaf
  (AV.bool false (decide (IntKind.i64.wrap ((QZ c.t c.h).hi * IntKind.i64.wrap ((1000:Int) + x.p.damp.hi))≤IntKind.i64.wrap ((1000:Int) * c.p.loose)))) ([])) (QC.leaf
  (AV.bool true false) ([])))):=by kernel_rfl
theorem QQn:QM Try.prog 97 QD3:=by
 refine Q2 QEg 0 Try.func97 (by kernel_rfl) (by kernel_rfl) ?_
 rintro ⟨x,(c|c|c),⟨⟩⟩ hp
 ·rw [QRW x c]
  simp only [HO,QC.den,AV.same,AV.sameL,and_true,true_and] at hp ⊢
  have hq:=of_decide_eq_true hp
  obtain ⟨⟨hx,_⟩,hc⟩:=hq
  refine ⟨decide_eq_true hc,decide_eq_true hc,?_⟩
  obtain ⟨h1,h2,h3⟩:=hc
  unfold JM at h1 hx;unfold JL at h2 h3;simp only [D.c] at h1 h2 h3
  first
   | (refine jx ?_ ?_ ?_ ?_ ?_<;>(try simp only [Qa,QY,QZ])<;>omega)
   | (refine QAq ?_ ?_ ?_ ?_<;>(try simp only [Qa,QY,QZ])<;>omega)
 ·rw [QO9 x c]
  simp only [HO,QC.den,AV.same,AV.sameL,and_true,true_and] at hp ⊢
  have hq:=of_decide_eq_true hp
  obtain ⟨⟨hx,_⟩,hc⟩:=hq
  refine ⟨decide_eq_true hc,decide_eq_true hc,?_⟩
  obtain ⟨h1,h2,h3⟩:=hc
  unfold JM at h1 hx;unfold JL at h2 h3;simp only [D.c] at h1 h2 h3
  first
   | (refine jx ?_ ?_ ?_ ?_ ?_<;>(try simp only [Qa,QY,QZ])<;>omega)
   | (refine QAq ?_ ?_ ?_ ?_<;>(try simp only [Qa,QY,QZ])<;>omega)
 ·rw [QTF x c]
  simp only [HO,QC.den,AV.same,AV.sameL,and_true,true_and] at hp ⊢
  have hq:=of_decide_eq_true hp
  obtain ⟨⟨hx,_⟩,hc⟩:=hq
  refine ⟨decide_eq_true hc,decide_eq_true hc,?_⟩
  obtain ⟨h1,h2,h3⟩:=hc
  unfold JM at h1 hx;unfold JL at h2 h3;simp only [D.c] at h1 h2 h3
  first
   | (refine jx ?_ ?_ ?_ ?_ ?_<;>(try simp only [Qa,QY,QZ])<;>omega)
   | (refine QAq ?_ ?_ ?_ ?_<;>(try simp only [Qa,QY,QZ])<;>omega)
def Yq:Tab:=QX Y8 97 QD3
theorem QEo:QU Yq:=QEg.add QQn
def HW:Qn×D×Unit→Bool×AV:=fun|(x,(d,_))=>(decide (x.B∧d.c.B),.bool false (Qk d.by_.lo d.by_.hi d.lo d.hi x.p.damp.lo))
def QKE:FC:=Qw (Qx HW)
theorem QSD (x:Qn) (c:Qn):Qs (mkE Try.prog Yq) (hnd (mkE Try.prog Yq) 0) false Try.f98 (Qi.enc ((x,(D.off c),()):Qn×D×Unit)) [] 0 =
  QC.need (decide c.B) (QC.need (decide c.B) (QC.br (decide (IntKind.i64.wrap ((1000:Int) * -c.p.slack)≤IntKind.i64.wrap (min (max (0:Int) (Qa c.p c.t c.h).lo) (Qa
  c.p c.t c.h).hi * IntKind.i64.wrap ((1000:Int) + x.p.damp.lo)))) (QC.leaf (AV.bool false (decide (IntKind.i64.wrap (min (max (0:Int) (Qa c.p c.t c.h).lo) (Qa c.p c.t
  c.h).hi * IntKind.i64.wrap ((1000:Int) + x.p.damp.lo))≤IntKind.i64.wrap ((1000:Int) * c.p.slack)))) ([])) (QC.leaf (AV.bool true false) ([])))):=by kernel_rfl
theorem QMN (x:Qn) (c:Qn):Qs (mkE Try.prog Yq) (hnd (mkE Try.prog Yq) 0) false Try.f98 (Qi.enc ((x,(D.wide c),()):Qn×D×Unit)) [] 0 =
  QC.need (decide c.B) (QC.need (decide c.B) (QC.br (decide ((0:Int)≤IntKind.i64.wrap (min (max (0:Int) (QY c.t c.h).lo) (QY c.t c.h).hi * IntKind.i64.wrap ((1000
  : Int) + x.p.damp.lo)))) (QC.leaf (AV.bool false (decide (IntKind.i64.wrap (min (max (0:Int) (QY c.t c.h).lo) (QY c.t c.h).hi * IntKind.i64.wrap ((1000:Int) +
  x.p.damp.lo))≤IntKind.i64.wrap ((1000:Int) * c.p.loose)))) ([])) (QC.leaf (AV.bool true false) ([])))):=by kernel_rfl
theorem QLO (x:Qn) (c:Qn):Qs (mkE Try.prog Yq) (hnd (mkE Try.prog Yq) 0) false Try.f98 (Qi.enc ((x,(D.deep c),()):Qn×D×Unit)) [] 0 =
  QC.need (decide c.B) (QC.need (decide c.B) (QC.br (decide ((0:Int)≤IntKind.i64.wrap (min (max (0:Int) (QZ c.t c.h).lo) (QZ c.t c.h).hi * IntKind.i64.wrap ((1000
  : Int) + x.p.damp.lo)))) (QC.leaf (AV.bool false (decide (IntKind.i64.wrap (min (max (0:Int) (QZ c.t c.h).lo) (QZ c.t c.h).hi * IntKind.i64.wrap ((1000:Int) +
  x.p.damp.lo))≤IntKind.i64.wrap ((1000:Int) * c.p.loose)))) ([])) (QC.leaf (AV.bool true false) ([])))):=by kernel_rfl
theorem QMG:QM Try.prog 98 QKE:=by
 refine Q2 QEo 0 Try.func98 (by kernel_rfl) (by kernel_rfl) ?_
 rintro ⟨x,(c|c|c),⟨⟩⟩ hp
 ·rw [QSD x c]
  simp only [HW,QC.den,AV.same,AV.sameL,and_true,true_and] at hp ⊢
  have hq:=of_decide_eq_true hp
  obtain ⟨⟨hx,_⟩,hc⟩:=hq
  refine ⟨decide_eq_true hc,decide_eq_true hc,?_⟩
  obtain ⟨h1,h2,h3⟩:=hc
  unfold JM at h1 hx;unfold JL at h2 h3;simp only [D.c] at h1 h2 h3
  first
   | (refine Gr ?_ ?_ ?_ ?_ ?_<;>(try simp only [Qa,QY,QZ])<;>omega)
   | (refine QCc ?_ ?_ ?_ ?_<;>(try simp only [Qa,QY,QZ])<;>omega)
 ·rw [QMN x c]
  simp only [HW,QC.den,AV.same,AV.sameL,and_true,true_and] at hp ⊢
  have hq:=of_decide_eq_true hp
  obtain ⟨⟨hx,_⟩,hc⟩:=hq
  refine ⟨decide_eq_true hc,decide_eq_true hc,?_⟩
  obtain ⟨h1,h2,h3⟩:=hc
  unfold JM at h1 hx;unfold JL at h2 h3;simp only [D.c] at h1 h2 h3
  first
   | (refine Gr ?_ ?_ ?_ ?_ ?_<;>(try simp only [Qa,QY,QZ])<;>omega)
   | (refine QCc ?_ ?_ ?_ ?_<;>(try simp only [Qa,QY,QZ])<;>omega)
 ·rw [QLO x c]
  simp only [HW,QC.den,AV.same,AV.sameL,and_true,true_and] at hp ⊢
  have hq:=of_decide_eq_true hp
  obtain ⟨⟨hx,_⟩,hc⟩:=hq
  refine ⟨decide_eq_true hc,decide_eq_true hc,?_⟩
  obtain ⟨h1,h2,h3⟩:=hc
  unfold JM at h1 hx;unfold JL at h2 h3;simp only [D.c] at h1 h2 h3
  first
   | (refine Gr ?_ ?_ ?_ ?_ ?_<;>(try simp only [Qa,QY,QZ])<;>omega)
   | (refine QCc ?_ ?_ ?_ ?_<;>(try simp only [Qa,QY,QZ])<;>omega)
def zu:Tab:=QX Yq 98 QKE
theorem QJA:QU zu:=QEo.add QMG
def QEd:Qn×Unit→Bool×AV:=fun|(x,_)=>(decide x.B,.int false .i64 (X0 x.p x.t x.h))
def QGL:FC:=Qw (Qx QEd)
theorem QP3 (x:Qn) :Qs (mkE Try.prog zu) (hnd (mkE Try.prog zu) 14) false Try.f87 (Qi.enc ((x,()):Qn×Unit)) [] 0 = .need (decide (x.B∧(D.off x).c.B)) (.br (!KM
  (D.off x).by_.lo (D.off x).by_.hi (D.off x).lo (D.off x).hi x.p.damp.hi) (.need (decide (x.B∧(D.off x).c.B)) (.br (!Qk (D.off x).by_.lo (D.off x).by_.hi (D.off x).lo (D.off
  x).hi x.p.damp.lo) (.leaf (.int true .i64 (0:Int)) ([])) (.need (decide (x.B∧(D.wide x).c.B)) (.br (!Qk (D.wide x).by_.lo (D.wide x).by_.hi (D.wide x).lo (D.wide x).hi
  x.p.damp.lo) (.leaf (.int true .i64 (0:Int)) ([])) (.need (decide (x.B∧(D.deep x).c.B)) (.br (!Qk (D.deep x).by_.lo (D.deep x).by_.hi (D.deep x).lo (D.deep x).hi
  x.p.damp.lo) (.leaf (.int true .i64 (0:Int)) ([])) (.leaf (.int true .i64 (1:Int)) ([])))))))) (.need (decide (x.B∧(D.wide x).c.B)) (.br (!KM (D.wide x).by_.lo (D.wide
  x).by_.hi (D.wide x).lo (D.wide x).hi x.p.damp.hi) (.need (decide (x.B∧(D.off x).c.B)) (.br (!Qk (D.off x).by_.lo (D.off x).by_.hi (D.off x).lo (D.off x).hi x.p.damp.lo)
  (.leaf (.int true .i64 (0:Int)) ([])) (.need (decide (x.B∧(D.wide x).c.B)) (.br (!Qk (D.wide x).by_.lo (D.wide x).by_.hi (D.wide x).lo (D.wide x).hi x.p.damp.lo) (.leaf
  (.int true .i64 (0:Int)) ([])) (.need (decide (x.B∧(D.deep x).c.B)) (.br (!Qk (D.deep x).by_.lo (D.deep x).by_.hi (D.deep x).lo (D.deep x).hi x.p.damp.lo) (.leaf (.int
  true .i64 (0:Int)) ([])) (.leaf (.int true .i64 (1:Int)) ([])))))))) (.need (decide (x.B∧(D.deep x).c.B)) (.br (!KM (D.deep x).by_.lo (D.deep x).by_.hi (D.deep x).lo
  (D.deep x).hi x.p.damp.hi) (.need (decide (x.B∧(D.off x).c.B)) (.br (!Qk (D.off x).by_.lo (D.off x).by_.hi (D.off x).lo (D.off x).hi x.p.damp.lo) (.leaf (.int true .i64 (0 :
  Int)) ([])) (.need (decide (x.B∧(D.wide x).c.B)) (.br (!Qk (D.wide x).by_.lo (D.wide x).by_.hi (D.wide x).lo (D.wide x).hi x.p.damp.lo) (.leaf (.int true .i64 (0:Int))
  ([])) (.need (decide (x.B∧(D.deep x).c.B)) (.br (!Qk (D.deep x).by_.lo (D.deep x).by_.hi (D.deep x).lo (D.deep x).hi x.p.damp.lo) (.leaf (.int true .i64 (0:Int)) ([]))
  (.leaf (.int true .i64 (1:Int)) ([])))))))) (.leaf (.int true .i64 (2:Int)) ([]))))))):=by kernel_rfl
theorem QMS:QM Try.prog 87 QGL:=by
 refine Q2 QJA 14 Try.func87 (by kernel_rfl) (by kernel_rfl) ?_
 rintro ⟨x,⟨⟩⟩ hp
 rw [QP3 x]
 simp only [QEd,QC.den,AV.same,AV.sameL,and_true,true_and] at hp ⊢
 have hB:=of_decide_eq_true hp
 have d1:decide (x.B∧(D.off x).c.B)=true:=decide_eq_true ⟨hB,hB⟩
 have d2:decide (x.B∧(D.wide x).c.B)=true:=decide_eq_true ⟨hB,hB⟩
 have d3:decide (x.B∧(D.deep x).c.B)=true:=decide_eq_true ⟨hB,hB⟩
 have a0:KM (D.off x).by_.lo (D.off x).by_.hi (D.off x).lo (D.off x).hi x.p.damp.hi=alw x.p x.t x.h 0:=rfl
 have a1:KM (D.wide x).by_.lo (D.wide x).by_.hi (D.wide x).lo (D.wide x).hi x.p.damp.hi=alw x.p x.t x.h 1:=rfl
 have a2:KM (D.deep x).by_.lo (D.deep x).by_.hi (D.deep x).lo (D.deep x).hi x.p.damp.hi=alw x.p x.t x.h 2:=rfl
 have b0:Qk (D.off x).by_.lo (D.off x).by_.hi (D.off x).lo (D.off x).hi x.p.damp.lo=may x.p x.t x.h 0:=rfl
 have b1:Qk (D.wide x).by_.lo (D.wide x).by_.hi (D.wide x).lo (D.wide x).hi x.p.damp.lo=may x.p x.t x.h 1:=rfl
 have b2:Qk (D.deep x).by_.lo (D.deep x).by_.hi (D.deep x).lo (D.deep x).hi x.p.damp.lo=may x.p x.t x.h 2:=rfl
 simp only [d1,d2,d3,a0,a1,a2,b0,b1,b2,QA3,true_and]
 cases alw x.p x.t x.h 0<;>cases alw x.p x.t x.h 1<;>cases alw x.p x.t x.h 2<;>cases may x.p x.t x.h 0<;>cases may x.p x.t x.h 1<;>cases may x.p x.t x.h 2<;>simp
def Hu:Tab:=QX zu 87 QGL
theorem QE1:QU Hu:=QJA.add QMS
theorem QNq {p:Qg} (h:p.ok=true):JM p:=by rw [Qg.ok_iff] at h;unfold JM;omega
theorem QG3 {e:Edge} (h:e.ok=true) (hk:e.kind=1∨e.kind=2):JL e:=by rw [Edge.ok_iff] at h;unfold JL;omega
end Go.Proofs.Ytbpffdkemeoajaa
namespace Go.Proofs.Ytbpffdkemeoajaa
open Go.SX
def okP (p:Qg) (a b:Edge):Bool:=p.ok&&(a.ok&&b.ok)
instance : Enc Gap where
  enc x := .agg [.int false .i64 x.off.lo, .int false .i64 x.off.hi, .int false .i64 x.wide.lo, .int false .i64 x.wide.hi, .int false .i64 x.deep.lo, .int false .i64 x.deep.hi]
  dec | .agg [.int _ .i64 a0, .int _ .i64 a1, .int _ .i64 a2, .int _ .i64 a3, .int _ .i64 a4, .int _ .i64 a5] => some ⟨⟨a0, a1⟩, ⟨a2, a3⟩, ⟨a4, a5⟩⟩ | _ => none
  ok v x h := by
    split at h <;> (try (cases h; done))
    simp only [Option.some.injEq] at h; subst h; exact ⟨fun _ => rfl, rfl⟩
theorem QAU {p:Qg} {a b:Edge} (h1:p.ok=true) (h2:a.ok=true) (h3:b.ok=true) (ha:a.kind=1) (hb:b.kind=2):Qn.B ⟨p,a,b⟩:=⟨QNq h1,QG3 h2 (.inl ha),QG3 h3 (.inr hb)⟩
def Edge.zero:Edge:=⟨0,⟨0,0⟩,⟨0,0⟩,⟨0,0⟩⟩
def QHc (s:Edge) (w:Sp) (n:Int):Prop:=JL s∧(0≤w.lo∧w.lo≤100∧0≤w.hi∧w.hi≤100)∧0≤n∧n≤20000
instance (s : Edge) (w : Sp) (n : Int) : Decidable (QHc s w n) := by unfold QHc; infer_instance
def QEl:Qg×Edge×Edge×Unit→Bool×AV:=fun|(p,(a,(b,_)))=>(okP p a b,.int false .i64 (Xz p a b))
def QJK:FC:=Qw (Qx QEl)
theorem QRS (p:Qg) (a:Edge) (b:Edge):Qs (mkE Try.prog Hu) (hnd (mkE Try.prog Hu) 4) false Try.f61 (Qi.enc ((p,a,b,()):Qg×Edge×Edge×Unit)) [] 0 =
  QC.br (a.kind == (2:Int)) (QC.br (b.kind == (1:Int)) (QC.br (a.kind == (2:Int)) (QC.need (decide (Qn.mk p b a).B) (QC.leaf (AV.int false IntKind.i64 (X0 p b
  a)) ([]))) (QC.leaf (AV.int true IntKind.i64 (0:Int)) ([]))) (QC.leaf (AV.int true IntKind.i64 (0:Int)) ([]))) (QC.br (a.kind == (1:Int)) (QC.br (b.kind == (2:Int))
  (QC.need (decide (Qn.mk p a b).B) (QC.leaf (AV.int false IntKind.i64 (X0 p a b)) ([]))) (QC.leaf (AV.int true IntKind.i64 (0:Int)) ([]))) (QC.leaf (AV.int true
  IntKind.i64 (0:Int)) ([]))):=by kernel_rfl
theorem QPf:QM Try.prog 61 QJK:=by
 refine Q2 QE1 4 Try.func61 (by kernel_rfl) (by kernel_rfl) ?_
 rintro ⟨p,a,b,⟨⟩⟩ hp
 rw [QRS p a b]
 simp only [QEl,QC.den,AV.same,AV.sameL,and_true,true_and] at hp ⊢
 unfold okP at hp
 simp only [Bool.and_eq_true] at hp
 obtain ⟨h1,h2,h3⟩:=hp
 unfold Xz
 simp only [beq_iff_eq,beq_eq_false_iff_ne]
 refine ⟨fun ha=>⟨fun hb => ?_,fun hb=>by rw [if_pos ha,if_neg hb]⟩,fun ha=>⟨fun ha1 => ?_,fun ha1=>by rw [if_neg ha,if_neg (fun h=>ha1 h.1)]⟩⟩
 ·refine ⟨fun _=>⟨decide_eq_true (QAU h1 h3 h2 hb ha),by rw [if_pos ha,if_pos hb]⟩,fun h=>absurd ha h⟩
 ·refine ⟨fun hb=>⟨decide_eq_true (QAU h1 h2 h3 ha1 hb),by rw [if_neg ha,if_pos ⟨ha1,hb⟩]⟩,fun hb=>by rw [if_neg ha,if_neg (fun h=>hb h.2)]⟩
def vo:Tab:=QX Hu 61 QJK
theorem QI8:QU vo:=QE1.add QPf
def QEv:Qg×Edge×Edge×Unit→Bool×AV:=fun|(p,(a,(b,_)))=>(true,.tup [.int false .i64 (Q5 p a b).1,.int false .i64 (Q5 p a b).2])
def QFT:FC:=Qw (Qx QEv)
theorem QM2 (p:Qg) (a:Edge) (b:Edge):Qs (mkE Try.prog vo) (hnd (mkE Try.prog vo) 14) false Try.f32 (Qi.enc ((p,a,b,()):Qg×Edge×Edge×Unit)) [] 0 =
  QC.need (true) (QC.br (!p.ok) (QC.leaf (AV.tup [AV.int true IntKind.i64 (0:Int),AV.int true IntKind.i64 (1:Int)]) ([])) (QC.need (true) (QC.br (!a.ok) (QC.leaf
  (AV.tup [AV.int true IntKind.i64 (0:Int),AV.int true IntKind.i64 (1:Int)]) ([])) (QC.need (true) (QC.br (!b.ok) (QC.leaf (AV.tup [AV.int true IntKind.i64 (0:Int),
  AV.int true IntKind.i64 (1:Int)]) ([])) (QC.need (okP p a b) (QC.leaf (AV.tup [AV.int false IntKind.i64 (Xz p a b),AV.int true IntKind.i64 (0:Int)]) ([])))))))):=by kernel_rfl
theorem QLk:QM Try.prog 32 QFT:=by
 refine Q2 QI8 14 Try.func32 (by kernel_rfl) (by kernel_rfl) ?_
 rintro ⟨p,a,b,⟨⟩⟩ hp
 rw [QM2 p a b]
 simp only [QEv,QC.den,AV.same,AV.sameL,and_true,true_and] at hp ⊢
 unfold Q5 okP
 cases p.ok<;>cases a.ok<;>cases b.ok<;>simp
def Hy:Tab:=QX vo 32 QFT
theorem QFk:QU Hy:=QI8.add QLk
end Go.Proofs.Ytbpffdkemeoajaa
