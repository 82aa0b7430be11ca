/- - -/
import Derived.Test.YtbpffdkemeoajaaProg
import Derived.Test.YtbpffdkemeoajaaMxm
import Derived.Test.YtbpffdkemeoajaaMxn
import Derived.KernelRfl
open Go.IntKind (i64)
set_option maxRecDepth 100000
namespace Go.Proofs.Ytbpffdkemeoajaa
open Go.SX
theorem jQ:Try.prog.follows .mixedOrders=true:=by kernel_rfl
abbrev Tab:=FuncId→Option FC
def HD:Tab:=fun _=>none
def Qb(C:Tab)(f:FuncId)(fc:FC):Tab:=fun g=>match g==f with
 | true=>some fc
 | false=>C g
def QV(C:Tab):Prop:=∀ f fc,C f=some fc→QQ Try.prog f fc
theorem QV.add{C:Tab}(h:QV C){f:FuncId}{fc:FC}(hf:QQ Try.prog f fc):QV (Qb C f fc):=by
 intro g fc' e;unfold Qb at e;split at e
 ·rename_i hg;simp only[qsI]at e;subst e;have:g=f:=by simpa using hg
  subst this;exact hf
 ·exact h g fc' e
theorem QFp:QV HD:=fun _ _ h=>by cases h
instance : Enc Sp where
  enc x := .agg [.int false .i64 x.lo,.int false .i64 x.hi]
  dec | .agg [.int _ .i64 a0,.int _ .i64 a1] => some ⟨a0,a1⟩ | _ => none
  ok v x h := by
    split at h <;> (try (cases h; done))
    simp only[qsI]at h; subst h; exact⟨fun _ => rfl,rfl⟩
instance : Enc Edge where
  enc x := .agg [.int false .i64 x.kind,.int false .i64 x.at_.lo,.int false .i64 x.at_.hi,.int false .i64 x.wide.lo,.int false .i64 x.wide.hi,.int false .i64 x.deep.lo,.int false .i64 x.deep.hi]
  dec | .agg [.int _ .i64 a0,.int _ .i64 a1,.int _ .i64 a2,.int _ .i64 a3,.int _ .i64 a4,.int _ .i64 a5,.int _ .i64 a6] => some ⟨a0,⟨a1,a2⟩,⟨a3,a4⟩,⟨a5,a6⟩⟩ | _ => none
  ok v x h := by
    split at h <;> (try (cases h; done))
    simp only[qsI]at h; subst h; exact⟨fun _ => rfl,rfl⟩
instance : Enc Ql where
  enc x := .agg [.int false .i64 x.length,.int false .i64 x.slack,.int false .i64 x.loose,.int false .i64 x.damp.lo,.int false .i64 x.damp.hi]
  dec | .agg [.int _ .i64 a0,.int _ .i64 a1,.int _ .i64 a2,.int _ .i64 a3,.int _ .i64 a4] => some ⟨a0,a1,a2,⟨a3,a4⟩⟩ | _ => none
  ok v x h := by
    split at h <;> (try (cases h; done))
    simp only[qsI]at h; subst h; exact⟨fun _ => rfl,rfl⟩
structure Qr where
 p:Ql
 t:Edge
 h:Edge
inductive D where
 | off (c:Qr)
 | wide (c:Qr)
 | deep (c:Qr)
instance : Enc Qr where
  enc x := .agg [.int false .i64 x.p.length,.int false .i64 x.p.slack,.int false .i64 x.p.loose,.int false .i64 x.p.damp.lo,.int false .i64 x.p.damp.hi,
    .int false .i64 x.t.kind,.int false .i64 x.t.at_.lo,.int false .i64 x.t.at_.hi,.int false .i64 x.t.wide.lo,.int false .i64 x.t.wide.hi,.int false .i64 x.t.deep.lo,.int false .i64 x.t.deep.hi,
    .int false .i64 x.h.kind,.int false .i64 x.h.at_.lo,.int false .i64 x.h.at_.hi,.int false .i64 x.h.wide.lo,.int false .i64 x.h.wide.hi,.int false .i64 x.h.deep.lo,.int false .i64 x.h.deep.hi]
  dec | .agg [.int _ .i64 p0,.int _ .i64 p1,.int _ .i64 p2,.int _ .i64 p3,.int _ .i64 p4,
      .int _ .i64 a0,.int _ .i64 a1,.int _ .i64 a2,.int _ .i64 a3,.int _ .i64 a4,.int _ .i64 a5,.int _ .i64 a6,
      .int _ .i64 b0,.int _ .i64 b1,.int _ .i64 b2,.int _ .i64 b3,.int _ .i64 b4,.int _ .i64 b5,.int _ .i64 b6] =>
        some ⟨⟨p0,p1,p2,⟨p3,p4⟩⟩,⟨a0,⟨a1,a2⟩,⟨a3,a4⟩,⟨a5,a6⟩⟩,⟨b0,⟨b1,b2⟩,⟨b3,b4⟩,⟨b5,b6⟩⟩⟩
      | _ => none
  ok v x h := by
    split at h <;> (try (cases h; done))
    simp only[qsI]at h; subst h; exact⟨fun _ => rfl,rfl⟩
instance : Enc D where
  enc | .off c => .ifc 167 (Enc.enc c)
      | .wide c => .ifc 168 (Enc.enc c)
      | .deep c => .ifc 169 (Enc.enc c)
  dec | .ifc t v => match (Enc.dec v : Option Qr)with
        | some c => if t = 167 then some (.off c)else if t = 168 then some (.wide c)else if t = 169 then some (.deep c)else none
        | none => none
      | _ => none
  ok v x h := by
    split at h <;> (try (cases h; done))
    split at h <;> (try (cases h; done))
    rename_i t v c hc;have h1 := Enc.ok _ c hc;split at h
    · rename_i e; simp only[qsI]at h; subst h e
      exact⟨fun r => by simp only[AV.den]; rw[h1.1 r],h1.2⟩
    · split at h
      · rename_i e; simp only[qsI]at h; subst h e
        exact⟨fun r => by simp only[AV.den]; rw[h1.1 r],h1.2⟩
      · split at h <;> (try (cases h; done))
        rename_i e; simp only[qsI]at h; subst h e;exact⟨fun r => by simp only[AV.den]; rw[h1.1 r],h1.2⟩
theorem w64{n:Int}(h1 : -9223372036854775808≤n)(h2:n≤9223372036854775807):i64.wrap n=n:=IntWalk.i64_in n ⟨h1,h2⟩
def Jd(e:Edge):Prop:=(0≤e.at_.lo∧e.at_.lo≤10000∧0≤e.at_.hi∧e.at_.hi≤10000)∧(0≤e.wide.lo∧e.wide.lo≤3000∧0≤e.wide.hi∧e.wide.hi≤3000)∧(0≤e.deep.lo∧e.deep.lo≤3000∧0≤e.deep.hi∧e.deep.hi≤3000)
def Jh(p:Ql):Prop:=(1≤p.length∧p.length≤10000)∧(0≤p.slack∧p.slack≤500)∧(0≤p.loose∧p.loose≤500)∧(0≤p.damp.lo∧p.damp.lo≤100)∧0≤p.damp.hi∧p.damp.hi≤100
def Qr.B(c:Qr):Prop:=Jh c.p∧Jd c.t∧Jd c.h
instance (e : Edge) : Decidable (Jd e) := by unfold Jd; infer_instance
instance (p : Ql) : Decidable (Jh p) := by unfold Jh; infer_instance
instance (c : Qr) : Decidable c.B := by unfold Qr.B; infer_instance
def D.by_:D→Sp
 | .off c=>Qe c.p c.t c.h
 | .wide c=>Qf c.t c.h
 | .deep c=>Qd c.t c.h
def D.lo:D→Int
 | .off c => -c.p.slack
 | _=>0
def D.hi:D→Int
 | .off c=>c.p.slack
 | .wide c=>c.p.loose
 | .deep c=>c.p.loose
def D.c:D→Qr
 | .off c=>c
 | .wide c=>c
 | .deep c=>c
abbrev mkE(P:Program)(C:Tab):Env:=⟨P,C,Zz P,false,fun _=>false,false,false,false⟩
theorem QR{C:Tab}(hC:QV C):(mkE Try.prog C).Sound:={ c:=hC,m:=jL Try.prog,mixed:=jQ }
abbrev mkF(P:Program)(C:Tab):Env:=⟨P,C,Zz P,false,fun _=>false,false,false,true⟩
theorem jJ{C:Tab}(hC:QV C):(mkF Try.prog C).Sound:={ c:=hC,m:=jL Try.prog,mixed:=jQ }
abbrev mkS(P:Program)(C:Tab):Env:=⟨P,C,Zz P,true,fun _=>false,false,false,false⟩
theorem X3{C:Tab}(hC:QV C):(mkS Try.prog C).Sound:={ c:=hC,m:=jL Try.prog,mixed:=jQ }
def binds(fs:List FuncId):Op→Bool
 | .call ⟨.value (.func f),_,_⟩=>fs.contains f
 | .binOp .mul _ _ _ _=>true
 | _=>false
def Qq(fn:Func):Code:=fn.body.getD .skip
theorem Q7{C:Tab}(hC:QV C)(d:Nat){f:FuncId}{fn:Func}(hf:Try.prog.funcs[f]? = some fn)(hb:fn.body=some (Qq fn))(hgo:JM Try.prog f=true){α:Type}[Qm α]{F:α→Bool×AV}(hF:∀ x,(F x).1=true→(Qt (mkE Try.prog C) (hnd (mkE Try.prog C) d) false fn (Qm.enc x) [] 0).den fun u _=>u.same (F x).2):QQ Try.prog f (Q3 (Q1 F)):=
 QBg (QR hC) hf hb hgo (fun G _ hG=>Qv (QR hC) d G _ hG) hF
def QG0:Sp×Int×Int×Unit→Bool×AV:=fun|(s,(a,(b,_)))=>(true,.bool false (s.isIn a b))
def QI7:FC:=Q3 (Q1 QG0)
theorem QUZ(s:Sp)(a:Int)(b:Int):Qt (mkE Try.prog HD) (hnd (mkE Try.prog HD) 0) false Try.f82 (Qm.enc ((s,a,b,()):Sp×Int×Int×Unit)) [] 0 =
  QB.br (decide (a≤s.lo)) (QB.br (decide (s.lo≤s.hi)) (QB.leaf (AV.bool false (decide (s.hi≤b))) ([])) (QB.leaf (AV.bool true false) ([]))) (QB.leaf (AV.bool true
  false) ([])):=by kernel_rfl
theorem QQr:QQ Try.prog 82 QI7:=by
 refine Q7 QFp 0 Try.func82 (by kernel_rfl) (by kernel_rfl) ?_
 rintro⟨s,a,b,⟨⟩⟩ hp;rw[QUZ s a b];simp only[QG0,QB.den,AV.same,AV.sameL,and_true,true_and]at hp ⊢
 (repeat' (first|(refine And.intro ?_ ?_)|(intro _)))<;>simp_all [Sp.isIn]<;>omega
def zh:Tab:=Qb HD 82 QI7
theorem QHB:QV zh:=QFp.add QQr
def QK0:Int×Int×Int×Unit→Bool×AV:=fun|(n,(a,(b,_)))=>(true,.bool false (QX n a b))
def QJ9:FC:=Q3 (Q1 QK0)
theorem QUL(n:Int)(a:Int)(b:Int):Qt (mkE Try.prog zh) (hnd (mkE Try.prog zh) 0) false Try.f81 (Qm.enc ((n,a,b,()):Int×Int×Int×Unit)) [] 0 =
  QB.br (decide (a≤n)) (QB.leaf (AV.bool false (decide (n≤b))) ([])) (QB.leaf (AV.bool true false) ([])):=by kernel_rfl
theorem QMi:QQ Try.prog 81 QJ9:=by
 refine Q7 QHB 0 Try.func81 (by kernel_rfl) (by kernel_rfl) ?_
 rintro⟨n,a,b,⟨⟩⟩ hp;rw[QUL n a b];simp only[QK0,QB.den,AV.same,AV.sameL,and_true,true_and]at hp ⊢
 (repeat' (first|(refine And.intro ?_ ?_)|(intro _)))<;>simp_all [QX]<;>omega
def Gk:Tab:=Qb zh 81 QJ9
theorem QGn:QV Gk:=QHB.add QMi
def QEM:Edge×Unit→Bool×AV:=fun|(a,_)=>(true,.bool false a.ok)
def QFZ:FC:=Q3 (Q1 QEM)
theorem QWO(a:Edge):Qt (mkE Try.prog Gk) (hnd (mkE Try.prog Gk) 0) false Try.f85 (Qm.enc ((a,()):Edge×Unit)) [] 0 =
  QB.br (a.kind==(0:Int)) (QB.leaf (AV.bool true true) ([])) (QB.br (a.kind==(1:Int)) (QB.need (true) (QB.br (a.at_.isIn (0:Int) (10000:Int)) (QB.need (true)
  (QB.br (a.wide.isIn (1:Int) (3000:Int)) (QB.need (true) (QB.leaf (AV.bool false (a.deep.isIn (1:Int) (3000:Int))) ([]))) (QB.leaf (AV.bool true false) ([]))))
  (QB.leaf (AV.bool true false) ([])))) (QB.br (a.kind==(2:Int)) (QB.need (true) (QB.br (a.at_.isIn (0:Int) (10000:Int)) (QB.need (true) (QB.br (a.wide.isIn (1 :
  Int) (3000:Int)) (QB.need (true) (QB.leaf (AV.bool false (a.deep.isIn (1:Int) (3000:Int))) ([]))) (QB.leaf (AV.bool true false) ([])))) (QB.leaf (AV.bool true false)
  ([])))) (QB.leaf (AV.bool true false) ([])))):=by kernel_rfl
theorem QOG:QQ Try.prog 85 QFZ:=by
 refine Q7 QGn 0 Try.func85 (by kernel_rfl) (by kernel_rfl) ?_
 rintro⟨a,⟨⟩⟩ hp;rw[QWO a];simp only[QEM,QB.den,AV.same,AV.sameL,and_true,true_and]at hp ⊢
 (repeat' (first|(refine And.intro ?_ ?_)|(intro _)))<;>simp_all [Edge.ok]
def HA:Tab:=Qb Gk 85 QFZ
theorem QKa:QV HA:=QGn.add QOG
def QHz:Ql×Unit→Bool×AV:=fun|(p,_)=>(true,.bool false p.ok)
def QLo:FC:=Q3 (Q1 QHz)
theorem QU4(p:Ql):Qt (mkE Try.prog HA) (hnd (mkE Try.prog HA) 0) false Try.f59 (Qm.enc ((p,()):Ql×Unit)) [] 0 =
  QB.need (true) (QB.br (QX p.length (1:Int) (10000:Int)) (QB.need (true) (QB.br (QX p.slack (0:Int) (500:Int)) (QB.need (true) (QB.br (QX p.loose (0 :
  Int) (500:Int)) (QB.need (true) (QB.leaf (AV.bool false (p.damp.isIn (0:Int) (100:Int))) ([]))) (QB.leaf (AV.bool true false) ([])))) (QB.leaf (AV.bool true false)
  ([])))) (QB.leaf (AV.bool true false) ([]))):=by kernel_rfl
theorem QS3:QQ Try.prog 59 QLo:=by
 refine Q7 QKa 0 Try.func59 (by kernel_rfl) (by kernel_rfl) ?_
 rintro⟨p,⟨⟩⟩ hp;rw[QU4 p];simp only[QHz,QB.den,AV.same,AV.sameL,and_true,true_and]at hp ⊢
 (repeat' (first|(refine And.intro ?_ ?_)|(intro _)))<;>simp_all [Ql.ok]
def Gn:Tab:=Qb HA 59 QLo
theorem QF4:QV Gn:=QKa.add QS3
def QID:Sp×Sp×Unit→Bool×AV:=fun|(s,(o,_))=>(decide (Sm s.lo∧Sm s.hi∧Sm o.lo∧Sm o.hi),Enc.enc (s.less o))
def QI2:FC:=Q3 (Q1 QID)
theorem QVJ(s:Sp)(o:Sp):Qt (mkE Try.prog Gn) (hnd (mkE Try.prog Gn) 0) false Try.f132 (Qm.enc ((s,o,()):Sp×Sp×Unit)) [] 0 =
  QB.leaf (AV.agg [AV.int false i64 (i64.wrap (s.lo-o.hi)),AV.int false i64 (i64.wrap (s.hi-o.lo))]) ([]):=by kernel_rfl
theorem QMv:QQ Try.prog 132 QI2:=by
 refine Q7 QF4 0 Try.func132 (by kernel_rfl) (by kernel_rfl) ?_
 rintro⟨s,o,⟨⟩⟩ hp;rw[QVJ s o];simp only[QID,QB.den,AV.same,AV.sameL,and_true,true_and]at hp ⊢;have hp:=qdt hp;unfold Sm at hp;simp only[Sp.less,Enc.enc,AV.same,AV.sameL];rw[w64 (by omega) (by omega),w64 (by omega) (by omega)];simp
def GK:Tab:=Qb Gn 132 QI2
theorem QFH:QV GK:=QF4.add QMv
def QJb:Sp×Sp×Unit→Bool×AV:=fun|(s,(o,_))=>(decide (Sm s.lo∧Sm s.hi∧Sm o.lo∧Sm o.hi),Enc.enc (s.plus o))
def QF2:FC:=Q3 (Q1 QJb)
theorem QUy(s:Sp)(o:Sp):Qt (mkE Try.prog GK) (hnd (mkE Try.prog GK) 0) false Try.f129 (Qm.enc ((s,o,()):Sp×Sp×Unit)) [] 0 =
  QB.leaf (AV.agg [AV.int false i64 (i64.wrap (s.lo+o.lo)),AV.int false i64 (i64.wrap (s.hi+o.hi))]) ([]):=by kernel_rfl
theorem QN5:QQ Try.prog 129 QF2:=by
 refine Q7 QFH 0 Try.func129 (by kernel_rfl) (by kernel_rfl) ?_
 rintro⟨s,o,⟨⟩⟩ hp;rw[QUy s o];simp only[QJb,QB.den,AV.same,AV.sameL,and_true,true_and]at hp ⊢;have hp:=qdt hp;unfold Sm at hp;simp only[Sp.plus,Enc.enc,AV.same,AV.sameL];rw[w64 (by omega) (by omega),w64 (by omega) (by omega)];simp
def GD:Tab:=Qb GK 129 QF2
theorem QMH:QV GD:=QFH.add QN5
def QJB:Qr×Unit→Bool×AV:=fun|(c,_)=>(decide c.B,Enc.enc (Qe c.p c.t c.h))
def QKj:FC:=Q3 (Q1 QJB)
theorem QTG(c:Qr):Qt (mkE Try.prog GD) (hnd (mkE Try.prog GD) 0) false Try.f128 (Qm.enc ((c,()):Qr×Unit)) [] 0 =
  QB.need (decide (Sm c.t.at_.lo∧Sm c.t.at_.hi∧Sm c.h.at_.lo∧Sm c.h.at_.hi)) (QB.need (decide (Sm (c.t.at_.plus c.h.at_).lo∧Sm (c.t.at_.plus c.h.at_).hi∧Sm
  (i64.wrap ((0:Int)-c.p.length))∧Sm (i64.wrap ((0:Int)-c.p.length)))) (QB.leaf (AV.agg [AV.int false i64 ((c.t.at_.plus c.h.at_).plus (Sp.mk
  (i64.wrap ((0:Int)-c.p.length)) (i64.wrap ((0:Int)-c.p.length)))).lo,AV.int false i64 ((c.t.at_.plus c.h.at_).plus (Sp.mk (i64.wrap ((0 :
  Int)-c.p.length)) (i64.wrap ((0:Int)-c.p.length)))).hi]) ([]))):=by kernel_rfl
theorem QPL:QQ Try.prog 128 QKj:=by
 refine Q7 QMH 0 Try.func128 (by kernel_rfl) (by kernel_rfl) ?_
 rintro⟨c,⟨⟩⟩ hp;rw[QTG c];simp only[QJB,QB.den,AV.same,AV.sameL,and_true,true_and]at hp ⊢;have hp:=qdt hp;obtain⟨h1,h2,h3⟩:=hp;unfold Jh at h1;unfold Jd at h2 h3;have e:i64.wrap (0-c.p.length) = -c.p.length:=by rw[w64 (by omega) (by omega)];omega
 rw[e];refine⟨decide_eq_true (by unfold Sm;omega),decide_eq_true (by unfold Sm Sp.plus;simp only;omega),?_⟩
 simp[Qe,Sp.plus,Enc.enc,AV.same,AV.sameL]
def GX:Tab:=Qb GD 128 QKj
theorem QHG:QV GX:=QMH.add QPL
def QGL:Qr×Unit→Bool×AV:=fun|(c,_)=>(decide c.B,Enc.enc (Qf c.t c.h))
def QEI:FC:=Q3 (Q1 QGL)
theorem QOe(c:Qr):Qt (mkE Try.prog GX) (hnd (mkE Try.prog GX) 0) false Try.f131 (Qm.enc ((c,()):Qr×Unit)) [] 0 =
  QB.need (decide (Sm c.h.wide.lo∧Sm c.h.wide.hi∧Sm c.t.wide.lo∧Sm c.t.wide.hi)) (QB.leaf (AV.agg [AV.int false i64 (c.h.wide.less c.t.wide).lo,AV.int false
  i64 (c.h.wide.less c.t.wide).hi]) ([])):=by kernel_rfl
theorem QSy:QQ Try.prog 131 QEI:=by
 refine Q7 QHG 0 Try.func131 (by kernel_rfl) (by kernel_rfl) ?_
 rintro⟨c,⟨⟩⟩ hp;rw[QOe c];simp only[QGL,QB.den,AV.same,AV.sameL,and_true,true_and]at hp ⊢;have hp:=qdt hp;obtain⟨h1,h2,h3⟩:=hp;unfold Jh at h1;unfold Jd at h2 h3;refine⟨decide_eq_true (by unfold Sm;omega),?_⟩
 simp[Qf,Sp.less,Enc.enc,AV.same,AV.sameL]
def QAn:Tab:=Qb GX 131 QEI
theorem QEq:QV QAn:=QHG.add QSy
def QHO:Qr×Unit→Bool×AV:=fun|(c,_)=>(decide c.B,Enc.enc (Qd c.t c.h))
def QH4:FC:=Q3 (Q1 QHO)
theorem QOP(c:Qr):Qt (mkE Try.prog QAn) (hnd (mkE Try.prog QAn) 0) false Try.f134 (Qm.enc ((c,()):Qr×Unit)) [] 0 =
  QB.need (decide (Sm c.h.deep.lo∧Sm c.h.deep.hi∧Sm c.t.deep.lo∧Sm c.t.deep.hi)) (QB.leaf (AV.agg [AV.int false i64 (c.h.deep.less c.t.deep).lo,AV.int false
  i64 (c.h.deep.less c.t.deep).hi]) ([])):=by kernel_rfl
theorem QTh:QQ Try.prog 134 QH4:=by
 refine Q7 QEq 0 Try.func134 (by kernel_rfl) (by kernel_rfl) ?_
 rintro⟨c,⟨⟩⟩ hp;rw[QOP c];simp only[QHO,QB.den,AV.same,AV.sameL,and_true,true_and]at hp ⊢;have hp:=qdt hp;obtain⟨h1,h2,h3⟩:=hp;unfold Jh at h1;unfold Jd at h2 h3;refine⟨decide_eq_true (by unfold Sm;omega),?_⟩
 simp[Qd,Sp.less,Enc.enc,AV.same,AV.sameL]
def QAE:Tab:=Qb QAn 134 QH4
theorem QJn:QV QAE:=QEq.add QTh
def QGU:Qr×Unit→Bool×AV:=fun|(c,_)=>(decide c.B,.tup [.int false .i64 (-c.p.slack),.int false .i64 c.p.slack])
def QJD:FC:=Q3 (Q1 QGU)
theorem QRP(c:Qr):Qt (mkE Try.prog QAE) (hnd (mkE Try.prog QAE) 0) false Try.f127 (Qm.enc ((c,()):Qr×Unit)) [] 0 =
  QB.leaf (AV.tup [AV.int false i64 (i64.wrap ((0:Int)-c.p.slack)),AV.int false i64 c.p.slack]) ([]):=by kernel_rfl
theorem QS1:QQ Try.prog 127 QJD:=by
 refine Q7 QJn 0 Try.func127 (by kernel_rfl) (by kernel_rfl) ?_
 rintro⟨c,⟨⟩⟩ hp;rw[QRP c];simp only[QGU,QB.den,AV.same,AV.sameL,and_true,true_and]at hp ⊢;have hp:=qdt hp;obtain⟨h1,h2,h3⟩:=hp;unfold Jh at h1;rw[w64 (by omega) (by omega)];omega
def GF:Tab:=Qb QAE 127 QJD
theorem QKR:QV GF:=QJn.add QS1
def QE6:Qr×Unit→Bool×AV:=fun|(c,_)=>(decide c.B,.tup [.int false .i64 0,.int false .i64 c.p.loose])
def QKz:FC:=Q3 (Q1 QE6)
theorem QQV(c:Qr):Qt (mkE Try.prog GF) (hnd (mkE Try.prog GF) 0) false Try.f130 (Qm.enc ((c,()):Qr×Unit)) [] 0 =
  QB.leaf (AV.tup [AV.int true i64 (0:Int),AV.int false i64 c.p.loose]) ([]):=by kernel_rfl
theorem QVf:QQ Try.prog 130 QKz:=by
 refine Q7 QKR 0 Try.func130 (by kernel_rfl) (by kernel_rfl) ?_
 rintro⟨c,⟨⟩⟩ hp;rw[QQV c];simp only[QE6,QB.den,AV.same,AV.sameL,and_true,true_and]at hp ⊢
def GZ:Tab:=Qb GF 130 QKz
theorem QJ6:QV GZ:=QKR.add QVf
def QKu:Qr×Unit→Bool×AV:=fun|(c,_)=>(decide c.B,.tup [.int false .i64 0,.int false .i64 c.p.loose])
def QLn:FC:=Q3 (Q1 QKu)
theorem QPC(c:Qr):Qt (mkE Try.prog GZ) (hnd (mkE Try.prog GZ) 0) false Try.f133 (Qm.enc ((c,()):Qr×Unit)) [] 0 =
  QB.leaf (AV.tup [AV.int true i64 (0:Int),AV.int false i64 c.p.loose]) ([]):=by kernel_rfl
theorem QU7:QQ Try.prog 133 QLn:=by
 refine Q7 QJ6 0 Try.func133 (by kernel_rfl) (by kernel_rfl) ?_
 rintro⟨c,⟨⟩⟩ hp;rw[QPC c];simp only[QKu,QB.den,AV.same,AV.sameL,and_true,true_and]at hp ⊢
def ZJ:Tab:=Qb GZ 133 QLn
theorem QFd:QV ZJ:=QJ6.add QU7
variable {sl sh hi:Int}
theorem vB{lo dh:Int}(h1 : -100000≤sl∧sl≤100000)(h2 : -100000≤sh∧sh≤100000)(h3 : -500≤lo∧lo≤500)(h4 : -500≤hi∧hi≤500)(h5:0≤dh∧dh≤100):
  (decide (i64.wrap (sl*i64.wrap (1000+dh))≥i64.wrap (1000*lo))=true→decide (i64.wrap (sh*i64.wrap (1000+dh))≤i64.wrap (1000*hi))=KO sl sh lo hi dh) ∧
  (decide (i64.wrap (sl*i64.wrap (1000+dh))≥i64.wrap (1000*lo))=false→false=KO sl sh lo hi dh):=by
 obtain⟨m1,m2⟩:=QBU (a:=sl) (m:=1000+dh) (by omega) (by omega) (by omega) (by omega)
 obtain⟨m3,m4⟩:=QBU (a:=sh) (m:=1000+dh) (by omega) (by omega) (by omega) (by omega)
 rw[w64 (n:=1000+dh) (by omega) (by omega),w64 (n:=sl*_) (by omega) (by omega),w64 (n:=sh*_) (by omega) (by omega),w64 (n:=1000*lo) (by omega) (by omega),w64 (n:=1000*hi) (by omega) (by omega)]
 exact⟨fun h=>QUF (qdt h),fun h=>QVu (by have:=of_decide_eq_false h;omega)⟩
theorem QAj{lo dl:Int}(h1 : -100000≤sl∧sl≤100000)(h2 : -100000≤sh∧sh≤100000)(h3 : -500≤lo∧lo≤500)(h4 : -500≤hi∧hi≤500)(h5:0≤dl∧dl≤100):
  (decide (i64.wrap (1000*lo)≤i64.wrap (min (max 0 sl) sh*i64.wrap (1000+dl)))=true→decide (i64.wrap (min (max 0 sl) sh*i64.wrap (1000+dl))≤i64.wrap (1000*hi))=Qo sl sh lo hi dl) ∧
  (decide (i64.wrap (1000*lo)≤i64.wrap (min (max 0 sl) sh*i64.wrap (1000+dl)))=false→false=Qo sl sh lo hi dl):=by
 obtain⟨m1,m2⟩:=QBU (a:=min (max 0 sl) sh) (m:=1000+dl) (by omega) (by omega) (by omega) (by omega)
 rw[w64 (n:=1000+dl) (by omega) (by omega),w64 (n:=min (max 0 sl) sh*_) (by omega) (by omega),w64 (n:=1000*lo) (by omega) (by omega),w64 (n:=1000*hi) (by omega) (by omega)]
 exact⟨fun h=>QVS (qdt h),fun h=>QPS (by have:=of_decide_eq_false h;omega)⟩
theorem QLL:i64.wrap (1000*0)=0:=by decide
theorem QCL{dh:Int}(h1 : -100000≤sl∧sl≤100000)(h2 : -100000≤sh∧sh≤100000)(h4 : -500≤hi∧hi≤500)(h5:0≤dh∧dh≤100):
  (decide (i64.wrap (sl*i64.wrap (1000+dh))≥0)=true→decide (i64.wrap (sh*i64.wrap (1000+dh))≤i64.wrap (1000*hi))=KO sl sh 0 hi dh) ∧
  (decide (i64.wrap (sl*i64.wrap (1000+dh))≥0)=false→false=KO sl sh 0 hi dh):=by
 have:=vB (lo:=0) h1 h2 (by omega) h4 h5
 rw[QLL]at this;exact this
theorem QDr{dl:Int}(h1 : -100000≤sl∧sl≤100000)(h2 : -100000≤sh∧sh≤100000)(h4 : -500≤hi∧hi≤500)(h5:0≤dl∧dl≤100):
  (decide (0≤i64.wrap (min (max 0 sl) sh*i64.wrap (1000+dl)))=true→decide (i64.wrap (min (max 0 sl) sh*i64.wrap (1000+dl))≤i64.wrap (1000*hi))=Qo sl sh 0 hi dl) ∧
  (decide (0≤i64.wrap (min (max 0 sl) sh*i64.wrap (1000+dl)))=false→false=Qo sl sh 0 hi dl):=by
 have:=QAj (lo:=0) h1 h2 (by omega) h4 h5
 rw[QLL]at this;exact this
def Hl:Qr×D×Unit→Bool×AV:=fun|(x,(d,_))=>(decide (x.B∧d.c.B),.bool false (KO d.by_.lo d.by_.hi d.lo d.hi x.p.damp.hi))
def QKM:FC:=Q3 (Q1 Hl)
theorem QUB(x:Qr)(c:Qr):Qt (mkE Try.prog ZJ) (hnd (mkE Try.prog ZJ) 0) false Try.f97 (Qm.enc ((x,(D.off c),()):Qr×D×Unit)) [] 0 =
  QB.need (decide c.B) (QB.need (decide c.B) (QB.br (decide (i64.wrap ((Qe c.p c.t c.h).lo*i64.wrap ((1000:Int)+x.p.damp.hi))≥i64.wrap ((1000
  : Int) * -c.p.slack))) (QB.leaf (AV.bool false (decide (i64.wrap ((Qe c.p c.t c.h).hi*i64.wrap ((1000:Int)+x.p.damp.hi))≤i64.wrap ((1000:Int)
  * c.p.slack)))) ([])) (QB.leaf (AV.bool true false) ([])))):=by kernel_rfl
theorem QQ2(x:Qr)(c:Qr):Qt (mkE Try.prog ZJ) (hnd (mkE Try.prog ZJ) 0) false Try.f97 (Qm.enc ((x,(D.wide c),()):Qr×D×Unit)) [] 0 =
  QB.need (decide c.B) (QB.need (decide c.B) (QB.br (decide (i64.wrap ((Qf c.t c.h).lo*i64.wrap ((1000:Int)+x.p.damp.hi))≥(0:Int))) (QB.leaf
  (AV.bool false (decide (i64.wrap ((Qf c.t c.h).hi*i64.wrap ((1000:Int)+x.p.damp.hi))≤i64.wrap ((1000:Int)*c.p.loose)))) ([])) (QB.leaf
  (AV.bool true false) ([])))):=by kernel_rfl
theorem QMw(x:Qr)(c:Qr):Qt (mkE Try.prog ZJ) (hnd (mkE Try.prog ZJ) 0) false Try.f97 (Qm.enc ((x,(D.deep c),()):Qr×D×Unit)) [] 0 =
  QB.need (decide c.B) (QB.need (decide c.B) (QB.br (decide (i64.wrap ((Qd c.t c.h).lo*i64.wrap ((1000:Int)+x.p.damp.hi))≥(0:Int))) (QB.leaf
  (AV.bool false (decide (i64.wrap ((Qd c.t c.h).hi*i64.wrap ((1000:Int)+x.p.damp.hi))≤i64.wrap ((1000:Int)*c.p.loose)))) ([])) (QB.leaf
  (AV.bool true false) ([])))):=by kernel_rfl
theorem QQa:QQ Try.prog 97 QKM:=by
 refine Q7 QFd 0 Try.func97 (by kernel_rfl) (by kernel_rfl) ?_
 rintro⟨x,(c|c|c),⟨⟩⟩ hp
 ·rw[QUB x c];simp only[Hl,QB.den,AV.same,AV.sameL,and_true,true_and]at hp ⊢;have hq:=qdt hp;obtain⟨⟨hx,_⟩,hc⟩:=hq;refine⟨decide_eq_true hc,decide_eq_true hc,?_⟩;obtain⟨h1,h2,h3⟩:=hc;unfold Jh at h1 hx;unfold Jd at h2 h3;simp only[D.c]at h1 h2 h3
  first
   | (refine vB ?_ ?_ ?_ ?_ ?_<;>(try simp only[Qe,Qf,Qd])<;>omega)
   | (refine QCL ?_ ?_ ?_ ?_<;>(try simp only[Qe,Qf,Qd])<;>omega)
 ·rw[QQ2 x c];simp only[Hl,QB.den,AV.same,AV.sameL,and_true,true_and]at hp ⊢;have hq:=qdt hp;obtain⟨⟨hx,_⟩,hc⟩:=hq;refine⟨decide_eq_true hc,decide_eq_true hc,?_⟩;obtain⟨h1,h2,h3⟩:=hc;unfold Jh at h1 hx;unfold Jd at h2 h3;simp only[D.c]at h1 h2 h3
  first
   | (refine vB ?_ ?_ ?_ ?_ ?_<;>(try simp only[Qe,Qf,Qd])<;>omega)
   | (refine QCL ?_ ?_ ?_ ?_<;>(try simp only[Qe,Qf,Qd])<;>omega)
 ·rw[QMw x c];simp only[Hl,QB.den,AV.same,AV.sameL,and_true,true_and]at hp ⊢;have hq:=qdt hp;obtain⟨⟨hx,_⟩,hc⟩:=hq;refine⟨decide_eq_true hc,decide_eq_true hc,?_⟩;obtain⟨h1,h2,h3⟩:=hc;unfold Jh at h1 hx;unfold Jd at h2 h3;simp only[D.c]at h1 h2 h3
  first
   | (refine vB ?_ ?_ ?_ ?_ ?_<;>(try simp only[Qe,Qf,Qd])<;>omega)
   | (refine QCL ?_ ?_ ?_ ?_<;>(try simp only[Qe,Qf,Qd])<;>omega)
def Zc:Tab:=Qb ZJ 97 QKM
theorem QHh:QV Zc:=QFd.add QQa
def HW:Qr×D×Unit→Bool×AV:=fun|(x,(d,_))=>(decide (x.B∧d.c.B),.bool false (Qo d.by_.lo d.by_.hi d.lo d.hi x.p.damp.lo))
def QFS:FC:=Q3 (Q1 HW)
theorem QNQ(x:Qr)(c:Qr):Qt (mkE Try.prog Zc) (hnd (mkE Try.prog Zc) 0) false Try.f98 (Qm.enc ((x,(D.off c),()):Qr×D×Unit)) [] 0 =
  QB.need (decide c.B) (QB.need (decide c.B) (QB.br (decide (i64.wrap ((1000:Int) * -c.p.slack)≤i64.wrap (min (max (0:Int) (Qe c.p c.t c.h).lo) (Qe
  c.p c.t c.h).hi*i64.wrap ((1000:Int)+x.p.damp.lo)))) (QB.leaf (AV.bool false (decide (i64.wrap (min (max (0:Int) (Qe c.p c.t c.h).lo) (Qe c.p c.t
  c.h).hi*i64.wrap ((1000:Int)+x.p.damp.lo))≤i64.wrap ((1000:Int)*c.p.slack)))) ([])) (QB.leaf (AV.bool true false) ([])))):=by kernel_rfl
theorem QMj(x:Qr)(c:Qr):Qt (mkE Try.prog Zc) (hnd (mkE Try.prog Zc) 0) false Try.f98 (Qm.enc ((x,(D.wide c),()):Qr×D×Unit)) [] 0 =
  QB.need (decide c.B) (QB.need (decide c.B) (QB.br (decide ((0:Int)≤i64.wrap (min (max (0:Int) (Qf c.t c.h).lo) (Qf c.t c.h).hi*i64.wrap ((1000
  : Int)+x.p.damp.lo)))) (QB.leaf (AV.bool false (decide (i64.wrap (min (max (0:Int) (Qf c.t c.h).lo) (Qf c.t c.h).hi*i64.wrap ((1000:Int) +
  x.p.damp.lo))≤i64.wrap ((1000:Int)*c.p.loose)))) ([])) (QB.leaf (AV.bool true false) ([])))):=by kernel_rfl
theorem QTA(x:Qr)(c:Qr):Qt (mkE Try.prog Zc) (hnd (mkE Try.prog Zc) 0) false Try.f98 (Qm.enc ((x,(D.deep c),()):Qr×D×Unit)) [] 0 =
  QB.need (decide c.B) (QB.need (decide c.B) (QB.br (decide ((0:Int)≤i64.wrap (min (max (0:Int) (Qd c.t c.h).lo) (Qd c.t c.h).hi*i64.wrap ((1000
  : Int)+x.p.damp.lo)))) (QB.leaf (AV.bool false (decide (i64.wrap (min (max (0:Int) (Qd c.t c.h).lo) (Qd c.t c.h).hi*i64.wrap ((1000:Int) +
  x.p.damp.lo))≤i64.wrap ((1000:Int)*c.p.loose)))) ([])) (QB.leaf (AV.bool true false) ([])))):=by kernel_rfl
theorem QU1:QQ Try.prog 98 QFS:=by
 refine Q7 QHh 0 Try.func98 (by kernel_rfl) (by kernel_rfl) ?_
 rintro⟨x,(c|c|c),⟨⟩⟩ hp
 ·rw[QNQ x c];simp only[HW,QB.den,AV.same,AV.sameL,and_true,true_and]at hp ⊢;have hq:=qdt hp;obtain⟨⟨hx,_⟩,hc⟩:=hq;refine⟨decide_eq_true hc,decide_eq_true hc,?_⟩;obtain⟨h1,h2,h3⟩:=hc;unfold Jh at h1 hx;unfold Jd at h2 h3;simp only[D.c]at h1 h2 h3
  first
   | (refine QAj ?_ ?_ ?_ ?_ ?_<;>(try simp only[Qe,Qf,Qd])<;>omega)
   | (refine QDr ?_ ?_ ?_ ?_<;>(try simp only[Qe,Qf,Qd])<;>omega)
 ·rw[QMj x c];simp only[HW,QB.den,AV.same,AV.sameL,and_true,true_and]at hp ⊢;have hq:=qdt hp;obtain⟨⟨hx,_⟩,hc⟩:=hq;refine⟨decide_eq_true hc,decide_eq_true hc,?_⟩;obtain⟨h1,h2,h3⟩:=hc;unfold Jh at h1 hx;unfold Jd at h2 h3;simp only[D.c]at h1 h2 h3
  first
   | (refine QAj ?_ ?_ ?_ ?_ ?_<;>(try simp only[Qe,Qf,Qd])<;>omega)
   | (refine QDr ?_ ?_ ?_ ?_<;>(try simp only[Qe,Qf,Qd])<;>omega)
 ·rw[QTA x c];simp only[HW,QB.den,AV.same,AV.sameL,and_true,true_and]at hp ⊢;have hq:=qdt hp;obtain⟨⟨hx,_⟩,hc⟩:=hq;refine⟨decide_eq_true hc,decide_eq_true hc,?_⟩;obtain⟨h1,h2,h3⟩:=hc;unfold Jh at h1 hx;unfold Jd at h2 h3;simp only[D.c]at h1 h2 h3
  first
   | (refine QAj ?_ ?_ ?_ ?_ ?_<;>(try simp only[Qe,Qf,Qd])<;>omega)
   | (refine QDr ?_ ?_ ?_ ?_<;>(try simp only[Qe,Qf,Qd])<;>omega)
def Gz:Tab:=Qb Zc 98 QFS
theorem QFQ:QV Gz:=QHh.add QU1
def QKs:Qr×Unit→Bool×AV:=fun|(x,_)=>(decide x.B,.int false .i64 (YQ x.p x.t x.h))
def QK5:FC:=Q3 (Q1 QKs)
theorem QTs(x:Qr):Qt (mkE Try.prog Gz) (hnd (mkE Try.prog Gz) 14) false Try.f87 (Qm.enc ((x,()):Qr×Unit)) [] 0 = .need (decide (x.B∧(D.off x).c.B)) (.br (!KO
  (D.off x).by_.lo (D.off x).by_.hi (D.off x).lo (D.off x).hi x.p.damp.hi) (.need (decide (x.B∧(D.off x).c.B)) (.br (!Qo (D.off x).by_.lo (D.off x).by_.hi (D.off x).lo (D.off
  x).hi x.p.damp.lo) (.leaf (.int true .i64 0) ([])) (.need (decide (x.B∧(D.wide x).c.B)) (.br (!Qo (D.wide x).by_.lo (D.wide x).by_.hi (D.wide x).lo (D.wide x).hi
  x.p.damp.lo) (.leaf (.int true .i64 0) ([])) (.need (decide (x.B∧(D.deep x).c.B)) (.br (!Qo (D.deep x).by_.lo (D.deep x).by_.hi (D.deep x).lo (D.deep x).hi x.p.damp.lo)
  (.leaf (.int true .i64 0) ([])) (.leaf (.int true .i64 1) ([])))))))) (.need (decide (x.B∧(D.wide x).c.B)) (.br (!KO (D.wide x).by_.lo (D.wide x).by_.hi (D.wide x).lo (D.wide
  x).hi x.p.damp.hi) (.need (decide (x.B∧(D.off x).c.B)) (.br (!Qo (D.off x).by_.lo (D.off x).by_.hi (D.off x).lo (D.off x).hi x.p.damp.lo) (.leaf (.int true .i64 0) ([]))
  (.need (decide (x.B∧(D.wide x).c.B)) (.br (!Qo (D.wide x).by_.lo (D.wide x).by_.hi (D.wide x).lo (D.wide x).hi x.p.damp.lo) (.leaf (.int true .i64 0) ([])) (.need (decide
  (x.B∧(D.deep x).c.B)) (.br (!Qo (D.deep x).by_.lo (D.deep x).by_.hi (D.deep x).lo (D.deep x).hi x.p.damp.lo) (.leaf (.int true .i64 0) ([])) (.leaf (.int true .i64 1)
  ([])))))))) (.need (decide (x.B∧(D.deep x).c.B)) (.br (!KO (D.deep x).by_.lo (D.deep x).by_.hi (D.deep x).lo (D.deep x).hi x.p.damp.hi) (.need (decide (x.B∧(D.off x).c.B))
  (.br (!Qo (D.off x).by_.lo (D.off x).by_.hi (D.off x).lo (D.off x).hi x.p.damp.lo) (.leaf (.int true .i64 0) ([])) (.need (decide (x.B∧(D.wide x).c.B)) (.br (!Qo
  (D.wide x).by_.lo (D.wide x).by_.hi (D.wide x).lo (D.wide x).hi x.p.damp.lo) (.leaf (.int true .i64 0) ([])) (.need (decide (x.B∧(D.deep x).c.B)) (.br (!Qo (D.deep x).by_.lo
  (D.deep x).by_.hi (D.deep x).lo (D.deep x).hi x.p.damp.lo) (.leaf (.int true .i64 0) ([])) (.leaf (.int true .i64 1) ([])))))))) (.leaf (.int true .i64 2) ([]))))))):=by kernel_rfl
theorem QOR:QQ Try.prog 87 QK5:=by
 refine Q7 QFQ 14 Try.func87 (by kernel_rfl) (by kernel_rfl) ?_
 rintro⟨x,⟨⟩⟩ hp;rw[QTs x];simp only[QKs,QB.den,AV.same,AV.sameL,and_true,true_and]at hp ⊢;have hB:=qdt hp;have d1:decide (x.B∧(D.off x).c.B)=true:=decide_eq_true ⟨hB,hB⟩;have d2:decide (x.B∧(D.wide x).c.B)=true:=decide_eq_true ⟨hB,hB⟩;have d3:decide (x.B∧(D.deep x).c.B)=true:=decide_eq_true ⟨hB,hB⟩;have a0:KO (D.off x).by_.lo (D.off x).by_.hi (D.off x).lo (D.off x).hi x.p.damp.hi=alw x.p x.t x.h 0:=rfl;have a1:KO (D.wide x).by_.lo (D.wide x).by_.hi (D.wide x).lo (D.wide x).hi x.p.damp.hi=alw x.p x.t x.h 1:=rfl
 have a2:KO (D.deep x).by_.lo (D.deep x).by_.hi (D.deep x).lo (D.deep x).hi x.p.damp.hi=alw x.p x.t x.h 2:=rfl;have b0:Qo (D.off x).by_.lo (D.off x).by_.hi (D.off x).lo (D.off x).hi x.p.damp.lo=may x.p x.t x.h 0:=rfl;have b1:Qo (D.wide x).by_.lo (D.wide x).by_.hi (D.wide x).lo (D.wide x).hi x.p.damp.lo=may x.p x.t x.h 1:=rfl;have b2:Qo (D.deep x).by_.lo (D.deep x).by_.hi (D.deep x).lo (D.deep x).hi x.p.damp.lo=may x.p x.t x.h 2:=rfl;simp only[d1,d2,d3,a0,a1,a2,b0,b1,b2,QCU,true_and]
 cases alw x.p x.t x.h 0<;>cases alw x.p x.t x.h 1<;>cases alw x.p x.t x.h 2<;>cases may x.p x.t x.h 0<;>cases may x.p x.t x.h 1<;>cases may x.p x.t x.h 2<;>simp
def Gy:Tab:=Qb Gz 87 QK5
theorem QFI:QV Gy:=QFQ.add QOR
theorem QPg{p:Ql}(h:p.ok=true):Jh p:=by rw[Ql.ok_iff]at h;unfold Jh;omega
theorem QEx{e:Edge}(h:e.ok=true)(hk:e.kind=1∨e.kind=2):Jd e:=by rw[Edge.ok_iff]at h;unfold Jd;omega
def okP(p:Ql)(a b:Edge):Bool:=p.ok&&(a.ok&&b.ok)
instance : Enc Gap where
  enc x := .agg [.int false .i64 x.off.lo,.int false .i64 x.off.hi,.int false .i64 x.wide.lo,.int false .i64 x.wide.hi,.int false .i64 x.deep.lo,.int false .i64 x.deep.hi]
  dec | .agg [.int _ .i64 a0,.int _ .i64 a1,.int _ .i64 a2,.int _ .i64 a3,.int _ .i64 a4,.int _ .i64 a5] => some ⟨⟨a0,a1⟩,⟨a2,a3⟩,⟨a4,a5⟩⟩ | _ => none
  ok v x h := by
    split at h <;> (try (cases h; done))
    simp only[qsI]at h; subst h; exact⟨fun _ => rfl,rfl⟩
theorem QC9{p:Ql}{a b:Edge}(h1:p.ok=true)(h2:a.ok=true)(h3:b.ok=true)(ha:a.kind=1)(hb:b.kind=2):Qr.B ⟨p,a,b⟩:=⟨QPg h1,QEx h2 (.inl ha),QEx h3 (.inr hb)⟩
def Edge.zero:Edge:=⟨0,⟨0,0⟩,⟨0,0⟩,⟨0,0⟩⟩
def QGw(s:Edge)(w:Sp)(n:Int):Prop:=Jd s∧(0≤w.lo∧w.lo≤100∧0≤w.hi∧w.hi≤100)∧0≤n∧n≤20000
instance (s : Edge) (w : Sp) (n : Int) : Decidable (QGw s w n) := by unfold QGw; infer_instance
def QFX:Ql×Edge×Edge×Unit→Bool×AV:=fun|(p,(a,(b,_)))=>(okP p a b,.int false .i64 (YS p a b))
def QEc:FC:=Q3 (Q1 QFX)
theorem QNu(p:Ql)(a:Edge)(b:Edge):Qt (mkE Try.prog Gy) (hnd (mkE Try.prog Gy) 4) false Try.f61 (Qm.enc ((p,a,b,()):Ql×Edge×Edge×Unit)) [] 0 =
  QB.br (a.kind==(2:Int)) (QB.br (b.kind==(1:Int)) (QB.br (a.kind==(2:Int)) (QB.need (decide (Qr.mk p b a).B) (QB.leaf (AV.int false i64 (YQ p b
  a)) ([]))) (QB.leaf (AV.int true i64 (0:Int)) ([]))) (QB.leaf (AV.int true i64 (0:Int)) ([]))) (QB.br (a.kind==(1:Int)) (QB.br (b.kind==(2:Int))
  (QB.need (decide (Qr.mk p a b).B) (QB.leaf (AV.int false i64 (YQ p a b)) ([]))) (QB.leaf (AV.int true i64 (0:Int)) ([]))) (QB.leaf (AV.int true
  i64 (0:Int)) ([]))):=by kernel_rfl
theorem QUd:QQ Try.prog 61 QEc:=by
 refine Q7 QFI 4 Try.func61 (by kernel_rfl) (by kernel_rfl) ?_
 rintro⟨p,a,b,⟨⟩⟩ hp;rw[QNu p a b];simp only[QFX,QB.den,AV.same,AV.sameL,and_true,true_and]at hp ⊢;unfold okP at hp;simp only[qbA]at hp;obtain⟨h1,h2,h3⟩:=hp;unfold YS;simp only[beq_iff_eq,beq_eq_false_iff_ne];refine⟨fun ha=>⟨fun hb => ?_,fun hb=>by rw[if_pos ha,if_neg hb]⟩,fun ha=>⟨fun ha1 => ?_,fun ha1=>by rw[if_neg ha,if_neg (fun h=>ha1 h.1)]⟩⟩
 ·refine⟨fun _=>⟨decide_eq_true (QC9 h1 h3 h2 hb ha),by rw[if_pos ha,if_pos hb]⟩,fun h=>absurd ha h⟩
 ·refine⟨fun hb=>⟨decide_eq_true (QC9 h1 h2 h3 ha1 hb),by rw[if_neg ha,if_pos ⟨ha1,hb⟩]⟩,fun hb=>by rw[if_neg ha,if_neg (fun h=>hb h.2)]⟩
def Gc:Tab:=Qb Gy 61 QEc
theorem QGJ:QV Gc:=QFI.add QUd
def QJJ:Ql×Edge×Edge×Unit→Bool×AV:=fun|(p,(a,(b,_)))=>(true,.tup [.int false .i64 (KA p a b).1,.int false .i64 (KA p a b).2])
def QEQ:FC:=Q3 (Q1 QJJ)
theorem QQM(p:Ql)(a:Edge)(b:Edge):Qt (mkE Try.prog Gc) (hnd (mkE Try.prog Gc) 14) false Try.f32 (Qm.enc ((p,a,b,()):Ql×Edge×Edge×Unit)) [] 0 =
  QB.need (true) (QB.br (!p.ok) (QB.leaf (AV.tup [AV.int true i64 (0:Int),AV.int true i64 (1:Int)]) ([])) (QB.need (true) (QB.br (!a.ok) (QB.leaf
  (AV.tup [AV.int true i64 (0:Int),AV.int true i64 (1:Int)]) ([])) (QB.need (true) (QB.br (!b.ok) (QB.leaf (AV.tup [AV.int true i64 (0:Int),
  AV.int true i64 (1:Int)]) ([])) (QB.need (okP p a b) (QB.leaf (AV.tup [AV.int false i64 (YS p a b),AV.int true i64 (0:Int)]) ([])))))))):=by kernel_rfl
theorem QQk:QQ Try.prog 32 QEQ:=by
 refine Q7 QGJ 14 Try.func32 (by kernel_rfl) (by kernel_rfl) ?_
 rintro⟨p,a,b,⟨⟩⟩ hp;rw[QQM p a b];simp only[QJJ,QB.den,AV.same,AV.sameL,and_true,true_and]at hp ⊢;unfold KA okP;cases p.ok<;>cases a.ok<;>cases b.ok<;>simp
def zj:Tab:=Qb Gc 32 QEQ
theorem QL6:QV zj:=QGJ.add QQk
end Go.Proofs.Ytbpffdkemeoajaa
