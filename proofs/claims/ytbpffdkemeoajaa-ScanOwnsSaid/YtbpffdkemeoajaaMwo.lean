/- - -/
import Derived.Test.YtbpffdkemeoajaaProg
import Derived.Test.YtbpffdkemeoajaaMwm
import Derived.Test.YtbpffdkemeoajaaMwn
import Derived.KernelRfl
open Go.IntKind (i64)
set_option maxRecDepth 100000
namespace Go.Proofs.Ytbpffdkemeoajaa
open Go.SX
theorem zB:Try.prog.follows .mixedOrders=true:=by kernel_rfl
abbrev Tab:=FuncId→Option FC
def QBI:Tab:=fun _=>none
def Qd(C:Tab)(f:FuncId)(fc:FC):Tab:=fun g=>match g==f with
 | true=>some fc
 | false=>C g
def QZ(C:Tab):Prop:=∀ f fc,C f=some fc→QO Try.prog f fc
theorem QZ.add{C:Tab}(h:QZ C){f:FuncId}{fc:FC}(hf:QO Try.prog f fc):QZ (Qd C f fc):=by
 intro g fc' e;unfold Qd at e;split at e
 ·rename_i hg;simp only[qsI]at e;subst e;have:g=f:=by simpa using hg
  subst this;exact hf
 ·exact h g fc' e
theorem QKv:QZ QBI:=fun _ _ h=>by cases h
instance : Enc Sp where
  enc x := .agg [.int false .i64 x.lo,.int false .i64 x.hi]
  dec | .agg [.int _ .i64 a0,.int _ .i64 a1] => some ⟨a0,a1⟩ | _ => none
  ok v x h := by
    split at h <;> (try (cases h; done))
    simp only[qsI]at h; subst h; exact⟨fun _ => rfl,rfl⟩
instance : Enc Edge where
  enc x := .agg [.int false .i64 x.kind,.int false .i64 x.at_.lo,.int false .i64 x.at_.hi,.int false .i64 x.wide.lo,.int false .i64 x.wide.hi,.int false .i64 x.deep.lo,.int false .i64 x.deep.hi]
  dec | .agg [.int _ .i64 a0,.int _ .i64 a1,.int _ .i64 a2,.int _ .i64 a3,.int _ .i64 a4,.int _ .i64 a5,.int _ .i64 a6] => some ⟨a0,⟨a1,a2⟩,⟨a3,a4⟩,⟨a5,a6⟩⟩ | _ => none
  ok v x h := by
    split at h <;> (try (cases h; done))
    simp only[qsI]at h; subst h; exact⟨fun _ => rfl,rfl⟩
instance : Enc Qn where
  enc x := .agg [.int false .i64 x.length,.int false .i64 x.slack,.int false .i64 x.loose,.int false .i64 x.damp.lo,.int false .i64 x.damp.hi]
  dec | .agg [.int _ .i64 a0,.int _ .i64 a1,.int _ .i64 a2,.int _ .i64 a3,.int _ .i64 a4] => some ⟨a0,a1,a2,⟨a3,a4⟩⟩ | _ => none
  ok v x h := by
    split at h <;> (try (cases h; done))
    simp only[qsI]at h; subst h; exact⟨fun _ => rfl,rfl⟩
structure Qu where
 p:Qn
 t:Edge
 h:Edge
inductive D where
 | off (c:Qu)
 | wide (c:Qu)
 | deep (c:Qu)
instance : Enc Qu where
  enc x := .agg [.int false .i64 x.p.length,.int false .i64 x.p.slack,.int false .i64 x.p.loose,.int false .i64 x.p.damp.lo,.int false .i64 x.p.damp.hi,
    .int false .i64 x.t.kind,.int false .i64 x.t.at_.lo,.int false .i64 x.t.at_.hi,.int false .i64 x.t.wide.lo,.int false .i64 x.t.wide.hi,.int false .i64 x.t.deep.lo,.int false .i64 x.t.deep.hi,
    .int false .i64 x.h.kind,.int false .i64 x.h.at_.lo,.int false .i64 x.h.at_.hi,.int false .i64 x.h.wide.lo,.int false .i64 x.h.wide.hi,.int false .i64 x.h.deep.lo,.int false .i64 x.h.deep.hi]
  dec | .agg [.int _ .i64 p0,.int _ .i64 p1,.int _ .i64 p2,.int _ .i64 p3,.int _ .i64 p4,
      .int _ .i64 a0,.int _ .i64 a1,.int _ .i64 a2,.int _ .i64 a3,.int _ .i64 a4,.int _ .i64 a5,.int _ .i64 a6,
      .int _ .i64 b0,.int _ .i64 b1,.int _ .i64 b2,.int _ .i64 b3,.int _ .i64 b4,.int _ .i64 b5,.int _ .i64 b6] =>
        some ⟨⟨p0,p1,p2,⟨p3,p4⟩⟩,⟨a0,⟨a1,a2⟩,⟨a3,a4⟩,⟨a5,a6⟩⟩,⟨b0,⟨b1,b2⟩,⟨b3,b4⟩,⟨b5,b6⟩⟩⟩
      | _ => none
  ok v x h := by
    split at h <;> (try (cases h; done))
    simp only[qsI]at h; subst h; exact⟨fun _ => rfl,rfl⟩
instance : Enc D where
  enc | .off c => .ifc 167 (Enc.enc c)
      | .wide c => .ifc 168 (Enc.enc c)
      | .deep c => .ifc 169 (Enc.enc c)
  dec | .ifc t v => match (Enc.dec v : Option Qu)with
        | some c => if t = 167 then some (.off c)else if t = 168 then some (.wide c)else if t = 169 then some (.deep c)else none
        | none => none
      | _ => none
  ok v x h := by
    split at h <;> (try (cases h; done))
    split at h <;> (try (cases h; done))
    rename_i t v c hc;have h1 := Enc.ok _ c hc;split at h
    · rename_i e; simp only[qsI]at h; subst h e
      exact⟨fun r => by simp only[AV.den]; rw[h1.1 r],h1.2⟩
    · split at h
      · rename_i e; simp only[qsI]at h; subst h e
        exact⟨fun r => by simp only[AV.den]; rw[h1.1 r],h1.2⟩
      · split at h <;> (try (cases h; done))
        rename_i e; simp only[qsI]at h; subst h e;exact⟨fun r => by simp only[AV.den]; rw[h1.1 r],h1.2⟩
theorem w64{n:Int}(h1 : -9223372036854775808≤n)(h2:n≤9223372036854775807):i64.wrap n=n:=IntWalk.i64_in n ⟨h1,h2⟩
def J2(e:Edge):Prop:=(0≤e.at_.lo∧e.at_.lo≤10000∧0≤e.at_.hi∧e.at_.hi≤10000)∧(0≤e.wide.lo∧e.wide.lo≤3000∧0≤e.wide.hi∧e.wide.hi≤3000)∧(0≤e.deep.lo∧e.deep.lo≤3000∧0≤e.deep.hi∧e.deep.hi≤3000)
def J4(p:Qn):Prop:=(1≤p.length∧p.length≤10000)∧(0≤p.slack∧p.slack≤500)∧(0≤p.loose∧p.loose≤500)∧(0≤p.damp.lo∧p.damp.lo≤100)∧0≤p.damp.hi∧p.damp.hi≤100
def Qu.B(c:Qu):Prop:=J4 c.p∧J2 c.t∧J2 c.h
instance (e : Edge) : Decidable (J2 e) := by unfold J2; infer_instance
instance (p : Qn) : Decidable (J4 p) := by unfold J4; infer_instance
instance (c : Qu) : Decidable c.B := by unfold Qu.B; infer_instance
def D.by_:D→Sp
 | .off c=>Qg c.p c.t c.h
 | .wide c=>Qi c.t c.h
 | .deep c=>Qh c.t c.h
def D.lo:D→Int
 | .off c => -c.p.slack
 | _=>0
def D.hi:D→Int
 | .off c=>c.p.slack
 | .wide c=>c.p.loose
 | .deep c=>c.p.loose
def D.c:D→Qu
 | .off c=>c
 | .wide c=>c
 | .deep c=>c
abbrev mkE(P:Program)(C:Tab):Env:=⟨P,C,qa P,false,fun _=>false,false,false,false⟩
theorem QP{C:Tab}(hC:QZ C):(mkE Try.prog C).Sound:={ c:=hC,m:=vc Try.prog,mixed:=zB }
abbrev mkF(P:Program)(C:Tab):Env:=⟨P,C,qa P,false,fun _=>false,false,false,true⟩
theorem jM{C:Tab}(hC:QZ C):(mkF Try.prog C).Sound:={ c:=hC,m:=vc Try.prog,mixed:=zB }
abbrev mkS(P:Program)(C:Tab):Env:=⟨P,C,qa P,true,fun _=>false,false,false,false⟩
theorem Yp{C:Tab}(hC:QZ C):(mkS Try.prog C).Sound:={ c:=hC,m:=vc Try.prog,mixed:=zB }
def binds(fs:List FuncId):Op→Bool
 | .call ⟨.value (.func f),_,_⟩=>fs.contains f
 | .binOp .mul _ _ _ _=>true
 | _=>false
def Qo(fn:Func):Code:=fn.body.getD .skip
theorem KC{C:Tab}(hC:QZ C)(d:Nat){f:FuncId}{fn:Func}(hf:Try.prog.funcs[f]? = some fn)(hb:fn.body=some (Qo fn))(hgo:Jh Try.prog f=true){α:Type}[Qp α]{F:α→Bool×AV}(hF:∀ x,(F x).1=true→(Qy (mkE Try.prog C) (hnd (mkE Try.prog C) d) false fn (Qp.enc x) [] 0).den fun u _=>u.same (F x).2):QO Try.prog f (Q2 (Q3 F)):=
 QFP (QP hC) hf hb hgo (fun G _ hG=>Qq (QP hC) d G _ hG) hF
def QK9:Sp×Int×Int×Unit→Bool×AV:=fun|(s,(a,(b,_)))=>(true,.bool false (s.isIn a b))
def QK5:FC:=Q2 (Q3 QK9)
theorem QTU(s:Sp)(a:Int)(b:Int):Qy (mkE Try.prog QBI) (hnd (mkE Try.prog QBI) 0) false Try.f82 (Qp.enc ((s,a,b,()):Sp×Int×Int×Unit)) [] 0 =
  QD.br (decide (a≤s.lo)) (QD.br (decide (s.lo≤s.hi)) (QD.leaf (AV.bool false (decide (s.hi≤b))) ([])) (QD.leaf (AV.bool true false) ([]))) (QD.leaf (AV.bool true
  false) ([])):=by kernel_rfl
theorem QVk:QO Try.prog 82 QK5:=by
 refine KC QKv 0 Try.func82 (by kernel_rfl) (by kernel_rfl) ?_
 rintro⟨s,a,b,⟨⟩⟩ hp;rw[QTU s a b];simp only[QK9,QD.den,AV.same,AV.sameL,and_true,true_and]at hp ⊢
 (repeat' (first|(refine And.intro ?_ ?_)|(intro _)))<;>simp_all [Sp.isIn]<;>omega
def QBf:Tab:=Qd QBI 82 QK5
theorem QNp:QZ QBf:=QKv.add QVk
def QGw:Int×Int×Int×Unit→Bool×AV:=fun|(n,(a,(b,_)))=>(true,.bool false (Qf n a b))
def QM7:FC:=Q2 (Q3 QGw)
theorem QR8(n:Int)(a:Int)(b:Int):Qy (mkE Try.prog QBf) (hnd (mkE Try.prog QBf) 0) false Try.f81 (Qp.enc ((n,a,b,()):Int×Int×Int×Unit)) [] 0 =
  QD.br (decide (a≤n)) (QD.leaf (AV.bool false (decide (n≤b))) ([])) (QD.leaf (AV.bool true false) ([])):=by kernel_rfl
theorem QUS:QO Try.prog 81 QM7:=by
 refine KC QNp 0 Try.func81 (by kernel_rfl) (by kernel_rfl) ?_
 rintro⟨n,a,b,⟨⟩⟩ hp;rw[QR8 n a b];simp only[QGw,QD.den,AV.same,AV.sameL,and_true,true_and]at hp ⊢
 (repeat' (first|(refine And.intro ?_ ?_)|(intro _)))<;>simp_all [Qf]<;>omega
def QB6:Tab:=Qd QBf 81 QM7
theorem QHF:QZ QB6:=QNp.add QUS
def QHD:Edge×Unit→Bool×AV:=fun|(a,_)=>(true,.bool false a.ok)
def QGm:FC:=Q2 (Q3 QHD)
theorem QVp(a:Edge):Qy (mkE Try.prog QB6) (hnd (mkE Try.prog QB6) 0) false Try.f85 (Qp.enc ((a,()):Edge×Unit)) [] 0 =
  QD.br (a.kind==(0:Int)) (QD.leaf (AV.bool true true) ([])) (QD.br (a.kind==(1:Int)) (QD.need (true) (QD.br (a.at_.isIn (0:Int) (10000:Int)) (QD.need (true)
  (QD.br (a.wide.isIn (1:Int) (3000:Int)) (QD.need (true) (QD.leaf (AV.bool false (a.deep.isIn (1:Int) (3000:Int))) ([]))) (QD.leaf (AV.bool true false) ([]))))
  (QD.leaf (AV.bool true false) ([])))) (QD.br (a.kind==(2:Int)) (QD.need (true) (QD.br (a.at_.isIn (0:Int) (10000:Int)) (QD.need (true) (QD.br (a.wide.isIn (1 :
  Int) (3000:Int)) (QD.need (true) (QD.leaf (AV.bool false (a.deep.isIn (1:Int) (3000:Int))) ([]))) (QD.leaf (AV.bool true false) ([])))) (QD.leaf (AV.bool true false)
  ([])))) (QD.leaf (AV.bool true false) ([])))):=by kernel_rfl
theorem QWX:QO Try.prog 85 QGm:=by
 refine KC QHF 0 Try.func85 (by kernel_rfl) (by kernel_rfl) ?_
 rintro⟨a,⟨⟩⟩ hp;rw[QVp a];simp only[QHD,QD.den,AV.same,AV.sameL,and_true,true_and]at hp ⊢
 (repeat' (first|(refine And.intro ?_ ?_)|(intro _)))<;>simp_all [Edge.ok]
def QA2:Tab:=Qd QB6 85 QGm
theorem QKf:QZ QA2:=QHF.add QWX
def QLD:Qn×Unit→Bool×AV:=fun|(p,_)=>(true,.bool false p.ok)
def QN9:FC:=Q2 (Q3 QLD)
theorem QWs(p:Qn):Qy (mkE Try.prog QA2) (hnd (mkE Try.prog QA2) 0) false Try.f59 (Qp.enc ((p,()):Qn×Unit)) [] 0 =
  QD.need (true) (QD.br (Qf p.length (1:Int) (10000:Int)) (QD.need (true) (QD.br (Qf p.slack (0:Int) (500:Int)) (QD.need (true) (QD.br (Qf p.loose (0 :
  Int) (500:Int)) (QD.need (true) (QD.leaf (AV.bool false (p.damp.isIn (0:Int) (100:Int))) ([]))) (QD.leaf (AV.bool true false) ([])))) (QD.leaf (AV.bool true false)
  ([])))) (QD.leaf (AV.bool true false) ([]))):=by kernel_rfl
theorem QUH:QO Try.prog 59 QN9:=by
 refine KC QKf 0 Try.func59 (by kernel_rfl) (by kernel_rfl) ?_
 rintro⟨p,⟨⟩⟩ hp;rw[QWs p];simp only[QLD,QD.den,AV.same,AV.sameL,and_true,true_and]at hp ⊢
 (repeat' (first|(refine And.intro ?_ ?_)|(intro _)))<;>simp_all [Qn.ok]
def QCP:Tab:=Qd QA2 59 QN9
theorem QHu:QZ QCP:=QKf.add QUH
def QHQ:Sp×Sp×Unit→Bool×AV:=fun|(s,(o,_))=>(decide (Sm s.lo∧Sm s.hi∧Sm o.lo∧Sm o.hi),Enc.enc (s.less o))
def QHH:FC:=Q2 (Q3 QHQ)
theorem QYf(s:Sp)(o:Sp):Qy (mkE Try.prog QCP) (hnd (mkE Try.prog QCP) 0) false Try.f132 (Qp.enc ((s,o,()):Sp×Sp×Unit)) [] 0 =
  QD.leaf (AV.agg [AV.int false i64 (i64.wrap (s.lo-o.hi)),AV.int false i64 (i64.wrap (s.hi-o.lo))]) ([]):=by kernel_rfl
theorem QSk:QO Try.prog 132 QHH:=by
 refine KC QHu 0 Try.func132 (by kernel_rfl) (by kernel_rfl) ?_
 rintro⟨s,o,⟨⟩⟩ hp;rw[QYf s o];simp only[QHQ,QD.den,AV.same,AV.sameL,and_true,true_and]at hp ⊢;have hp:=qdt hp;unfold Sm at hp;simp only[Sp.less,Enc.enc,AV.same,AV.sameL];rw[w64 (by omega) (by omega),w64 (by omega) (by omega)];simp
def HZ:Tab:=Qd QCP 132 QHH
theorem QJo:QZ HZ:=QHu.add QSk
def QLB:Sp×Sp×Unit→Bool×AV:=fun|(s,(o,_))=>(decide (Sm s.lo∧Sm s.hi∧Sm o.lo∧Sm o.hi),Enc.enc (s.plus o))
def QGe:FC:=Q2 (Q3 QLB)
theorem QXy(s:Sp)(o:Sp):Qy (mkE Try.prog HZ) (hnd (mkE Try.prog HZ) 0) false Try.f129 (Qp.enc ((s,o,()):Sp×Sp×Unit)) [] 0 =
  QD.leaf (AV.agg [AV.int false i64 (i64.wrap (s.lo+o.lo)),AV.int false i64 (i64.wrap (s.hi+o.hi))]) ([]):=by kernel_rfl
theorem QYy:QO Try.prog 129 QGe:=by
 refine KC QJo 0 Try.func129 (by kernel_rfl) (by kernel_rfl) ?_
 rintro⟨s,o,⟨⟩⟩ hp;rw[QXy s o];simp only[QLB,QD.den,AV.same,AV.sameL,and_true,true_and]at hp ⊢;have hp:=qdt hp;unfold Sm at hp;simp only[Sp.plus,Enc.enc,AV.same,AV.sameL];rw[w64 (by omega) (by omega),w64 (by omega) (by omega)];simp
def Hv:Tab:=Qd HZ 129 QGe
theorem QKW:QZ Hv:=QJo.add QYy
def QOp:Qu×Unit→Bool×AV:=fun|(c,_)=>(decide c.B,Enc.enc (Qg c.p c.t c.h))
def QK8:FC:=Q2 (Q3 QOp)
theorem QXz(c:Qu):Qy (mkE Try.prog Hv) (hnd (mkE Try.prog Hv) 0) false Try.f128 (Qp.enc ((c,()):Qu×Unit)) [] 0 =
  QD.need (decide (Sm c.t.at_.lo∧Sm c.t.at_.hi∧Sm c.h.at_.lo∧Sm c.h.at_.hi)) (QD.need (decide (Sm (c.t.at_.plus c.h.at_).lo∧Sm (c.t.at_.plus c.h.at_).hi∧Sm
  (i64.wrap ((0:Int)-c.p.length))∧Sm (i64.wrap ((0:Int)-c.p.length)))) (QD.leaf (AV.agg [AV.int false i64 ((c.t.at_.plus c.h.at_).plus (Sp.mk
  (i64.wrap ((0:Int)-c.p.length)) (i64.wrap ((0:Int)-c.p.length)))).lo,AV.int false i64 ((c.t.at_.plus c.h.at_).plus (Sp.mk (i64.wrap ((0 :
  Int)-c.p.length)) (i64.wrap ((0:Int)-c.p.length)))).hi]) ([]))):=by kernel_rfl
theorem QPr:QO Try.prog 128 QK8:=by
 refine KC QKW 0 Try.func128 (by kernel_rfl) (by kernel_rfl) ?_
 rintro⟨c,⟨⟩⟩ hp;rw[QXz c];simp only[QOp,QD.den,AV.same,AV.sameL,and_true,true_and]at hp ⊢;have hp:=qdt hp;obtain⟨h1,h2,h3⟩:=hp;unfold J4 at h1;unfold J2 at h2 h3;have e:i64.wrap (0-c.p.length) = -c.p.length:=by rw[w64 (by omega) (by omega)];omega
 rw[e];refine⟨decide_eq_true (by unfold Sm;omega),decide_eq_true (by unfold Sm Sp.plus;simp only;omega),?_⟩
 simp[Qg,Sp.plus,Enc.enc,AV.same,AV.sameL]
def QAd:Tab:=Qd Hv 128 QK8
theorem QGy:QZ QAd:=QKW.add QPr
def QIY:Qu×Unit→Bool×AV:=fun|(c,_)=>(decide c.B,Enc.enc (Qi c.t c.h))
def QGh:FC:=Q2 (Q3 QIY)
theorem QVi(c:Qu):Qy (mkE Try.prog QAd) (hnd (mkE Try.prog QAd) 0) false Try.f131 (Qp.enc ((c,()):Qu×Unit)) [] 0 =
  QD.need (decide (Sm c.h.wide.lo∧Sm c.h.wide.hi∧Sm c.t.wide.lo∧Sm c.t.wide.hi)) (QD.leaf (AV.agg [AV.int false i64 (c.h.wide.less c.t.wide).lo,AV.int false
  i64 (c.h.wide.less c.t.wide).hi]) ([])):=by kernel_rfl
theorem QUQ:QO Try.prog 131 QGh:=by
 refine KC QGy 0 Try.func131 (by kernel_rfl) (by kernel_rfl) ?_
 rintro⟨c,⟨⟩⟩ hp;rw[QVi c];simp only[QIY,QD.den,AV.same,AV.sameL,and_true,true_and]at hp ⊢;have hp:=qdt hp;obtain⟨h1,h2,h3⟩:=hp;unfold J4 at h1;unfold J2 at h2 h3;refine⟨decide_eq_true (by unfold Sm;omega),?_⟩
 simp[Qi,Sp.less,Enc.enc,AV.same,AV.sameL]
def QAW:Tab:=Qd QAd 131 QGh
theorem QKR:QZ QAW:=QGy.add QUQ
def QKH:Qu×Unit→Bool×AV:=fun|(c,_)=>(decide c.B,Enc.enc (Qh c.t c.h))
def QOi:FC:=Q2 (Q3 QKH)
theorem QO6(c:Qu):Qy (mkE Try.prog QAW) (hnd (mkE Try.prog QAW) 0) false Try.f134 (Qp.enc ((c,()):Qu×Unit)) [] 0 =
  QD.need (decide (Sm c.h.deep.lo∧Sm c.h.deep.hi∧Sm c.t.deep.lo∧Sm c.t.deep.hi)) (QD.leaf (AV.agg [AV.int false i64 (c.h.deep.less c.t.deep).lo,AV.int false
  i64 (c.h.deep.less c.t.deep).hi]) ([])):=by kernel_rfl
theorem QZD:QO Try.prog 134 QOi:=by
 refine KC QKR 0 Try.func134 (by kernel_rfl) (by kernel_rfl) ?_
 rintro⟨c,⟨⟩⟩ hp;rw[QO6 c];simp only[QKH,QD.den,AV.same,AV.sameL,and_true,true_and]at hp ⊢;have hp:=qdt hp;obtain⟨h1,h2,h3⟩:=hp;unfold J4 at h1;unfold J2 at h2 h3;refine⟨decide_eq_true (by unfold Sm;omega),?_⟩
 simp[Qh,Sp.less,Enc.enc,AV.same,AV.sameL]
def QA8:Tab:=Qd QAW 134 QOi
theorem QJJ:QZ QA8:=QKR.add QZD
def QHC:Qu×Unit→Bool×AV:=fun|(c,_)=>(decide c.B,.tup [.int false .i64 (-c.p.slack),.int false .i64 c.p.slack])
def QI0:FC:=Q2 (Q3 QHC)
theorem QTj(c:Qu):Qy (mkE Try.prog QA8) (hnd (mkE Try.prog QA8) 0) false Try.f127 (Qp.enc ((c,()):Qu×Unit)) [] 0 =
  QD.leaf (AV.tup [AV.int false i64 (i64.wrap ((0:Int)-c.p.slack)),AV.int false i64 c.p.slack]) ([]):=by kernel_rfl
theorem QTZ:QO Try.prog 127 QI0:=by
 refine KC QJJ 0 Try.func127 (by kernel_rfl) (by kernel_rfl) ?_
 rintro⟨c,⟨⟩⟩ hp;rw[QTj c];simp only[QHC,QD.den,AV.same,AV.sameL,and_true,true_and]at hp ⊢;have hp:=qdt hp;obtain⟨h1,h2,h3⟩:=hp;unfold J4 at h1;rw[w64 (by omega) (by omega)];omega
def QB3:Tab:=Qd QA8 127 QI0
theorem QNa:QZ QB3:=QJJ.add QTZ
def QM1:Qu×Unit→Bool×AV:=fun|(c,_)=>(decide c.B,.tup [.int false .i64 0,.int false .i64 c.p.loose])
def QJY:FC:=Q2 (Q3 QM1)
theorem QQs(c:Qu):Qy (mkE Try.prog QB3) (hnd (mkE Try.prog QB3) 0) false Try.f130 (Qp.enc ((c,()):Qu×Unit)) [] 0 =
  QD.leaf (AV.tup [AV.int true i64 (0:Int),AV.int false i64 c.p.loose]) ([]):=by kernel_rfl
theorem QQ2:QO Try.prog 130 QJY:=by
 refine KC QNa 0 Try.func130 (by kernel_rfl) (by kernel_rfl) ?_
 rintro⟨c,⟨⟩⟩ hp;rw[QQs c];simp only[QM1,QD.den,AV.same,AV.sameL,and_true,true_and]at hp ⊢
def QAj:Tab:=Qd QB3 130 QJY
theorem QI5:QZ QAj:=QNa.add QQ2
def QL8:Qu×Unit→Bool×AV:=fun|(c,_)=>(decide c.B,.tup [.int false .i64 0,.int false .i64 c.p.loose])
def QIq:FC:=Q2 (Q3 QL8)
theorem QZa(c:Qu):Qy (mkE Try.prog QAj) (hnd (mkE Try.prog QAj) 0) false Try.f133 (Qp.enc ((c,()):Qu×Unit)) [] 0 =
  QD.leaf (AV.tup [AV.int true i64 (0:Int),AV.int false i64 c.p.loose]) ([]):=by kernel_rfl
theorem QWb:QO Try.prog 133 QIq:=by
 refine KC QI5 0 Try.func133 (by kernel_rfl) (by kernel_rfl) ?_
 rintro⟨c,⟨⟩⟩ hp;rw[QZa c];simp only[QL8,QD.den,AV.same,AV.sameL,and_true,true_and]at hp ⊢
def WM:Tab:=Qd QAj 133 QIq
theorem QNc:QZ WM:=QI5.add QWb
variable {sl sh hi:Int}
theorem GT{lo dh:Int}(h1 : -100000≤sl∧sl≤100000)(h2 : -100000≤sh∧sh≤100000)(h3 : -500≤lo∧lo≤500)(h4 : -500≤hi∧hi≤500)(h5:0≤dh∧dh≤100):
  (decide (i64.wrap (sl*i64.wrap (1000+dh))≥i64.wrap (1000*lo))=true→decide (i64.wrap (sh*i64.wrap (1000+dh))≤i64.wrap (1000*hi))=KZ sl sh lo hi dh) ∧
  (decide (i64.wrap (sl*i64.wrap (1000+dh))≥i64.wrap (1000*lo))=false→false=KZ sl sh lo hi dh):=by
 obtain⟨m1,m2⟩:=QFu (a:=sl) (m:=1000+dh) (by omega) (by omega) (by omega) (by omega)
 obtain⟨m3,m4⟩:=QFu (a:=sh) (m:=1000+dh) (by omega) (by omega) (by omega) (by omega)
 rw[w64 (n:=1000+dh) (by omega) (by omega),w64 (n:=sl*_) (by omega) (by omega),w64 (n:=sh*_) (by omega) (by omega),w64 (n:=1000*lo) (by omega) (by omega),w64 (n:=1000*hi) (by omega) (by omega)]
 exact⟨fun h=>QYJ (qdt h),fun h=>QUk (by have:=of_decide_eq_false h;omega)⟩
theorem QAy{lo dl:Int}(h1 : -100000≤sl∧sl≤100000)(h2 : -100000≤sh∧sh≤100000)(h3 : -500≤lo∧lo≤500)(h4 : -500≤hi∧hi≤500)(h5:0≤dl∧dl≤100):
  (decide (i64.wrap (1000*lo)≤i64.wrap (min (max 0 sl) sh*i64.wrap (1000+dl)))=true→decide (i64.wrap (min (max 0 sl) sh*i64.wrap (1000+dl))≤i64.wrap (1000*hi))=Qs sl sh lo hi dl) ∧
  (decide (i64.wrap (1000*lo)≤i64.wrap (min (max 0 sl) sh*i64.wrap (1000+dl)))=false→false=Qs sl sh lo hi dl):=by
 obtain⟨m1,m2⟩:=QFu (a:=min (max 0 sl) sh) (m:=1000+dl) (by omega) (by omega) (by omega) (by omega)
 rw[w64 (n:=1000+dl) (by omega) (by omega),w64 (n:=min (max 0 sl) sh*_) (by omega) (by omega),w64 (n:=1000*lo) (by omega) (by omega),w64 (n:=1000*hi) (by omega) (by omega)]
 exact⟨fun h=>QQc (qdt h),fun h=>QVS (by have:=of_decide_eq_false h;omega)⟩
theorem QKc:i64.wrap (1000*0)=0:=by decide
theorem QFV{dh:Int}(h1 : -100000≤sl∧sl≤100000)(h2 : -100000≤sh∧sh≤100000)(h4 : -500≤hi∧hi≤500)(h5:0≤dh∧dh≤100):
  (decide (i64.wrap (sl*i64.wrap (1000+dh))≥0)=true→decide (i64.wrap (sh*i64.wrap (1000+dh))≤i64.wrap (1000*hi))=KZ sl sh 0 hi dh) ∧
  (decide (i64.wrap (sl*i64.wrap (1000+dh))≥0)=false→false=KZ sl sh 0 hi dh):=by
 have:=GT (lo:=0) h1 h2 (by omega) h4 h5
 rw[QKc]at this;exact this
theorem QC4{dl:Int}(h1 : -100000≤sl∧sl≤100000)(h2 : -100000≤sh∧sh≤100000)(h4 : -500≤hi∧hi≤500)(h5:0≤dl∧dl≤100):
  (decide (0≤i64.wrap (min (max 0 sl) sh*i64.wrap (1000+dl)))=true→decide (i64.wrap (min (max 0 sl) sh*i64.wrap (1000+dl))≤i64.wrap (1000*hi))=Qs sl sh 0 hi dl) ∧
  (decide (0≤i64.wrap (min (max 0 sl) sh*i64.wrap (1000+dl)))=false→false=Qs sl sh 0 hi dl):=by
 have:=QAy (lo:=0) h1 h2 (by omega) h4 h5
 rw[QKc]at this;exact this
def Hi:Qu×D×Unit→Bool×AV:=fun|(x,(d,_))=>(decide (x.B∧d.c.B),.bool false (KZ d.by_.lo d.by_.hi d.lo d.hi x.p.damp.hi))
def QKO:FC:=Q2 (Q3 Hi)
theorem QQ8(x:Qu)(c:Qu):Qy (mkE Try.prog WM) (hnd (mkE Try.prog WM) 0) false Try.f97 (Qp.enc ((x,(D.off c),()):Qu×D×Unit)) [] 0 =
  QD.need (decide c.B) (QD.need (decide c.B) (QD.br (decide (i64.wrap ((Qg c.p c.t c.h).lo*i64.wrap ((1000:Int)+x.p.damp.hi))≥i64.wrap ((1000
  : Int) * -c.p.slack))) (QD.leaf (AV.bool false (decide (i64.wrap ((Qg c.p c.t c.h).hi*i64.wrap ((1000:Int)+x.p.damp.hi))≤i64.wrap ((1000:Int)
  * c.p.slack)))) ([])) (QD.leaf (AV.bool true false) ([])))):=by kernel_rfl
theorem QZK(x:Qu)(c:Qu):Qy (mkE Try.prog WM) (hnd (mkE Try.prog WM) 0) false Try.f97 (Qp.enc ((x,(D.wide c),()):Qu×D×Unit)) [] 0 =
  QD.need (decide c.B) (QD.need (decide c.B) (QD.br (decide (i64.wrap ((Qi c.t c.h).lo*i64.wrap ((1000:Int)+x.p.damp.hi))≥(0:Int))) (QD.leaf
  (AV.bool false (decide (i64.wrap ((Qi c.t c.h).hi*i64.wrap ((1000:Int)+x.p.damp.hi))≤i64.wrap ((1000:Int)*c.p.loose)))) ([])) (QD.leaf
  (AV.bool true false) ([])))):=by kernel_rfl
theorem QR5(x:Qu)(c:Qu):Qy (mkE Try.prog WM) (hnd (mkE Try.prog WM) 0) false Try.f97 (Qp.enc ((x,(D.deep c),()):Qu×D×Unit)) [] 0 =
  QD.need (decide c.B) (QD.need (decide c.B) (QD.br (decide (i64.wrap ((Qh c.t c.h).lo*i64.wrap ((1000:Int)+x.p.damp.hi))≥(0:Int))) (QD.leaf
  (AV.bool false (decide (i64.wrap ((Qh c.t c.h).hi*i64.wrap ((1000:Int)+x.p.damp.hi))≤i64.wrap ((1000:Int)*c.p.loose)))) ([])) (QD.leaf
  (AV.bool true false) ([])))):=by kernel_rfl
theorem QUi:QO Try.prog 97 QKO:=by
 refine KC QNc 0 Try.func97 (by kernel_rfl) (by kernel_rfl) ?_
 rintro⟨x,(c|c|c),⟨⟩⟩ hp
 ·rw[QQ8 x c];simp only[Hi,QD.den,AV.same,AV.sameL,and_true,true_and]at hp ⊢;have hq:=qdt hp;obtain⟨⟨hx,_⟩,hc⟩:=hq;refine⟨decide_eq_true hc,decide_eq_true hc,?_⟩;obtain⟨h1,h2,h3⟩:=hc;unfold J4 at h1 hx;unfold J2 at h2 h3;simp only[D.c]at h1 h2 h3
  first
   | (refine GT ?_ ?_ ?_ ?_ ?_<;>(try simp only[Qg,Qi,Qh])<;>omega)
   | (refine QFV ?_ ?_ ?_ ?_<;>(try simp only[Qg,Qi,Qh])<;>omega)
 ·rw[QZK x c];simp only[Hi,QD.den,AV.same,AV.sameL,and_true,true_and]at hp ⊢;have hq:=qdt hp;obtain⟨⟨hx,_⟩,hc⟩:=hq;refine⟨decide_eq_true hc,decide_eq_true hc,?_⟩;obtain⟨h1,h2,h3⟩:=hc;unfold J4 at h1 hx;unfold J2 at h2 h3;simp only[D.c]at h1 h2 h3
  first
   | (refine GT ?_ ?_ ?_ ?_ ?_<;>(try simp only[Qg,Qi,Qh])<;>omega)
   | (refine QFV ?_ ?_ ?_ ?_<;>(try simp only[Qg,Qi,Qh])<;>omega)
 ·rw[QR5 x c];simp only[Hi,QD.den,AV.same,AV.sameL,and_true,true_and]at hp ⊢;have hq:=qdt hp;obtain⟨⟨hx,_⟩,hc⟩:=hq;refine⟨decide_eq_true hc,decide_eq_true hc,?_⟩;obtain⟨h1,h2,h3⟩:=hc;unfold J4 at h1 hx;unfold J2 at h2 h3;simp only[D.c]at h1 h2 h3
  first
   | (refine GT ?_ ?_ ?_ ?_ ?_<;>(try simp only[Qg,Qi,Qh])<;>omega)
   | (refine QFV ?_ ?_ ?_ ?_<;>(try simp only[Qg,Qi,Qh])<;>omega)
def Zq:Tab:=Qd WM 97 QKO
theorem QOK:QZ Zq:=QNc.add QUi
def QBx:Qu×D×Unit→Bool×AV:=fun|(x,(d,_))=>(decide (x.B∧d.c.B),.bool false (Qs d.by_.lo d.by_.hi d.lo d.hi x.p.damp.lo))
def QLk:FC:=Q2 (Q3 QBx)
theorem QSY(x:Qu)(c:Qu):Qy (mkE Try.prog Zq) (hnd (mkE Try.prog Zq) 0) false Try.f98 (Qp.enc ((x,(D.off c),()):Qu×D×Unit)) [] 0 =
  QD.need (decide c.B) (QD.need (decide c.B) (QD.br (decide (i64.wrap ((1000:Int) * -c.p.slack)≤i64.wrap (min (max (0:Int) (Qg c.p c.t c.h).lo) (Qg
  c.p c.t c.h).hi*i64.wrap ((1000:Int)+x.p.damp.lo)))) (QD.leaf (AV.bool false (decide (i64.wrap (min (max (0:Int) (Qg c.p c.t c.h).lo) (Qg c.p c.t
  c.h).hi*i64.wrap ((1000:Int)+x.p.damp.lo))≤i64.wrap ((1000:Int)*c.p.slack)))) ([])) (QD.leaf (AV.bool true false) ([])))):=by kernel_rfl
theorem QSs(x:Qu)(c:Qu):Qy (mkE Try.prog Zq) (hnd (mkE Try.prog Zq) 0) false Try.f98 (Qp.enc ((x,(D.wide c),()):Qu×D×Unit)) [] 0 =
  QD.need (decide c.B) (QD.need (decide c.B) (QD.br (decide ((0:Int)≤i64.wrap (min (max (0:Int) (Qi c.t c.h).lo) (Qi c.t c.h).hi*i64.wrap ((1000
  : Int)+x.p.damp.lo)))) (QD.leaf (AV.bool false (decide (i64.wrap (min (max (0:Int) (Qi c.t c.h).lo) (Qi c.t c.h).hi*i64.wrap ((1000:Int) +
  x.p.damp.lo))≤i64.wrap ((1000:Int)*c.p.loose)))) ([])) (QD.leaf (AV.bool true false) ([])))):=by kernel_rfl
theorem QV2(x:Qu)(c:Qu):Qy (mkE Try.prog Zq) (hnd (mkE Try.prog Zq) 0) false Try.f98 (Qp.enc ((x,(D.deep c),()):Qu×D×Unit)) [] 0 =
  QD.need (decide c.B) (QD.need (decide c.B) (QD.br (decide ((0:Int)≤i64.wrap (min (max (0:Int) (Qh c.t c.h).lo) (Qh c.t c.h).hi*i64.wrap ((1000
  : Int)+x.p.damp.lo)))) (QD.leaf (AV.bool false (decide (i64.wrap (min (max (0:Int) (Qh c.t c.h).lo) (Qh c.t c.h).hi*i64.wrap ((1000:Int) +
  x.p.damp.lo))≤i64.wrap ((1000:Int)*c.p.loose)))) ([])) (QD.leaf (AV.bool true false) ([])))):=by kernel_rfl
theorem QVs:QO Try.prog 98 QLk:=by
 refine KC QOK 0 Try.func98 (by kernel_rfl) (by kernel_rfl) ?_
 rintro⟨x,(c|c|c),⟨⟩⟩ hp
 ·rw[QSY x c];simp only[QBx,QD.den,AV.same,AV.sameL,and_true,true_and]at hp ⊢;have hq:=qdt hp;obtain⟨⟨hx,_⟩,hc⟩:=hq;refine⟨decide_eq_true hc,decide_eq_true hc,?_⟩;obtain⟨h1,h2,h3⟩:=hc;unfold J4 at h1 hx;unfold J2 at h2 h3;simp only[D.c]at h1 h2 h3
  first
   | (refine QAy ?_ ?_ ?_ ?_ ?_<;>(try simp only[Qg,Qi,Qh])<;>omega)
   | (refine QC4 ?_ ?_ ?_ ?_<;>(try simp only[Qg,Qi,Qh])<;>omega)
 ·rw[QSs x c];simp only[QBx,QD.den,AV.same,AV.sameL,and_true,true_and]at hp ⊢;have hq:=qdt hp;obtain⟨⟨hx,_⟩,hc⟩:=hq;refine⟨decide_eq_true hc,decide_eq_true hc,?_⟩;obtain⟨h1,h2,h3⟩:=hc;unfold J4 at h1 hx;unfold J2 at h2 h3;simp only[D.c]at h1 h2 h3
  first
   | (refine QAy ?_ ?_ ?_ ?_ ?_<;>(try simp only[Qg,Qi,Qh])<;>omega)
   | (refine QC4 ?_ ?_ ?_ ?_<;>(try simp only[Qg,Qi,Qh])<;>omega)
 ·rw[QV2 x c];simp only[QBx,QD.den,AV.same,AV.sameL,and_true,true_and]at hp ⊢;have hq:=qdt hp;obtain⟨⟨hx,_⟩,hc⟩:=hq;refine⟨decide_eq_true hc,decide_eq_true hc,?_⟩;obtain⟨h1,h2,h3⟩:=hc;unfold J4 at h1 hx;unfold J2 at h2 h3;simp only[D.c]at h1 h2 h3
  first
   | (refine QAy ?_ ?_ ?_ ?_ ?_<;>(try simp only[Qg,Qi,Qh])<;>omega)
   | (refine QC4 ?_ ?_ ?_ ?_<;>(try simp only[Qg,Qi,Qh])<;>omega)
def QAT:Tab:=Qd Zq 98 QLk
theorem QKy:QZ QAT:=QOK.add QVs
def QLo:Qu×Unit→Bool×AV:=fun|(x,_)=>(decide x.B,.int false .i64 (ZQ x.p x.t x.h))
def QIv:FC:=Q2 (Q3 QLo)
theorem QTO(x:Qu):Qy (mkE Try.prog QAT) (hnd (mkE Try.prog QAT) 14) false Try.f87 (Qp.enc ((x,()):Qu×Unit)) [] 0 = .need (decide (x.B∧(D.off x).c.B)) (.br (!KZ
  (D.off x).by_.lo (D.off x).by_.hi (D.off x).lo (D.off x).hi x.p.damp.hi) (.need (decide (x.B∧(D.off x).c.B)) (.br (!Qs (D.off x).by_.lo (D.off x).by_.hi (D.off x).lo (D.off
  x).hi x.p.damp.lo) (.leaf (.int true .i64 0) ([])) (.need (decide (x.B∧(D.wide x).c.B)) (.br (!Qs (D.wide x).by_.lo (D.wide x).by_.hi (D.wide x).lo (D.wide x).hi
  x.p.damp.lo) (.leaf (.int true .i64 0) ([])) (.need (decide (x.B∧(D.deep x).c.B)) (.br (!Qs (D.deep x).by_.lo (D.deep x).by_.hi (D.deep x).lo (D.deep x).hi x.p.damp.lo)
  (.leaf (.int true .i64 0) ([])) (.leaf (.int true .i64 1) ([])))))))) (.need (decide (x.B∧(D.wide x).c.B)) (.br (!KZ (D.wide x).by_.lo (D.wide x).by_.hi (D.wide x).lo (D.wide
  x).hi x.p.damp.hi) (.need (decide (x.B∧(D.off x).c.B)) (.br (!Qs (D.off x).by_.lo (D.off x).by_.hi (D.off x).lo (D.off x).hi x.p.damp.lo) (.leaf (.int true .i64 0) ([]))
  (.need (decide (x.B∧(D.wide x).c.B)) (.br (!Qs (D.wide x).by_.lo (D.wide x).by_.hi (D.wide x).lo (D.wide x).hi x.p.damp.lo) (.leaf (.int true .i64 0) ([])) (.need (decide
  (x.B∧(D.deep x).c.B)) (.br (!Qs (D.deep x).by_.lo (D.deep x).by_.hi (D.deep x).lo (D.deep x).hi x.p.damp.lo) (.leaf (.int true .i64 0) ([])) (.leaf (.int true .i64 1)
  ([])))))))) (.need (decide (x.B∧(D.deep x).c.B)) (.br (!KZ (D.deep x).by_.lo (D.deep x).by_.hi (D.deep x).lo (D.deep x).hi x.p.damp.hi) (.need (decide (x.B∧(D.off x).c.B))
  (.br (!Qs (D.off x).by_.lo (D.off x).by_.hi (D.off x).lo (D.off x).hi x.p.damp.lo) (.leaf (.int true .i64 0) ([])) (.need (decide (x.B∧(D.wide x).c.B)) (.br (!Qs
  (D.wide x).by_.lo (D.wide x).by_.hi (D.wide x).lo (D.wide x).hi x.p.damp.lo) (.leaf (.int true .i64 0) ([])) (.need (decide (x.B∧(D.deep x).c.B)) (.br (!Qs (D.deep x).by_.lo
  (D.deep x).by_.hi (D.deep x).lo (D.deep x).hi x.p.damp.lo) (.leaf (.int true .i64 0) ([])) (.leaf (.int true .i64 1) ([])))))))) (.leaf (.int true .i64 2) ([]))))))):=by kernel_rfl
theorem QYn:QO Try.prog 87 QIv:=by
 refine KC QKy 14 Try.func87 (by kernel_rfl) (by kernel_rfl) ?_
 rintro⟨x,⟨⟩⟩ hp;rw[QTO x];simp only[QLo,QD.den,AV.same,AV.sameL,and_true,true_and]at hp ⊢;have hB:=qdt hp;have d1:decide (x.B∧(D.off x).c.B)=true:=decide_eq_true ⟨hB,hB⟩;have d2:decide (x.B∧(D.wide x).c.B)=true:=decide_eq_true ⟨hB,hB⟩;have d3:decide (x.B∧(D.deep x).c.B)=true:=decide_eq_true ⟨hB,hB⟩;have a0:KZ (D.off x).by_.lo (D.off x).by_.hi (D.off x).lo (D.off x).hi x.p.damp.hi=alw x.p x.t x.h 0:=rfl;have a1:KZ (D.wide x).by_.lo (D.wide x).by_.hi (D.wide x).lo (D.wide x).hi x.p.damp.hi=alw x.p x.t x.h 1:=rfl
 have a2:KZ (D.deep x).by_.lo (D.deep x).by_.hi (D.deep x).lo (D.deep x).hi x.p.damp.hi=alw x.p x.t x.h 2:=rfl;have b0:Qs (D.off x).by_.lo (D.off x).by_.hi (D.off x).lo (D.off x).hi x.p.damp.lo=may x.p x.t x.h 0:=rfl;have b1:Qs (D.wide x).by_.lo (D.wide x).by_.hi (D.wide x).lo (D.wide x).hi x.p.damp.lo=may x.p x.t x.h 1:=rfl;have b2:Qs (D.deep x).by_.lo (D.deep x).by_.hi (D.deep x).lo (D.deep x).hi x.p.damp.lo=may x.p x.t x.h 2:=rfl;simp only[d1,d2,d3,a0,a1,a2,b0,b1,b2,QDm,true_and]
 cases alw x.p x.t x.h 0<;>cases alw x.p x.t x.h 1<;>cases alw x.p x.t x.h 2<;>cases may x.p x.t x.h 0<;>cases may x.p x.t x.h 1<;>cases may x.p x.t x.h 2<;>simp
def QCS:Tab:=Qd QAT 87 QIv
theorem QID:QZ QCS:=QKy.add QYn
theorem QPJ{p:Qn}(h:p.ok=true):J4 p:=by rw[Qn.ok_iff]at h;unfold J4;omega
theorem QKG{e:Edge}(h:e.ok=true)(hk:e.kind=1∨e.kind=2):J2 e:=by rw[Edge.ok_iff]at h;unfold J2;omega
def okP(p:Qn)(a b:Edge):Bool:=p.ok&&(a.ok&&b.ok)
instance : Enc Gap where
  enc x := .agg [.int false .i64 x.off.lo,.int false .i64 x.off.hi,.int false .i64 x.wide.lo,.int false .i64 x.wide.hi,.int false .i64 x.deep.lo,.int false .i64 x.deep.hi]
  dec | .agg [.int _ .i64 a0,.int _ .i64 a1,.int _ .i64 a2,.int _ .i64 a3,.int _ .i64 a4,.int _ .i64 a5] => some ⟨⟨a0,a1⟩,⟨a2,a3⟩,⟨a4,a5⟩⟩ | _ => none
  ok v x h := by
    split at h <;> (try (cases h; done))
    simp only[qsI]at h; subst h; exact⟨fun _ => rfl,rfl⟩
theorem QCr{p:Qn}{a b:Edge}(h1:p.ok=true)(h2:a.ok=true)(h3:b.ok=true)(ha:a.kind=1)(hb:b.kind=2):Qu.B ⟨p,a,b⟩:=⟨QPJ h1,QKG h2 (.inl ha),QKG h3 (.inr hb)⟩
def Edge.zero:Edge:=⟨0,⟨0,0⟩,⟨0,0⟩,⟨0,0⟩⟩
def QNI(s:Edge)(w:Sp)(n:Int):Prop:=J2 s∧(0≤w.lo∧w.lo≤100∧0≤w.hi∧w.hi≤100)∧0≤n∧n≤20000
instance (s : Edge) (w : Sp) (n : Int) : Decidable (QNI s w n) := by unfold QNI; infer_instance
def QMz:Qn×Edge×Edge×Unit→Bool×AV:=fun|(p,(a,(b,_)))=>(okP p a b,.int false .i64 (ZU p a b))
def QOj:FC:=Q2 (Q3 QMz)
theorem QSA(p:Qn)(a:Edge)(b:Edge):Qy (mkE Try.prog QCS) (hnd (mkE Try.prog QCS) 4) false Try.f61 (Qp.enc ((p,a,b,()):Qn×Edge×Edge×Unit)) [] 0 =
  QD.br (a.kind==(2:Int)) (QD.br (b.kind==(1:Int)) (QD.br (a.kind==(2:Int)) (QD.need (decide (Qu.mk p b a).B) (QD.leaf (AV.int false i64 (ZQ p b
  a)) ([]))) (QD.leaf (AV.int true i64 (0:Int)) ([]))) (QD.leaf (AV.int true i64 (0:Int)) ([]))) (QD.br (a.kind==(1:Int)) (QD.br (b.kind==(2:Int))
  (QD.need (decide (Qu.mk p a b).B) (QD.leaf (AV.int false i64 (ZQ p a b)) ([]))) (QD.leaf (AV.int true i64 (0:Int)) ([]))) (QD.leaf (AV.int true
  i64 (0:Int)) ([]))):=by kernel_rfl
theorem QRP:QO Try.prog 61 QOj:=by
 refine KC QID 4 Try.func61 (by kernel_rfl) (by kernel_rfl) ?_
 rintro⟨p,a,b,⟨⟩⟩ hp;rw[QSA p a b];simp only[QMz,QD.den,AV.same,AV.sameL,and_true,true_and]at hp ⊢;unfold okP at hp;simp only[qbA]at hp;obtain⟨h1,h2,h3⟩:=hp;unfold ZU;simp only[beq_iff_eq,beq_eq_false_iff_ne];refine⟨fun ha=>⟨fun hb => ?_,fun hb=>by rw[if_pos ha,if_neg hb]⟩,fun ha=>⟨fun ha1 => ?_,fun ha1=>by rw[if_neg ha,if_neg (fun h=>ha1 h.1)]⟩⟩
 ·refine⟨fun _=>⟨decide_eq_true (QCr h1 h3 h2 hb ha),by rw[if_pos ha,if_pos hb]⟩,fun h=>absurd ha h⟩
 ·refine⟨fun hb=>⟨decide_eq_true (QCr h1 h2 h3 ha1 hb),by rw[if_neg ha,if_pos ⟨ha1,hb⟩]⟩,fun hb=>by rw[if_neg ha,if_neg (fun h=>hb h.2)]⟩
def QAC:Tab:=Qd QCS 61 QOj
theorem QIf:QZ QAC:=QID.add QRP
def QHg:Qn×Edge×Edge×Unit→Bool×AV:=fun|(p,(a,(b,_)))=>(true,.tup [.int false .i64 (KH p a b).1,.int false .i64 (KH p a b).2])
def QJA:FC:=Q2 (Q3 QHg)
theorem QSf(p:Qn)(a:Edge)(b:Edge):Qy (mkE Try.prog QAC) (hnd (mkE Try.prog QAC) 14) false Try.f32 (Qp.enc ((p,a,b,()):Qn×Edge×Edge×Unit)) [] 0 =
  QD.need (true) (QD.br (!p.ok) (QD.leaf (AV.tup [AV.int true i64 (0:Int),AV.int true i64 (1:Int)]) ([])) (QD.need (true) (QD.br (!a.ok) (QD.leaf
  (AV.tup [AV.int true i64 (0:Int),AV.int true i64 (1:Int)]) ([])) (QD.need (true) (QD.br (!b.ok) (QD.leaf (AV.tup [AV.int true i64 (0:Int),
  AV.int true i64 (1:Int)]) ([])) (QD.need (okP p a b) (QD.leaf (AV.tup [AV.int false i64 (ZU p a b),AV.int true i64 (0:Int)]) ([])))))))):=by kernel_rfl
theorem QSt:QO Try.prog 32 QJA:=by
 refine KC QIf 14 Try.func32 (by kernel_rfl) (by kernel_rfl) ?_
 rintro⟨p,a,b,⟨⟩⟩ hp;rw[QSf p a b];simp only[QHg,QD.den,AV.same,AV.sameL,and_true,true_and]at hp ⊢;unfold KH okP;cases p.ok<;>cases a.ok<;>cases b.ok<;>simp
def QCD:Tab:=Qd QAC 32 QJA
theorem QHt:QZ QCD:=QIf.add QSt
end Go.Proofs.Ytbpffdkemeoajaa
