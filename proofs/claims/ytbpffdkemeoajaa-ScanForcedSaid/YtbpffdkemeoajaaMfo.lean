/- - -/
import Derived.Test.YtbpffdkemeoajaaProg
import Derived.Test.YtbpffdkemeoajaaMfm
import Derived.Test.YtbpffdkemeoajaaMfn
import Derived.KernelRfl
open Go.IntKind (i64)
set_option maxRecDepth 100000
namespace Go.Proofs.Ytbpffdkemeoajaa
open Go.SX
theorem Gk:Try.prog.follows .mixedOrders=true:=by kernel_rfl
abbrev Tab:=FuncId→Option FC
def QBa:Tab:=fun _=>none
def Qg(C:Tab)(f:FuncId)(fc:FC):Tab:=fun g=>match g==f with
 | true=>some fc
 | false=>C g
def QZ(C:Tab):Prop:=∀ f fc,C f=some fc→QP Try.prog f fc
theorem QZ.add{C:Tab}(h:QZ C){f:FuncId}{fc:FC}(hf:QP Try.prog f fc):QZ (Qg C f fc):=by
 intro g fc' e;unfold Qg at e;split at e
 ·rename_i hg;simp only[qsI]at e;subst e;have:g=f:=by simpa using hg
  subst this;exact hf
 ·exact h g fc' e
theorem QKd:QZ QBa:=fun _ _ h=>by cases h
instance : Enc Sp where
  enc x := .agg [.int false .i64 x.lo,.int false .i64 x.hi]
  dec | .agg [.int _ .i64 a0,.int _ .i64 a1] => some ⟨a0,a1⟩ | _ => none
  ok v x h := by
    split at h <;> (try (cases h; done))
    simp only[qsI]at h; subst h; exact⟨fun _ => rfl,rfl⟩
instance : Enc Edge where
  enc x := .agg [.int false .i64 x.kind,.int false .i64 x.at_.lo,.int false .i64 x.at_.hi,.int false .i64 x.wide.lo,.int false .i64 x.wide.hi,.int false .i64 x.deep.lo,.int false .i64 x.deep.hi]
  dec | .agg [.int _ .i64 a0,.int _ .i64 a1,.int _ .i64 a2,.int _ .i64 a3,.int _ .i64 a4,.int _ .i64 a5,.int _ .i64 a6] => some ⟨a0,⟨a1,a2⟩,⟨a3,a4⟩,⟨a5,a6⟩⟩ | _ => none
  ok v x h := by
    split at h <;> (try (cases h; done))
    simp only[qsI]at h; subst h; exact⟨fun _ => rfl,rfl⟩
instance : Enc Qq where
  enc x := .agg [.int false .i64 x.length,.int false .i64 x.slack,.int false .i64 x.loose,.int false .i64 x.damp.lo,.int false .i64 x.damp.hi]
  dec | .agg [.int _ .i64 a0,.int _ .i64 a1,.int _ .i64 a2,.int _ .i64 a3,.int _ .i64 a4] => some ⟨a0,a1,a2,⟨a3,a4⟩⟩ | _ => none
  ok v x h := by
    split at h <;> (try (cases h; done))
    simp only[qsI]at h; subst h; exact⟨fun _ => rfl,rfl⟩
structure Q0 where
 p:Qq
 t:Edge
 h:Edge
inductive D where
 | off (c:Q0)
 | wide (c:Q0)
 | deep (c:Q0)
instance : Enc Q0 where
  enc x := .agg [.int false .i64 x.p.length,.int false .i64 x.p.slack,.int false .i64 x.p.loose,.int false .i64 x.p.damp.lo,.int false .i64 x.p.damp.hi,
    .int false .i64 x.t.kind,.int false .i64 x.t.at_.lo,.int false .i64 x.t.at_.hi,.int false .i64 x.t.wide.lo,.int false .i64 x.t.wide.hi,.int false .i64 x.t.deep.lo,.int false .i64 x.t.deep.hi,
    .int false .i64 x.h.kind,.int false .i64 x.h.at_.lo,.int false .i64 x.h.at_.hi,.int false .i64 x.h.wide.lo,.int false .i64 x.h.wide.hi,.int false .i64 x.h.deep.lo,.int false .i64 x.h.deep.hi]
  dec | .agg [.int _ .i64 p0,.int _ .i64 p1,.int _ .i64 p2,.int _ .i64 p3,.int _ .i64 p4,
      .int _ .i64 a0,.int _ .i64 a1,.int _ .i64 a2,.int _ .i64 a3,.int _ .i64 a4,.int _ .i64 a5,.int _ .i64 a6,
      .int _ .i64 b0,.int _ .i64 b1,.int _ .i64 b2,.int _ .i64 b3,.int _ .i64 b4,.int _ .i64 b5,.int _ .i64 b6] =>
        some ⟨⟨p0,p1,p2,⟨p3,p4⟩⟩,⟨a0,⟨a1,a2⟩,⟨a3,a4⟩,⟨a5,a6⟩⟩,⟨b0,⟨b1,b2⟩,⟨b3,b4⟩,⟨b5,b6⟩⟩⟩
      | _ => none
  ok v x h := by
    split at h <;> (try (cases h; done))
    simp only[qsI]at h; subst h; exact⟨fun _ => rfl,rfl⟩
instance : Enc D where
  enc | .off c => .ifc 167 (Enc.enc c)
      | .wide c => .ifc 168 (Enc.enc c)
      | .deep c => .ifc 169 (Enc.enc c)
  dec | .ifc t v => match (Enc.dec v : Option Q0)with
        | some c => if t = 167 then some (.off c)else if t = 168 then some (.wide c)else if t = 169 then some (.deep c)else none
        | none => none
      | _ => none
  ok v x h := by
    split at h <;> (try (cases h; done))
    split at h <;> (try (cases h; done))
    rename_i t v c hc;have h1 := Enc.ok _ c hc;split at h
    · rename_i e; simp only[qsI]at h; subst h e
      exact⟨fun r => by simp only[AV.den]; rw[h1.1 r],h1.2⟩
    · split at h
      · rename_i e; simp only[qsI]at h; subst h e
        exact⟨fun r => by simp only[AV.den]; rw[h1.1 r],h1.2⟩
      · split at h <;> (try (cases h; done))
        rename_i e; simp only[qsI]at h; subst h e;exact⟨fun r => by simp only[AV.den]; rw[h1.1 r],h1.2⟩
theorem w64{n:Int}(h1 : -9223372036854775808≤n)(h2:n≤9223372036854775807):i64.wrap n=n:=IntWalk.i64_in n ⟨h1,h2⟩
def VJ(e:Edge):Prop:=(0≤e.at_.lo∧e.at_.lo≤10000∧0≤e.at_.hi∧e.at_.hi≤10000)∧(0≤e.wide.lo∧e.wide.lo≤3000∧0≤e.wide.hi∧e.wide.hi≤3000)∧(0≤e.deep.lo∧e.deep.lo≤3000∧0≤e.deep.hi∧e.deep.hi≤3000)
def VI(p:Qq):Prop:=(1≤p.length∧p.length≤10000)∧(0≤p.slack∧p.slack≤500)∧(0≤p.loose∧p.loose≤500)∧(0≤p.damp.lo∧p.damp.lo≤100)∧0≤p.damp.hi∧p.damp.hi≤100
def Q0.B(c:Q0):Prop:=VI c.p∧VJ c.t∧VJ c.h
instance (e : Edge) : Decidable (VJ e) := by unfold VJ; infer_instance
instance (p : Qq) : Decidable (VI p) := by unfold VI; infer_instance
instance (c : Q0) : Decidable c.B := by unfold Q0.B; infer_instance
def D.by_:D→Sp
 | .off c=>Ql c.p c.t c.h
 | .wide c=>Qk c.t c.h
 | .deep c=>Qj c.t c.h
def D.lo:D→Int
 | .off c => -c.p.slack
 | _=>0
def D.hi:D→Int
 | .off c=>c.p.slack
 | .wide c=>c.p.loose
 | .deep c=>c.p.loose
def D.c:D→Q0
 | .off c=>c
 | .wide c=>c
 | .deep c=>c
abbrev mkE(P:Program)(C:Tab):Env:=⟨P,C,qK P,false,fun _=>false,false,false,false⟩
theorem QT{C:Tab}(hC:QZ C):(mkE Try.prog C).Sound:={ c:=hC,m:=HI Try.prog,mixed:=Gk }
abbrev mkF(P:Program)(C:Tab):Env:=⟨P,C,qK P,false,fun _=>false,false,false,true⟩
theorem jd{C:Tab}(hC:QZ C):(mkF Try.prog C).Sound:={ c:=hC,m:=HI Try.prog,mixed:=Gk }
abbrev mkS(P:Program)(C:Tab):Env:=⟨P,C,qK P,true,fun _=>false,false,false,false⟩
theorem Jt{C:Tab}(hC:QZ C):(mkS Try.prog C).Sound:={ c:=hC,m:=HI Try.prog,mixed:=Gk }
def binds(fs:List FuncId):Op→Bool
 | .call ⟨.value (.func f),_,_⟩=>fs.contains f
 | .binOp .mul _ _ _ _=>true
 | _=>false
def Qs(fn:Func):Code:=fn.body.getD .skip
theorem KN{C:Tab}(hC:QZ C)(d:Nat){f:FuncId}{fn:Func}(hf:Try.prog.funcs[f]? = some fn)(hb:fn.body=some (Qs fn))(hgo:Js Try.prog f=true){α:Type}[Qt α]{F:α→Bool×AV}(hF:∀ x,(F x).1=true→(Q5 (mkE Try.prog C) (hnd (mkE Try.prog C) d) false fn (Qt.enc x) [] 0).den fun u _=>u.same (F x).2):QP Try.prog f (Q8 (KA F)):=
 QGi (QT hC) hf hb hgo (fun G _ hG=>Qy (QT hC) d G _ hG) hF
def QOE:Sp×Int×Int×Unit→Bool×AV:=fun|(s,(a,(b,_)))=>(true,.bool false (s.isIn a b))
def QN4:FC:=Q8 (KA QOE)
theorem QRG(s:Sp)(a:Int)(b:Int):Q5 (mkE Try.prog QBa) (hnd (mkE Try.prog QBa) 0) false Try.f82 (Qt.enc ((s,a,b,()):Sp×Int×Int×Unit)) [] 0 =
  QD.br (decide (a≤s.lo)) (QD.br (decide (s.lo≤s.hi)) (QD.leaf (AV.bool false (decide (s.hi≤b))) ([])) (QD.leaf (AV.bool true false) ([]))) (QD.leaf (AV.bool true
  false) ([])):=by kernel_rfl
theorem QRr:QP Try.prog 82 QN4:=by
 refine KN QKd 0 Try.func82 (by kernel_rfl) (by kernel_rfl) ?_
 rintro⟨s,a,b,⟨⟩⟩ hp;rw[QRG s a b];simp only[QOE,QD.den,AV.same,AV.sameL,and_true,true_and]at hp ⊢
 (repeat' (first|(refine And.intro ?_ ?_)|(intro _)))<;>simp_all [Sp.isIn]<;>omega
def QBH:Tab:=Qg QBa 82 QN4
theorem QME:QZ QBH:=QKd.add QRr
def QKN:Int×Int×Int×Unit→Bool×AV:=fun|(n,(a,(b,_)))=>(true,.bool false (QW n a b))
def QLq:FC:=Q8 (KA QKN)
theorem QUn(n:Int)(a:Int)(b:Int):Q5 (mkE Try.prog QBH) (hnd (mkE Try.prog QBH) 0) false Try.f81 (Qt.enc ((n,a,b,()):Int×Int×Int×Unit)) [] 0 =
  QD.br (decide (a≤n)) (QD.leaf (AV.bool false (decide (n≤b))) ([])) (QD.leaf (AV.bool true false) ([])):=by kernel_rfl
theorem QRi:QP Try.prog 81 QLq:=by
 refine KN QME 0 Try.func81 (by kernel_rfl) (by kernel_rfl) ?_
 rintro⟨n,a,b,⟨⟩⟩ hp;rw[QUn n a b];simp only[QKN,QD.den,AV.same,AV.sameL,and_true,true_and]at hp ⊢
 (repeat' (first|(refine And.intro ?_ ?_)|(intro _)))<;>simp_all [QW]<;>omega
def QAe:Tab:=Qg QBH 81 QLq
theorem QIh:QZ QAe:=QME.add QRi
def QJz:Edge×Unit→Bool×AV:=fun|(a,_)=>(true,.bool false a.ok)
def QN2:FC:=Q8 (KA QJz)
theorem QRh(a:Edge):Q5 (mkE Try.prog QAe) (hnd (mkE Try.prog QAe) 0) false Try.f85 (Qt.enc ((a,()):Edge×Unit)) [] 0 =
  QD.br (a.kind==(0:Int)) (QD.leaf (AV.bool true true) ([])) (QD.br (a.kind==(1:Int)) (QD.need (true) (QD.br (a.at_.isIn (0:Int) (10000:Int)) (QD.need (true)
  (QD.br (a.wide.isIn (1:Int) (3000:Int)) (QD.need (true) (QD.leaf (AV.bool false (a.deep.isIn (1:Int) (3000:Int))) ([]))) (QD.leaf (AV.bool true false) ([]))))
  (QD.leaf (AV.bool true false) ([])))) (QD.br (a.kind==(2:Int)) (QD.need (true) (QD.br (a.at_.isIn (0:Int) (10000:Int)) (QD.need (true) (QD.br (a.wide.isIn (1 :
  Int) (3000:Int)) (QD.need (true) (QD.leaf (AV.bool false (a.deep.isIn (1:Int) (3000:Int))) ([]))) (QD.leaf (AV.bool true false) ([])))) (QD.leaf (AV.bool true false)
  ([])))) (QD.leaf (AV.bool true false) ([])))):=by kernel_rfl
theorem QS5:QP Try.prog 85 QN2:=by
 refine KN QIh 0 Try.func85 (by kernel_rfl) (by kernel_rfl) ?_
 rintro⟨a,⟨⟩⟩ hp;rw[QRh a];simp only[QJz,QD.den,AV.same,AV.sameL,and_true,true_and]at hp ⊢
 (repeat' (first|(refine And.intro ?_ ?_)|(intro _)))<;>simp_all [Edge.ok]
def QBy:Tab:=Qg QAe 85 QN2
theorem QKK:QZ QBy:=QIh.add QS5
def QKe:Qq×Unit→Bool×AV:=fun|(p,_)=>(true,.bool false p.ok)
def QLK:FC:=Q8 (KA QKe)
theorem QZi(p:Qq):Q5 (mkE Try.prog QBy) (hnd (mkE Try.prog QBy) 0) false Try.f59 (Qt.enc ((p,()):Qq×Unit)) [] 0 =
  QD.need (true) (QD.br (QW p.length (1:Int) (10000:Int)) (QD.need (true) (QD.br (QW p.slack (0:Int) (500:Int)) (QD.need (true) (QD.br (QW p.loose (0 :
  Int) (500:Int)) (QD.need (true) (QD.leaf (AV.bool false (p.damp.isIn (0:Int) (100:Int))) ([]))) (QD.leaf (AV.bool true false) ([])))) (QD.leaf (AV.bool true false)
  ([])))) (QD.leaf (AV.bool true false) ([]))):=by kernel_rfl
theorem QTS:QP Try.prog 59 QLK:=by
 refine KN QKK 0 Try.func59 (by kernel_rfl) (by kernel_rfl) ?_
 rintro⟨p,⟨⟩⟩ hp;rw[QZi p];simp only[QKe,QD.den,AV.same,AV.sameL,and_true,true_and]at hp ⊢
 (repeat' (first|(refine And.intro ?_ ?_)|(intro _)))<;>simp_all [Qq.ok]
def QBG:Tab:=Qg QBy 59 QLK
theorem QJ1:QZ QBG:=QKK.add QTS
def QLX:Sp×Sp×Unit→Bool×AV:=fun|(s,(o,_))=>(decide (Sm s.lo∧Sm s.hi∧Sm o.lo∧Sm o.hi),Enc.enc (s.less o))
def QMW:FC:=Q8 (KA QLX)
theorem QVR(s:Sp)(o:Sp):Q5 (mkE Try.prog QBG) (hnd (mkE Try.prog QBG) 0) false Try.f132 (Qt.enc ((s,o,()):Sp×Sp×Unit)) [] 0 =
  QD.leaf (AV.agg [AV.int false i64 (i64.wrap (s.lo-o.hi)),AV.int false i64 (i64.wrap (s.hi-o.lo))]) ([]):=by kernel_rfl
theorem QUW:QP Try.prog 132 QMW:=by
 refine KN QJ1 0 Try.func132 (by kernel_rfl) (by kernel_rfl) ?_
 rintro⟨s,o,⟨⟩⟩ hp;rw[QVR s o];simp only[QLX,QD.den,AV.same,AV.sameL,and_true,true_and]at hp ⊢;have hp:=qdt hp;unfold Sm at hp;simp only[Sp.less,Enc.enc,AV.same,AV.sameL];rw[w64 (by omega) (by omega),w64 (by omega) (by omega)];simp
def HW:Tab:=Qg QBG 132 QMW
theorem QNi:QZ HW:=QJ1.add QUW
def QH9:Sp×Sp×Unit→Bool×AV:=fun|(s,(o,_))=>(decide (Sm s.lo∧Sm s.hi∧Sm o.lo∧Sm o.hi),Enc.enc (s.plus o))
def QMB:FC:=Q8 (KA QH9)
theorem QTD(s:Sp)(o:Sp):Q5 (mkE Try.prog HW) (hnd (mkE Try.prog HW) 0) false Try.f129 (Qt.enc ((s,o,()):Sp×Sp×Unit)) [] 0 =
  QD.leaf (AV.agg [AV.int false i64 (i64.wrap (s.lo+o.lo)),AV.int false i64 (i64.wrap (s.hi+o.hi))]) ([]):=by kernel_rfl
theorem QVq:QP Try.prog 129 QMB:=by
 refine KN QNi 0 Try.func129 (by kernel_rfl) (by kernel_rfl) ?_
 rintro⟨s,o,⟨⟩⟩ hp;rw[QTD s o];simp only[QH9,QD.den,AV.same,AV.sameL,and_true,true_and]at hp ⊢;have hp:=qdt hp;unfold Sm at hp;simp only[Sp.plus,Enc.enc,AV.same,AV.sameL];rw[w64 (by omega) (by omega),w64 (by omega) (by omega)];simp
def QCo:Tab:=Qg HW 129 QMB
theorem QNf:QZ QCo:=QNi.add QVq
def QMc:Q0×Unit→Bool×AV:=fun|(c,_)=>(decide c.B,Enc.enc (Ql c.p c.t c.h))
def QIK:FC:=Q8 (KA QMc)
theorem QXi(c:Q0):Q5 (mkE Try.prog QCo) (hnd (mkE Try.prog QCo) 0) false Try.f128 (Qt.enc ((c,()):Q0×Unit)) [] 0 =
  QD.need (decide (Sm c.t.at_.lo∧Sm c.t.at_.hi∧Sm c.h.at_.lo∧Sm c.h.at_.hi)) (QD.need (decide (Sm (c.t.at_.plus c.h.at_).lo∧Sm (c.t.at_.plus c.h.at_).hi∧Sm
  (i64.wrap ((0:Int)-c.p.length))∧Sm (i64.wrap ((0:Int)-c.p.length)))) (QD.leaf (AV.agg [AV.int false i64 ((c.t.at_.plus c.h.at_).plus (Sp.mk
  (i64.wrap ((0:Int)-c.p.length)) (i64.wrap ((0:Int)-c.p.length)))).lo,AV.int false i64 ((c.t.at_.plus c.h.at_).plus (Sp.mk (i64.wrap ((0 :
  Int)-c.p.length)) (i64.wrap ((0:Int)-c.p.length)))).hi]) ([]))):=by kernel_rfl
theorem QZb:QP Try.prog 128 QIK:=by
 refine KN QNf 0 Try.func128 (by kernel_rfl) (by kernel_rfl) ?_
 rintro⟨c,⟨⟩⟩ hp;rw[QXi c];simp only[QMc,QD.den,AV.same,AV.sameL,and_true,true_and]at hp ⊢;have hp:=qdt hp;obtain⟨h1,h2,h3⟩:=hp;unfold VI at h1;unfold VJ at h2 h3;have e:i64.wrap (0-c.p.length) = -c.p.length:=by rw[w64 (by omega) (by omega)];omega
 rw[e];refine⟨decide_eq_true (by unfold Sm;omega),decide_eq_true (by unfold Sm Sp.plus;simp only;omega),?_⟩
 simp[Ql,Sp.plus,Enc.enc,AV.same,AV.sameL]
def QAA:Tab:=Qg QCo 128 QIK
theorem QMt:QZ QAA:=QNf.add QZb
def QOO:Q0×Unit→Bool×AV:=fun|(c,_)=>(decide c.B,Enc.enc (Qk c.t c.h))
def QIJ:FC:=Q8 (KA QOO)
theorem QSr(c:Q0):Q5 (mkE Try.prog QAA) (hnd (mkE Try.prog QAA) 0) false Try.f131 (Qt.enc ((c,()):Q0×Unit)) [] 0 =
  QD.need (decide (Sm c.h.wide.lo∧Sm c.h.wide.hi∧Sm c.t.wide.lo∧Sm c.t.wide.hi)) (QD.leaf (AV.agg [AV.int false i64 (c.h.wide.less c.t.wide).lo,AV.int false
  i64 (c.h.wide.less c.t.wide).hi]) ([])):=by kernel_rfl
theorem QXv:QP Try.prog 131 QIJ:=by
 refine KN QMt 0 Try.func131 (by kernel_rfl) (by kernel_rfl) ?_
 rintro⟨c,⟨⟩⟩ hp;rw[QSr c];simp only[QOO,QD.den,AV.same,AV.sameL,and_true,true_and]at hp ⊢;have hp:=qdt hp;obtain⟨h1,h2,h3⟩:=hp;unfold VI at h1;unfold VJ at h2 h3;refine⟨decide_eq_true (by unfold Sm;omega),?_⟩
 simp[Qk,Sp.less,Enc.enc,AV.same,AV.sameL]
def QCJ:Tab:=Qg QAA 131 QIJ
theorem QJH:QZ QCJ:=QMt.add QXv
def QHl:Q0×Unit→Bool×AV:=fun|(c,_)=>(decide c.B,Enc.enc (Qj c.t c.h))
def QND:FC:=Q8 (KA QHl)
theorem QZ6(c:Q0):Q5 (mkE Try.prog QCJ) (hnd (mkE Try.prog QCJ) 0) false Try.f134 (Qt.enc ((c,()):Q0×Unit)) [] 0 =
  QD.need (decide (Sm c.h.deep.lo∧Sm c.h.deep.hi∧Sm c.t.deep.lo∧Sm c.t.deep.hi)) (QD.leaf (AV.agg [AV.int false i64 (c.h.deep.less c.t.deep).lo,AV.int false
  i64 (c.h.deep.less c.t.deep).hi]) ([])):=by kernel_rfl
theorem QS1:QP Try.prog 134 QND:=by
 refine KN QJH 0 Try.func134 (by kernel_rfl) (by kernel_rfl) ?_
 rintro⟨c,⟨⟩⟩ hp;rw[QZ6 c];simp only[QHl,QD.den,AV.same,AV.sameL,and_true,true_and]at hp ⊢;have hp:=qdt hp;obtain⟨h1,h2,h3⟩:=hp;unfold VI at h1;unfold VJ at h2 h3;refine⟨decide_eq_true (by unfold Sm;omega),?_⟩
 simp[Qj,Sp.less,Enc.enc,AV.same,AV.sameL]
def HX:Tab:=Qg QCJ 134 QND
theorem QJT:QZ HX:=QJH.add QS1
def QK6:Q0×Unit→Bool×AV:=fun|(c,_)=>(decide c.B,.tup [.int false .i64 (-c.p.slack),.int false .i64 c.p.slack])
def QJG:FC:=Q8 (KA QK6)
theorem QVc(c:Q0):Q5 (mkE Try.prog HX) (hnd (mkE Try.prog HX) 0) false Try.f127 (Qt.enc ((c,()):Q0×Unit)) [] 0 =
  QD.leaf (AV.tup [AV.int false i64 (i64.wrap ((0:Int)-c.p.slack)),AV.int false i64 c.p.slack]) ([]):=by kernel_rfl
theorem QZE:QP Try.prog 127 QJG:=by
 refine KN QJT 0 Try.func127 (by kernel_rfl) (by kernel_rfl) ?_
 rintro⟨c,⟨⟩⟩ hp;rw[QVc c];simp only[QK6,QD.den,AV.same,AV.sameL,and_true,true_and]at hp ⊢;have hp:=qdt hp;obtain⟨h1,h2,h3⟩:=hp;unfold VI at h1;rw[w64 (by omega) (by omega)];omega
def QBE:Tab:=Qg HX 127 QJG
theorem QMQ:QZ QBE:=QJT.add QZE
def QHm:Q0×Unit→Bool×AV:=fun|(c,_)=>(decide c.B,.tup [.int false .i64 0,.int false .i64 c.p.loose])
def QO2:FC:=Q8 (KA QHm)
theorem QSC(c:Q0):Q5 (mkE Try.prog QBE) (hnd (mkE Try.prog QBE) 0) false Try.f130 (Qt.enc ((c,()):Q0×Unit)) [] 0 =
  QD.leaf (AV.tup [AV.int true i64 (0:Int),AV.int false i64 c.p.loose]) ([]):=by kernel_rfl
theorem QPh:QP Try.prog 130 QO2:=by
 refine KN QMQ 0 Try.func130 (by kernel_rfl) (by kernel_rfl) ?_
 rintro⟨c,⟨⟩⟩ hp;rw[QSC c];simp only[QHm,QD.den,AV.same,AV.sameL,and_true,true_and]at hp ⊢
def Hh:Tab:=Qg QBE 130 QO2
theorem QM4:QZ Hh:=QMQ.add QPh
def QMx:Q0×Unit→Bool×AV:=fun|(c,_)=>(decide c.B,.tup [.int false .i64 0,.int false .i64 c.p.loose])
def QLz:FC:=Q8 (KA QMx)
theorem QQ2(c:Q0):Q5 (mkE Try.prog Hh) (hnd (mkE Try.prog Hh) 0) false Try.f133 (Qt.enc ((c,()):Q0×Unit)) [] 0 =
  QD.leaf (AV.tup [AV.int true i64 (0:Int),AV.int false i64 c.p.loose]) ([]):=by kernel_rfl
theorem QQH:QP Try.prog 133 QLz:=by
 refine KN QM4 0 Try.func133 (by kernel_rfl) (by kernel_rfl) ?_
 rintro⟨c,⟨⟩⟩ hp;rw[QQ2 c];simp only[QMx,QD.den,AV.same,AV.sameL,and_true,true_and]at hp ⊢
def Z7:Tab:=Qg Hh 133 QLz
theorem QLG:QZ Z7:=QM4.add QQH
variable {sl sh hi:Int}
theorem GE{lo dh:Int}(h1 : -100000≤sl∧sl≤100000)(h2 : -100000≤sh∧sh≤100000)(h3 : -500≤lo∧lo≤500)(h4 : -500≤hi∧hi≤500)(h5:0≤dh∧dh≤100):
  (decide (i64.wrap (sl*i64.wrap (1000+dh))≥i64.wrap (1000*lo))=true→decide (i64.wrap (sh*i64.wrap (1000+dh))≤i64.wrap (1000*hi))=Ka sl sh lo hi dh) ∧
  (decide (i64.wrap (sl*i64.wrap (1000+dh))≥i64.wrap (1000*lo))=false→false=Ka sl sh lo hi dh):=by
 obtain⟨m1,m2⟩:=QFN (a:=sl) (m:=1000+dh) (by omega) (by omega) (by omega) (by omega)
 obtain⟨m3,m4⟩:=QFN (a:=sh) (m:=1000+dh) (by omega) (by omega) (by omega) (by omega)
 rw[w64 (n:=1000+dh) (by omega) (by omega),w64 (n:=sl*_) (by omega) (by omega),w64 (n:=sh*_) (by omega) (by omega),w64 (n:=1000*lo) (by omega) (by omega),w64 (n:=1000*hi) (by omega) (by omega)]
 exact⟨fun h=>QaE (qdt h),fun h=>QWY (by have:=of_decide_eq_false h;omega)⟩
theorem QCS{lo dl:Int}(h1 : -100000≤sl∧sl≤100000)(h2 : -100000≤sh∧sh≤100000)(h3 : -500≤lo∧lo≤500)(h4 : -500≤hi∧hi≤500)(h5:0≤dl∧dl≤100):
  (decide (i64.wrap (1000*lo)≤i64.wrap (min (max 0 sl) sh*i64.wrap (1000+dl)))=true→decide (i64.wrap (min (max 0 sl) sh*i64.wrap (1000+dl))≤i64.wrap (1000*hi))=Qw sl sh lo hi dl) ∧
  (decide (i64.wrap (1000*lo)≤i64.wrap (min (max 0 sl) sh*i64.wrap (1000+dl)))=false→false=Qw sl sh lo hi dl):=by
 obtain⟨m1,m2⟩:=QFN (a:=min (max 0 sl) sh) (m:=1000+dl) (by omega) (by omega) (by omega) (by omega)
 rw[w64 (n:=1000+dl) (by omega) (by omega),w64 (n:=min (max 0 sl) sh*_) (by omega) (by omega),w64 (n:=1000*lo) (by omega) (by omega),w64 (n:=1000*hi) (by omega) (by omega)]
 exact⟨fun h=>QZJ (qdt h),fun h=>QPL (by have:=of_decide_eq_false h;omega)⟩
theorem QNQ:i64.wrap (1000*0)=0:=by decide
theorem QET{dh:Int}(h1 : -100000≤sl∧sl≤100000)(h2 : -100000≤sh∧sh≤100000)(h4 : -500≤hi∧hi≤500)(h5:0≤dh∧dh≤100):
  (decide (i64.wrap (sl*i64.wrap (1000+dh))≥0)=true→decide (i64.wrap (sh*i64.wrap (1000+dh))≤i64.wrap (1000*hi))=Ka sl sh 0 hi dh) ∧
  (decide (i64.wrap (sl*i64.wrap (1000+dh))≥0)=false→false=Ka sl sh 0 hi dh):=by
 have:=GE (lo:=0) h1 h2 (by omega) h4 h5
 rw[QNQ]at this;exact this
theorem QGd{dl:Int}(h1 : -100000≤sl∧sl≤100000)(h2 : -100000≤sh∧sh≤100000)(h4 : -500≤hi∧hi≤500)(h5:0≤dl∧dl≤100):
  (decide (0≤i64.wrap (min (max 0 sl) sh*i64.wrap (1000+dl)))=true→decide (i64.wrap (min (max 0 sl) sh*i64.wrap (1000+dl))≤i64.wrap (1000*hi))=Qw sl sh 0 hi dl) ∧
  (decide (0≤i64.wrap (min (max 0 sl) sh*i64.wrap (1000+dl)))=false→false=Qw sl sh 0 hi dl):=by
 have:=QCS (lo:=0) h1 h2 (by omega) h4 h5
 rw[QNQ]at this;exact this
def QAB:Q0×D×Unit→Bool×AV:=fun|(x,(d,_))=>(decide (x.B∧d.c.B),.bool false (Ka d.by_.lo d.by_.hi d.lo d.hi x.p.damp.hi))
def QHn:FC:=Q8 (KA QAB)
theorem QUN(x:Q0)(c:Q0):Q5 (mkE Try.prog Z7) (hnd (mkE Try.prog Z7) 0) false Try.f97 (Qt.enc ((x,(D.off c),()):Q0×D×Unit)) [] 0 =
  QD.need (decide c.B) (QD.need (decide c.B) (QD.br (decide (i64.wrap ((Ql c.p c.t c.h).lo*i64.wrap ((1000:Int)+x.p.damp.hi))≥i64.wrap ((1000
  : Int) * -c.p.slack))) (QD.leaf (AV.bool false (decide (i64.wrap ((Ql c.p c.t c.h).hi*i64.wrap ((1000:Int)+x.p.damp.hi))≤i64.wrap ((1000:Int)
  * c.p.slack)))) ([])) (QD.leaf (AV.bool true false) ([])))):=by kernel_rfl
theorem QZL(x:Q0)(c:Q0):Q5 (mkE Try.prog Z7) (hnd (mkE Try.prog Z7) 0) false Try.f97 (Qt.enc ((x,(D.wide c),()):Q0×D×Unit)) [] 0 =
  QD.need (decide c.B) (QD.need (decide c.B) (QD.br (decide (i64.wrap ((Qk c.t c.h).lo*i64.wrap ((1000:Int)+x.p.damp.hi))≥(0:Int))) (QD.leaf
  (AV.bool false (decide (i64.wrap ((Qk c.t c.h).hi*i64.wrap ((1000:Int)+x.p.damp.hi))≤i64.wrap ((1000:Int)*c.p.loose)))) ([])) (QD.leaf
  (AV.bool true false) ([])))):=by kernel_rfl
theorem QX7(x:Q0)(c:Q0):Q5 (mkE Try.prog Z7) (hnd (mkE Try.prog Z7) 0) false Try.f97 (Qt.enc ((x,(D.deep c),()):Q0×D×Unit)) [] 0 =
  QD.need (decide c.B) (QD.need (decide c.B) (QD.br (decide (i64.wrap ((Qj c.t c.h).lo*i64.wrap ((1000:Int)+x.p.damp.hi))≥(0:Int))) (QD.leaf
  (AV.bool false (decide (i64.wrap ((Qj c.t c.h).hi*i64.wrap ((1000:Int)+x.p.damp.hi))≤i64.wrap ((1000:Int)*c.p.loose)))) ([])) (QD.leaf
  (AV.bool true false) ([])))):=by kernel_rfl
theorem QYO:QP Try.prog 97 QHn:=by
 refine KN QLG 0 Try.func97 (by kernel_rfl) (by kernel_rfl) ?_
 rintro⟨x,(c|c|c),⟨⟩⟩ hp
 ·rw[QUN x c];simp only[QAB,QD.den,AV.same,AV.sameL,and_true,true_and]at hp ⊢;have hq:=qdt hp;obtain⟨⟨hx,_⟩,hc⟩:=hq;refine⟨decide_eq_true hc,decide_eq_true hc,?_⟩;obtain⟨h1,h2,h3⟩:=hc;unfold VI at h1 hx;unfold VJ at h2 h3;simp only[D.c]at h1 h2 h3
  first
   | (refine GE ?_ ?_ ?_ ?_ ?_<;>(try simp only[Ql,Qk,Qj])<;>omega)
   | (refine QET ?_ ?_ ?_ ?_<;>(try simp only[Ql,Qk,Qj])<;>omega)
 ·rw[QZL x c];simp only[QAB,QD.den,AV.same,AV.sameL,and_true,true_and]at hp ⊢;have hq:=qdt hp;obtain⟨⟨hx,_⟩,hc⟩:=hq;refine⟨decide_eq_true hc,decide_eq_true hc,?_⟩;obtain⟨h1,h2,h3⟩:=hc;unfold VI at h1 hx;unfold VJ at h2 h3;simp only[D.c]at h1 h2 h3
  first
   | (refine GE ?_ ?_ ?_ ?_ ?_<;>(try simp only[Ql,Qk,Qj])<;>omega)
   | (refine QET ?_ ?_ ?_ ?_<;>(try simp only[Ql,Qk,Qj])<;>omega)
 ·rw[QX7 x c];simp only[QAB,QD.den,AV.same,AV.sameL,and_true,true_and]at hp ⊢;have hq:=qdt hp;obtain⟨⟨hx,_⟩,hc⟩:=hq;refine⟨decide_eq_true hc,decide_eq_true hc,?_⟩;obtain⟨h1,h2,h3⟩:=hc;unfold VI at h1 hx;unfold VJ at h2 h3;simp only[D.c]at h1 h2 h3
  first
   | (refine GE ?_ ?_ ?_ ?_ ?_<;>(try simp only[Ql,Qk,Qj])<;>omega)
   | (refine QET ?_ ?_ ?_ ?_<;>(try simp only[Ql,Qk,Qj])<;>omega)
def Wd:Tab:=Qg Z7 97 QHn
theorem QMo:QZ Wd:=QLG.add QYO
def QBs:Q0×D×Unit→Bool×AV:=fun|(x,(d,_))=>(decide (x.B∧d.c.B),.bool false (Qw d.by_.lo d.by_.hi d.lo d.hi x.p.damp.lo))
def QJt:FC:=Q8 (KA QBs)
theorem QZq(x:Q0)(c:Q0):Q5 (mkE Try.prog Wd) (hnd (mkE Try.prog Wd) 0) false Try.f98 (Qt.enc ((x,(D.off c),()):Q0×D×Unit)) [] 0 =
  QD.need (decide c.B) (QD.need (decide c.B) (QD.br (decide (i64.wrap ((1000:Int) * -c.p.slack)≤i64.wrap (min (max (0:Int) (Ql c.p c.t c.h).lo) (Ql
  c.p c.t c.h).hi*i64.wrap ((1000:Int)+x.p.damp.lo)))) (QD.leaf (AV.bool false (decide (i64.wrap (min (max (0:Int) (Ql c.p c.t c.h).lo) (Ql c.p c.t
  c.h).hi*i64.wrap ((1000:Int)+x.p.damp.lo))≤i64.wrap ((1000:Int)*c.p.slack)))) ([])) (QD.leaf (AV.bool true false) ([])))):=by kernel_rfl
theorem QS2(x:Q0)(c:Q0):Q5 (mkE Try.prog Wd) (hnd (mkE Try.prog Wd) 0) false Try.f98 (Qt.enc ((x,(D.wide c),()):Q0×D×Unit)) [] 0 =
  QD.need (decide c.B) (QD.need (decide c.B) (QD.br (decide ((0:Int)≤i64.wrap (min (max (0:Int) (Qk c.t c.h).lo) (Qk c.t c.h).hi*i64.wrap ((1000
  : Int)+x.p.damp.lo)))) (QD.leaf (AV.bool false (decide (i64.wrap (min (max (0:Int) (Qk c.t c.h).lo) (Qk c.t c.h).hi*i64.wrap ((1000:Int) +
  x.p.damp.lo))≤i64.wrap ((1000:Int)*c.p.loose)))) ([])) (QD.leaf (AV.bool true false) ([])))):=by kernel_rfl
theorem QSs(x:Q0)(c:Q0):Q5 (mkE Try.prog Wd) (hnd (mkE Try.prog Wd) 0) false Try.f98 (Qt.enc ((x,(D.deep c),()):Q0×D×Unit)) [] 0 =
  QD.need (decide c.B) (QD.need (decide c.B) (QD.br (decide ((0:Int)≤i64.wrap (min (max (0:Int) (Qj c.t c.h).lo) (Qj c.t c.h).hi*i64.wrap ((1000
  : Int)+x.p.damp.lo)))) (QD.leaf (AV.bool false (decide (i64.wrap (min (max (0:Int) (Qj c.t c.h).lo) (Qj c.t c.h).hi*i64.wrap ((1000:Int) +
  x.p.damp.lo))≤i64.wrap ((1000:Int)*c.p.loose)))) ([])) (QD.leaf (AV.bool true false) ([])))):=by kernel_rfl
theorem QUZ:QP Try.prog 98 QJt:=by
 refine KN QMo 0 Try.func98 (by kernel_rfl) (by kernel_rfl) ?_
 rintro⟨x,(c|c|c),⟨⟩⟩ hp
 ·rw[QZq x c];simp only[QBs,QD.den,AV.same,AV.sameL,and_true,true_and]at hp ⊢;have hq:=qdt hp;obtain⟨⟨hx,_⟩,hc⟩:=hq;refine⟨decide_eq_true hc,decide_eq_true hc,?_⟩;obtain⟨h1,h2,h3⟩:=hc;unfold VI at h1 hx;unfold VJ at h2 h3;simp only[D.c]at h1 h2 h3
  first
   | (refine QCS ?_ ?_ ?_ ?_ ?_<;>(try simp only[Ql,Qk,Qj])<;>omega)
   | (refine QGd ?_ ?_ ?_ ?_<;>(try simp only[Ql,Qk,Qj])<;>omega)
 ·rw[QS2 x c];simp only[QBs,QD.den,AV.same,AV.sameL,and_true,true_and]at hp ⊢;have hq:=qdt hp;obtain⟨⟨hx,_⟩,hc⟩:=hq;refine⟨decide_eq_true hc,decide_eq_true hc,?_⟩;obtain⟨h1,h2,h3⟩:=hc;unfold VI at h1 hx;unfold VJ at h2 h3;simp only[D.c]at h1 h2 h3
  first
   | (refine QCS ?_ ?_ ?_ ?_ ?_<;>(try simp only[Ql,Qk,Qj])<;>omega)
   | (refine QGd ?_ ?_ ?_ ?_<;>(try simp only[Ql,Qk,Qj])<;>omega)
 ·rw[QSs x c];simp only[QBs,QD.den,AV.same,AV.sameL,and_true,true_and]at hp ⊢;have hq:=qdt hp;obtain⟨⟨hx,_⟩,hc⟩:=hq;refine⟨decide_eq_true hc,decide_eq_true hc,?_⟩;obtain⟨h1,h2,h3⟩:=hc;unfold VI at h1 hx;unfold VJ at h2 h3;simp only[D.c]at h1 h2 h3
  first
   | (refine QCS ?_ ?_ ?_ ?_ ?_<;>(try simp only[Ql,Qk,Qj])<;>omega)
   | (refine QGd ?_ ?_ ?_ ?_<;>(try simp only[Ql,Qk,Qj])<;>omega)
def QCK:Tab:=Qg Wd 98 QJt
theorem QL9:QZ QCK:=QMo.add QUZ
def QOY:Q0×Unit→Bool×AV:=fun|(x,_)=>(decide x.B,.int false .i64 (ZQ x.p x.t x.h))
def QLr:FC:=Q8 (KA QOY)
theorem QWq(x:Q0):Q5 (mkE Try.prog QCK) (hnd (mkE Try.prog QCK) 14) false Try.f87 (Qt.enc ((x,()):Q0×Unit)) [] 0 = .need (decide (x.B∧(D.off x).c.B)) (.br (!Ka
  (D.off x).by_.lo (D.off x).by_.hi (D.off x).lo (D.off x).hi x.p.damp.hi) (.need (decide (x.B∧(D.off x).c.B)) (.br (!Qw (D.off x).by_.lo (D.off x).by_.hi (D.off x).lo (D.off
  x).hi x.p.damp.lo) (.leaf (.int true .i64 0) ([])) (.need (decide (x.B∧(D.wide x).c.B)) (.br (!Qw (D.wide x).by_.lo (D.wide x).by_.hi (D.wide x).lo (D.wide x).hi
  x.p.damp.lo) (.leaf (.int true .i64 0) ([])) (.need (decide (x.B∧(D.deep x).c.B)) (.br (!Qw (D.deep x).by_.lo (D.deep x).by_.hi (D.deep x).lo (D.deep x).hi x.p.damp.lo)
  (.leaf (.int true .i64 0) ([])) (.leaf (.int true .i64 1) ([])))))))) (.need (decide (x.B∧(D.wide x).c.B)) (.br (!Ka (D.wide x).by_.lo (D.wide x).by_.hi (D.wide x).lo (D.wide
  x).hi x.p.damp.hi) (.need (decide (x.B∧(D.off x).c.B)) (.br (!Qw (D.off x).by_.lo (D.off x).by_.hi (D.off x).lo (D.off x).hi x.p.damp.lo) (.leaf (.int true .i64 0) ([]))
  (.need (decide (x.B∧(D.wide x).c.B)) (.br (!Qw (D.wide x).by_.lo (D.wide x).by_.hi (D.wide x).lo (D.wide x).hi x.p.damp.lo) (.leaf (.int true .i64 0) ([])) (.need (decide
  (x.B∧(D.deep x).c.B)) (.br (!Qw (D.deep x).by_.lo (D.deep x).by_.hi (D.deep x).lo (D.deep x).hi x.p.damp.lo) (.leaf (.int true .i64 0) ([])) (.leaf (.int true .i64 1)
  ([])))))))) (.need (decide (x.B∧(D.deep x).c.B)) (.br (!Ka (D.deep x).by_.lo (D.deep x).by_.hi (D.deep x).lo (D.deep x).hi x.p.damp.hi) (.need (decide (x.B∧(D.off x).c.B))
  (.br (!Qw (D.off x).by_.lo (D.off x).by_.hi (D.off x).lo (D.off x).hi x.p.damp.lo) (.leaf (.int true .i64 0) ([])) (.need (decide (x.B∧(D.wide x).c.B)) (.br (!Qw
  (D.wide x).by_.lo (D.wide x).by_.hi (D.wide x).lo (D.wide x).hi x.p.damp.lo) (.leaf (.int true .i64 0) ([])) (.need (decide (x.B∧(D.deep x).c.B)) (.br (!Qw (D.deep x).by_.lo
  (D.deep x).by_.hi (D.deep x).lo (D.deep x).hi x.p.damp.lo) (.leaf (.int true .i64 0) ([])) (.leaf (.int true .i64 1) ([])))))))) (.leaf (.int true .i64 2) ([]))))))):=by kernel_rfl
theorem QQR:QP Try.prog 87 QLr:=by
 refine KN QL9 14 Try.func87 (by kernel_rfl) (by kernel_rfl) ?_
 rintro⟨x,⟨⟩⟩ hp;rw[QWq x];simp only[QOY,QD.den,AV.same,AV.sameL,and_true,true_and]at hp ⊢;have hB:=qdt hp;have d1:decide (x.B∧(D.off x).c.B)=true:=decide_eq_true ⟨hB,hB⟩;have d2:decide (x.B∧(D.wide x).c.B)=true:=decide_eq_true ⟨hB,hB⟩;have d3:decide (x.B∧(D.deep x).c.B)=true:=decide_eq_true ⟨hB,hB⟩;have a0:Ka (D.off x).by_.lo (D.off x).by_.hi (D.off x).lo (D.off x).hi x.p.damp.hi=alw x.p x.t x.h 0:=rfl;have a1:Ka (D.wide x).by_.lo (D.wide x).by_.hi (D.wide x).lo (D.wide x).hi x.p.damp.hi=alw x.p x.t x.h 1:=rfl
 have a2:Ka (D.deep x).by_.lo (D.deep x).by_.hi (D.deep x).lo (D.deep x).hi x.p.damp.hi=alw x.p x.t x.h 2:=rfl;have b0:Qw (D.off x).by_.lo (D.off x).by_.hi (D.off x).lo (D.off x).hi x.p.damp.lo=may x.p x.t x.h 0:=rfl;have b1:Qw (D.wide x).by_.lo (D.wide x).by_.hi (D.wide x).lo (D.wide x).hi x.p.damp.lo=may x.p x.t x.h 1:=rfl;have b2:Qw (D.deep x).by_.lo (D.deep x).by_.hi (D.deep x).lo (D.deep x).hi x.p.damp.lo=may x.p x.t x.h 2:=rfl;simp only[d1,d2,d3,a0,a1,a2,b0,b1,b2,QD2,true_and]
 cases alw x.p x.t x.h 0<;>cases alw x.p x.t x.h 1<;>cases alw x.p x.t x.h 2<;>cases may x.p x.t x.h 0<;>cases may x.p x.t x.h 1<;>cases may x.p x.t x.h 2<;>simp
def QAa:Tab:=Qg QCK 87 QLr
theorem QIP:QZ QAa:=QL9.add QQR
theorem QZh{p:Qq}(h:p.ok=true):VI p:=by rw[Qq.ok_iff]at h;unfold VI;omega
theorem QOc{e:Edge}(h:e.ok=true)(hk:e.kind=1∨e.kind=2):VJ e:=by rw[Edge.ok_iff]at h;unfold VJ;omega
def okP(p:Qq)(a b:Edge):Bool:=p.ok&&(a.ok&&b.ok)
instance : Enc Gap where
  enc x := .agg [.int false .i64 x.off.lo,.int false .i64 x.off.hi,.int false .i64 x.wide.lo,.int false .i64 x.wide.hi,.int false .i64 x.deep.lo,.int false .i64 x.deep.hi]
  dec | .agg [.int _ .i64 a0,.int _ .i64 a1,.int _ .i64 a2,.int _ .i64 a3,.int _ .i64 a4,.int _ .i64 a5] => some ⟨⟨a0,a1⟩,⟨a2,a3⟩,⟨a4,a5⟩⟩ | _ => none
  ok v x h := by
    split at h <;> (try (cases h; done))
    simp only[qsI]at h; subst h; exact⟨fun _ => rfl,rfl⟩
theorem QDC{p:Qq}{a b:Edge}(h1:p.ok=true)(h2:a.ok=true)(h3:b.ok=true)(ha:a.kind=1)(hb:b.kind=2):Q0.B ⟨p,a,b⟩:=⟨QZh h1,QOc h2 (.inl ha),QOc h3 (.inr hb)⟩
def Edge.zero:Edge:=⟨0,⟨0,0⟩,⟨0,0⟩,⟨0,0⟩⟩
def QHr(s:Edge)(w:Sp)(n:Int):Prop:=VJ s∧(0≤w.lo∧w.lo≤100∧0≤w.hi∧w.hi≤100)∧0≤n∧n≤20000
instance (s : Edge) (w : Sp) (n : Int) : Decidable (QHr s w n) := by unfold QHr; infer_instance
def QMg:Qq×Edge×Edge×Unit→Bool×AV:=fun|(p,(a,(b,_)))=>(okP p a b,.int false .i64 (Zd p a b))
def QNx:FC:=Q8 (KA QMg)
theorem QV4(p:Qq)(a:Edge)(b:Edge):Q5 (mkE Try.prog QAa) (hnd (mkE Try.prog QAa) 4) false Try.f61 (Qt.enc ((p,a,b,()):Qq×Edge×Edge×Unit)) [] 0 =
  QD.br (a.kind==(2:Int)) (QD.br (b.kind==(1:Int)) (QD.br (a.kind==(2:Int)) (QD.need (decide (Q0.mk p b a).B) (QD.leaf (AV.int false i64 (ZQ p b
  a)) ([]))) (QD.leaf (AV.int true i64 (0:Int)) ([]))) (QD.leaf (AV.int true i64 (0:Int)) ([]))) (QD.br (a.kind==(1:Int)) (QD.br (b.kind==(2:Int))
  (QD.need (decide (Q0.mk p a b).B) (QD.leaf (AV.int false i64 (ZQ p a b)) ([]))) (QD.leaf (AV.int true i64 (0:Int)) ([]))) (QD.leaf (AV.int true
  i64 (0:Int)) ([]))):=by kernel_rfl
theorem QXF:QP Try.prog 61 QNx:=by
 refine KN QIP 4 Try.func61 (by kernel_rfl) (by kernel_rfl) ?_
 rintro⟨p,a,b,⟨⟩⟩ hp;rw[QV4 p a b];simp only[QMg,QD.den,AV.same,AV.sameL,and_true,true_and]at hp ⊢;unfold okP at hp;simp only[qbA]at hp;obtain⟨h1,h2,h3⟩:=hp;unfold Zd;simp only[beq_iff_eq,beq_eq_false_iff_ne];refine⟨fun ha=>⟨fun hb => ?_,fun hb=>by rw[if_pos ha,if_neg hb]⟩,fun ha=>⟨fun ha1 => ?_,fun ha1=>by rw[if_neg ha,if_neg (fun h=>ha1 h.1)]⟩⟩
 ·refine⟨fun _=>⟨decide_eq_true (QDC h1 h3 h2 hb ha),by rw[if_pos ha,if_pos hb]⟩,fun h=>absurd ha h⟩
 ·refine⟨fun hb=>⟨decide_eq_true (QDC h1 h2 h3 ha1 hb),by rw[if_neg ha,if_pos ⟨ha1,hb⟩]⟩,fun hb=>by rw[if_neg ha,if_neg (fun h=>hb h.2)]⟩
def QBo:Tab:=Qg QAa 61 QNx
theorem QLs:QZ QBo:=QIP.add QXF
def QI5:Qq×Edge×Edge×Unit→Bool×AV:=fun|(p,(a,(b,_)))=>(true,.tup [.int false .i64 (KQ p a b).1,.int false .i64 (KQ p a b).2])
def QJD:FC:=Q8 (KA QI5)
theorem QZK(p:Qq)(a:Edge)(b:Edge):Q5 (mkE Try.prog QBo) (hnd (mkE Try.prog QBo) 14) false Try.f32 (Qt.enc ((p,a,b,()):Qq×Edge×Edge×Unit)) [] 0 =
  QD.need (true) (QD.br (!p.ok) (QD.leaf (AV.tup [AV.int true i64 (0:Int),AV.int true i64 (1:Int)]) ([])) (QD.need (true) (QD.br (!a.ok) (QD.leaf
  (AV.tup [AV.int true i64 (0:Int),AV.int true i64 (1:Int)]) ([])) (QD.need (true) (QD.br (!b.ok) (QD.leaf (AV.tup [AV.int true i64 (0:Int),
  AV.int true i64 (1:Int)]) ([])) (QD.need (okP p a b) (QD.leaf (AV.tup [AV.int false i64 (Zd p a b),AV.int true i64 (0:Int)]) ([])))))))):=by kernel_rfl
theorem QXM:QP Try.prog 32 QJD:=by
 refine KN QLs 14 Try.func32 (by kernel_rfl) (by kernel_rfl) ?_
 rintro⟨p,a,b,⟨⟩⟩ hp;rw[QZK p a b];simp only[QI5,QD.den,AV.same,AV.sameL,and_true,true_and]at hp ⊢;unfold KQ okP;cases p.ok<;>cases a.ok<;>cases b.ok<;>simp
def Hd:Tab:=Qg QBo 32 QJD
theorem QNW:QZ Hd:=QLs.add QXM
end Go.Proofs.Ytbpffdkemeoajaa
