/- - -/
import Derived.Test.YtbpffdkemeoajaaProg
import Derived.Test.YtbpffdkemeoajaaMom
import Derived.Test.YtbpffdkemeoajaaMon
import Derived.KernelRfl
open Go.IntKind (i64)
set_option maxRecDepth 100000
namespace Go.Proofs.Ytbpffdkemeoajaa
open Go.SX
theorem je:Try.prog.follows .mixedOrders=true:=by kernel_rfl
abbrev Tab:=FuncId→Option FC
def QAN:Tab:=fun _=>none
def Qh(C:Tab)(f:FuncId)(fc:FC):Tab:=fun g=>match g==f with
 | true=>some fc
 | false=>C g
def QW(C:Tab):Prop:=∀ f fc,C f=some fc→QQ Try.prog f fc
theorem QW.add{C:Tab}(h:QW C){f:FuncId}{fc:FC}(hf:QQ Try.prog f fc):QW (Qh C f fc):=by
 intro g fc' e;unfold Qh at e;split at e
 ·rename_i hg;simp only[qsI]at e;subst e;have:g=f:=by simpa using hg
  subst this;exact hf
 ·exact h g fc' e
theorem QLM:QW QAN:=fun _ _ h=>by cases h
instance : Enc Sp where
  enc x := .agg [.int false .i64 x.lo,.int false .i64 x.hi]
  dec | .agg [.int _ .i64 a0,.int _ .i64 a1] => some ⟨a0,a1⟩ | _ => none
  ok v x h := by
    split at h <;> (try (cases h; done))
    simp only[qsI]at h; subst h; exact⟨fun _ => rfl,rfl⟩
instance : Enc Edge where
  enc x := .agg [.int false .i64 x.kind,.int false .i64 x.at_.lo,.int false .i64 x.at_.hi,.int false .i64 x.wide.lo,.int false .i64 x.wide.hi,.int false .i64 x.deep.lo,.int false .i64 x.deep.hi]
  dec | .agg [.int _ .i64 a0,.int _ .i64 a1,.int _ .i64 a2,.int _ .i64 a3,.int _ .i64 a4,.int _ .i64 a5,.int _ .i64 a6] => some ⟨a0,⟨a1,a2⟩,⟨a3,a4⟩,⟨a5,a6⟩⟩ | _ => none
  ok v x h := by
    split at h <;> (try (cases h; done))
    simp only[qsI]at h; subst h; exact⟨fun _ => rfl,rfl⟩
instance : Enc Qg where
  enc x := .agg [.int false .i64 x.length,.int false .i64 x.slack,.int false .i64 x.loose,.int false .i64 x.damp.lo,.int false .i64 x.damp.hi]
  dec | .agg [.int _ .i64 a0,.int _ .i64 a1,.int _ .i64 a2,.int _ .i64 a3,.int _ .i64 a4] => some ⟨a0,a1,a2,⟨a3,a4⟩⟩ | _ => none
  ok v x h := by
    split at h <;> (try (cases h; done))
    simp only[qsI]at h; subst h; exact⟨fun _ => rfl,rfl⟩
structure Qs where
 p:Qg
 t:Edge
 h:Edge
inductive D where
 | off (c:Qs)
 | wide (c:Qs)
 | deep (c:Qs)
instance : Enc Qs where
  enc x := .agg [.int false .i64 x.p.length,.int false .i64 x.p.slack,.int false .i64 x.p.loose,.int false .i64 x.p.damp.lo,.int false .i64 x.p.damp.hi,
    .int false .i64 x.t.kind,.int false .i64 x.t.at_.lo,.int false .i64 x.t.at_.hi,.int false .i64 x.t.wide.lo,.int false .i64 x.t.wide.hi,.int false .i64 x.t.deep.lo,.int false .i64 x.t.deep.hi,
    .int false .i64 x.h.kind,.int false .i64 x.h.at_.lo,.int false .i64 x.h.at_.hi,.int false .i64 x.h.wide.lo,.int false .i64 x.h.wide.hi,.int false .i64 x.h.deep.lo,.int false .i64 x.h.deep.hi]
  dec | .agg [.int _ .i64 p0,.int _ .i64 p1,.int _ .i64 p2,.int _ .i64 p3,.int _ .i64 p4,
      .int _ .i64 a0,.int _ .i64 a1,.int _ .i64 a2,.int _ .i64 a3,.int _ .i64 a4,.int _ .i64 a5,.int _ .i64 a6,
      .int _ .i64 b0,.int _ .i64 b1,.int _ .i64 b2,.int _ .i64 b3,.int _ .i64 b4,.int _ .i64 b5,.int _ .i64 b6] =>
        some ⟨⟨p0,p1,p2,⟨p3,p4⟩⟩,⟨a0,⟨a1,a2⟩,⟨a3,a4⟩,⟨a5,a6⟩⟩,⟨b0,⟨b1,b2⟩,⟨b3,b4⟩,⟨b5,b6⟩⟩⟩
      | _ => none
  ok v x h := by
    split at h <;> (try (cases h; done))
    simp only[qsI]at h; subst h; exact⟨fun _ => rfl,rfl⟩
instance : Enc D where
  enc | .off c => .ifc 167 (Enc.enc c)
      | .wide c => .ifc 168 (Enc.enc c)
      | .deep c => .ifc 169 (Enc.enc c)
  dec | .ifc t v => match (Enc.dec v : Option Qs)with
        | some c => if t = 167 then some (.off c)else if t = 168 then some (.wide c)else if t = 169 then some (.deep c)else none
        | none => none
      | _ => none
  ok v x h := by
    split at h <;> (try (cases h; done))
    split at h <;> (try (cases h; done))
    rename_i t v c hc;have h1 := Enc.ok _ c hc;split at h
    · rename_i e; simp only[qsI]at h; subst h e
      exact⟨fun r => by simp only[AV.den]; rw[h1.1 r],h1.2⟩
    · split at h
      · rename_i e; simp only[qsI]at h; subst h e
        exact⟨fun r => by simp only[AV.den]; rw[h1.1 r],h1.2⟩
      · split at h <;> (try (cases h; done))
        rename_i e; simp only[qsI]at h; subst h e;exact⟨fun r => by simp only[AV.den]; rw[h1.1 r],h1.2⟩
theorem w64{n:Int}(h1 : -9223372036854775808≤n)(h2:n≤9223372036854775807):i64.wrap n=n:=IntWalk.i64_in n ⟨h1,h2⟩
def Jb(e:Edge):Prop:=(0≤e.at_.lo∧e.at_.lo≤10000∧0≤e.at_.hi∧e.at_.hi≤10000)∧(0≤e.wide.lo∧e.wide.lo≤3000∧0≤e.wide.hi∧e.wide.hi≤3000)∧(0≤e.deep.lo∧e.deep.lo≤3000∧0≤e.deep.hi∧e.deep.hi≤3000)
def Jc(p:Qg):Prop:=(1≤p.length∧p.length≤10000)∧(0≤p.slack∧p.slack≤500)∧(0≤p.loose∧p.loose≤500)∧(0≤p.damp.lo∧p.damp.lo≤100)∧0≤p.damp.hi∧p.damp.hi≤100
def Qs.B(c:Qs):Prop:=Jc c.p∧Jb c.t∧Jb c.h
instance (e : Edge) : Decidable (Jb e) := by unfold Jb; infer_instance
instance (p : Qg) : Decidable (Jc p) := by unfold Jc; infer_instance
instance (c : Qs) : Decidable c.B := by unfold Qs.B; infer_instance
def D.by_:D→Sp
 | .off c=>Qe c.p c.t c.h
 | .wide c=>Qf c.t c.h
 | .deep c=>Qc c.t c.h
def D.lo:D→Int
 | .off c => -c.p.slack
 | _=>0
def D.hi:D→Int
 | .off c=>c.p.slack
 | .wide c=>c.p.loose
 | .deep c=>c.p.loose
def D.c:D→Qs
 | .off c=>c
 | .wide c=>c
 | .deep c=>c
abbrev mkE(P:Program)(C:Tab):Env:=⟨P,C,Z6 P,false,fun _=>false,false,false,false⟩
theorem QT{C:Tab}(hC:QW C):(mkE Try.prog C).Sound:={ c:=hC,m:=vw Try.prog,mixed:=je }
abbrev mkF(P:Program)(C:Tab):Env:=⟨P,C,Z6 P,false,fun _=>false,false,false,true⟩
theorem ZR{C:Tab}(hC:QW C):(mkF Try.prog C).Sound:={ c:=hC,m:=vw Try.prog,mixed:=je }
abbrev mkS(P:Program)(C:Tab):Env:=⟨P,C,Z6 P,true,fun _=>false,false,false,false⟩
theorem V5{C:Tab}(hC:QW C):(mkS Try.prog C).Sound:={ c:=hC,m:=vw Try.prog,mixed:=je }
def binds(fs:List FuncId):Op→Bool
 | .call ⟨.value (.func f),_,_⟩=>fs.contains f
 | .binOp .mul _ _ _ _=>true
 | _=>false
def Qr(fn:Func):Code:=fn.body.getD .skip
theorem KA{C:Tab}(hC:QW C)(d:Nat){f:FuncId}{fn:Func}(hf:Try.prog.funcs[f]? = some fn)(hb:fn.body=some (Qr fn))(hgo:JH Try.prog f=true){α:Type}[Qm α]{F:α→Bool×AV}(hF:∀ x,(F x).1=true→(Qx (mkE Try.prog C) (hnd (mkE Try.prog C) d) false fn (Qm.enc x) [] 0).den fun u _=>u.same (F x).2):QQ Try.prog f (Q3 (Q2 F)):=
 QCo (QT hC) hf hb hgo (fun G _ hG=>Q0 (QT hC) d G _ hG) hF
def QG0:Sp×Int×Int×Unit→Bool×AV:=fun|(s,(a,(b,_)))=>(true,.bool false (s.isIn a b))
def QMo:FC:=Q3 (Q2 QG0)
theorem QOk(s:Sp)(a:Int)(b:Int):Qx (mkE Try.prog QAN) (hnd (mkE Try.prog QAN) 0) false Try.f82 (Qm.enc ((s,a,b,()):Sp×Int×Int×Unit)) [] 0 =
  QD.br (decide (a≤s.lo)) (QD.br (decide (s.lo≤s.hi)) (QD.leaf (AV.bool false (decide (s.hi≤b))) ([])) (QD.leaf (AV.bool true false) ([]))) (QD.leaf (AV.bool true
  false) ([])):=by kernel_rfl
theorem QUw:QQ Try.prog 82 QMo:=by
 refine KA QLM 0 Try.func82 (by kernel_rfl) (by kernel_rfl) ?_
 rintro⟨s,a,b,⟨⟩⟩ hp;rw[QOk s a b];simp only[QG0,QD.den,AV.same,AV.sameL,and_true,true_and]at hp ⊢
 (repeat' (first|(refine And.intro ?_ ?_)|(intro _)))<;>simp_all [Sp.isIn]<;>omega
def GF:Tab:=Qh QAN 82 QMo
theorem QKK:QW GF:=QLM.add QUw
def QKW:Int×Int×Int×Unit→Bool×AV:=fun|(n,(a,(b,_)))=>(true,.bool false (Qa n a b))
def QFd:FC:=Q3 (Q2 QKW)
theorem QXN(n:Int)(a:Int)(b:Int):Qx (mkE Try.prog GF) (hnd (mkE Try.prog GF) 0) false Try.f81 (Qm.enc ((n,a,b,()):Int×Int×Int×Unit)) [] 0 =
  QD.br (decide (a≤n)) (QD.leaf (AV.bool false (decide (n≤b))) ([])) (QD.leaf (AV.bool true false) ([])):=by kernel_rfl
theorem QUe:QQ Try.prog 81 QFd:=by
 refine KA QKK 0 Try.func81 (by kernel_rfl) (by kernel_rfl) ?_
 rintro⟨n,a,b,⟨⟩⟩ hp;rw[QXN n a b];simp only[QKW,QD.den,AV.same,AV.sameL,and_true,true_and]at hp ⊢
 (repeat' (first|(refine And.intro ?_ ?_)|(intro _)))<;>simp_all [Qa]<;>omega
def QAP:Tab:=Qh GF 81 QFd
theorem QJX:QW QAP:=QKK.add QUe
def QHd:Edge×Unit→Bool×AV:=fun|(a,_)=>(true,.bool false a.ok)
def QEs:FC:=Q3 (Q2 QHd)
theorem QT4(a:Edge):Qx (mkE Try.prog QAP) (hnd (mkE Try.prog QAP) 0) false Try.f85 (Qm.enc ((a,()):Edge×Unit)) [] 0 =
  QD.br (a.kind==(0:Int)) (QD.leaf (AV.bool true true) ([])) (QD.br (a.kind==(1:Int)) (QD.need (true) (QD.br (a.at_.isIn (0:Int) (10000:Int)) (QD.need (true)
  (QD.br (a.wide.isIn (1:Int) (3000:Int)) (QD.need (true) (QD.leaf (AV.bool false (a.deep.isIn (1:Int) (3000:Int))) ([]))) (QD.leaf (AV.bool true false) ([]))))
  (QD.leaf (AV.bool true false) ([])))) (QD.br (a.kind==(2:Int)) (QD.need (true) (QD.br (a.at_.isIn (0:Int) (10000:Int)) (QD.need (true) (QD.br (a.wide.isIn (1 :
  Int) (3000:Int)) (QD.need (true) (QD.leaf (AV.bool false (a.deep.isIn (1:Int) (3000:Int))) ([]))) (QD.leaf (AV.bool true false) ([])))) (QD.leaf (AV.bool true false)
  ([])))) (QD.leaf (AV.bool true false) ([])))):=by kernel_rfl
theorem QRG:QQ Try.prog 85 QEs:=by
 refine KA QJX 0 Try.func85 (by kernel_rfl) (by kernel_rfl) ?_
 rintro⟨a,⟨⟩⟩ hp;rw[QT4 a];simp only[QHd,QD.den,AV.same,AV.sameL,and_true,true_and]at hp ⊢
 (repeat' (first|(refine And.intro ?_ ?_)|(intro _)))<;>simp_all [Edge.ok]
def zx:Tab:=Qh QAP 85 QEs
theorem QLK:QW zx:=QJX.add QRG
def QLH:Qg×Unit→Bool×AV:=fun|(p,_)=>(true,.bool false p.ok)
def QIO:FC:=Q3 (Q2 QLH)
theorem QPv(p:Qg):Qx (mkE Try.prog zx) (hnd (mkE Try.prog zx) 0) false Try.f59 (Qm.enc ((p,()):Qg×Unit)) [] 0 =
  QD.need (true) (QD.br (Qa p.length (1:Int) (10000:Int)) (QD.need (true) (QD.br (Qa p.slack (0:Int) (500:Int)) (QD.need (true) (QD.br (Qa p.loose (0 :
  Int) (500:Int)) (QD.need (true) (QD.leaf (AV.bool false (p.damp.isIn (0:Int) (100:Int))) ([]))) (QD.leaf (AV.bool true false) ([])))) (QD.leaf (AV.bool true false)
  ([])))) (QD.leaf (AV.bool true false) ([]))):=by kernel_rfl
theorem QWX:QQ Try.prog 59 QIO:=by
 refine KA QLK 0 Try.func59 (by kernel_rfl) (by kernel_rfl) ?_
 rintro⟨p,⟨⟩⟩ hp;rw[QPv p];simp only[QLH,QD.den,AV.same,AV.sameL,and_true,true_and]at hp ⊢
 (repeat' (first|(refine And.intro ?_ ?_)|(intro _)))<;>simp_all [Qg.ok]
def zl:Tab:=Qh zx 59 QIO
theorem QLf:QW zl:=QLK.add QWX
def QKq:Sp×Sp×Unit→Bool×AV:=fun|(s,(o,_))=>(decide (Sm s.lo∧Sm s.hi∧Sm o.lo∧Sm o.hi),Enc.enc (s.less o))
def QIn:FC:=Q3 (Q2 QKq)
theorem QW0(s:Sp)(o:Sp):Qx (mkE Try.prog zl) (hnd (mkE Try.prog zl) 0) false Try.f132 (Qm.enc ((s,o,()):Sp×Sp×Unit)) [] 0 =
  QD.leaf (AV.agg [AV.int false i64 (i64.wrap (s.lo-o.hi)),AV.int false i64 (i64.wrap (s.hi-o.lo))]) ([]):=by kernel_rfl
theorem QQi:QQ Try.prog 132 QIn:=by
 refine KA QLf 0 Try.func132 (by kernel_rfl) (by kernel_rfl) ?_
 rintro⟨s,o,⟨⟩⟩ hp;rw[QW0 s o];simp only[QKq,QD.den,AV.same,AV.sameL,and_true,true_and]at hp ⊢;have hp:=qdt hp;unfold Sm at hp;simp only[Sp.less,Enc.enc,AV.same,AV.sameL];rw[w64 (by omega) (by omega),w64 (by omega) (by omega)];simp
def zt:Tab:=Qh zl 132 QIn
theorem QMv:QW zt:=QLf.add QQi
def QFc:Sp×Sp×Unit→Bool×AV:=fun|(s,(o,_))=>(decide (Sm s.lo∧Sm s.hi∧Sm o.lo∧Sm o.hi),Enc.enc (s.plus o))
def QMk:FC:=Q3 (Q2 QFc)
theorem QRY(s:Sp)(o:Sp):Qx (mkE Try.prog zt) (hnd (mkE Try.prog zt) 0) false Try.f129 (Qm.enc ((s,o,()):Sp×Sp×Unit)) [] 0 =
  QD.leaf (AV.agg [AV.int false i64 (i64.wrap (s.lo+o.lo)),AV.int false i64 (i64.wrap (s.hi+o.hi))]) ([]):=by kernel_rfl
theorem QSG:QQ Try.prog 129 QMk:=by
 refine KA QMv 0 Try.func129 (by kernel_rfl) (by kernel_rfl) ?_
 rintro⟨s,o,⟨⟩⟩ hp;rw[QRY s o];simp only[QFc,QD.den,AV.same,AV.sameL,and_true,true_and]at hp ⊢;have hp:=qdt hp;unfold Sm at hp;simp only[Sp.plus,Enc.enc,AV.same,AV.sameL];rw[w64 (by omega) (by omega),w64 (by omega) (by omega)];simp
def HH:Tab:=Qh zt 129 QMk
theorem QHW:QW HH:=QMv.add QSG
def QKR:Qs×Unit→Bool×AV:=fun|(c,_)=>(decide c.B,Enc.enc (Qe c.p c.t c.h))
def QG9:FC:=Q3 (Q2 QKR)
theorem QSs(c:Qs):Qx (mkE Try.prog HH) (hnd (mkE Try.prog HH) 0) false Try.f128 (Qm.enc ((c,()):Qs×Unit)) [] 0 =
  QD.need (decide (Sm c.t.at_.lo∧Sm c.t.at_.hi∧Sm c.h.at_.lo∧Sm c.h.at_.hi)) (QD.need (decide (Sm (c.t.at_.plus c.h.at_).lo∧Sm (c.t.at_.plus c.h.at_).hi∧Sm
  (i64.wrap ((0:Int)-c.p.length))∧Sm (i64.wrap ((0:Int)-c.p.length)))) (QD.leaf (AV.agg [AV.int false i64 ((c.t.at_.plus c.h.at_).plus (Sp.mk
  (i64.wrap ((0:Int)-c.p.length)) (i64.wrap ((0:Int)-c.p.length)))).lo,AV.int false i64 ((c.t.at_.plus c.h.at_).plus (Sp.mk (i64.wrap ((0 :
  Int)-c.p.length)) (i64.wrap ((0:Int)-c.p.length)))).hi]) ([]))):=by kernel_rfl
theorem QRi:QQ Try.prog 128 QG9:=by
 refine KA QHW 0 Try.func128 (by kernel_rfl) (by kernel_rfl) ?_
 rintro⟨c,⟨⟩⟩ hp;rw[QSs c];simp only[QKR,QD.den,AV.same,AV.sameL,and_true,true_and]at hp ⊢;have hp:=qdt hp;obtain⟨h1,h2,h3⟩:=hp;unfold Jc at h1;unfold Jb at h2 h3;have e:i64.wrap (0-c.p.length) = -c.p.length:=by rw[w64 (by omega) (by omega)];omega
 rw[e];refine⟨decide_eq_true (by unfold Sm;omega),decide_eq_true (by unfold Sm Sp.plus;simp only;omega),?_⟩
 simp[Qe,Sp.plus,Enc.enc,AV.same,AV.sameL]
def HR:Tab:=Qh HH 128 QG9
theorem QLu:QW HR:=QHW.add QRi
def QGO:Qs×Unit→Bool×AV:=fun|(c,_)=>(decide c.B,Enc.enc (Qf c.t c.h))
def QGh:FC:=Q3 (Q2 QGO)
theorem QPF(c:Qs):Qx (mkE Try.prog HR) (hnd (mkE Try.prog HR) 0) false Try.f131 (Qm.enc ((c,()):Qs×Unit)) [] 0 =
  QD.need (decide (Sm c.h.wide.lo∧Sm c.h.wide.hi∧Sm c.t.wide.lo∧Sm c.t.wide.hi)) (QD.leaf (AV.agg [AV.int false i64 (c.h.wide.less c.t.wide).lo,AV.int false
  i64 (c.h.wide.less c.t.wide).hi]) ([])):=by kernel_rfl
theorem QTL:QQ Try.prog 131 QGh:=by
 refine KA QLu 0 Try.func131 (by kernel_rfl) (by kernel_rfl) ?_
 rintro⟨c,⟨⟩⟩ hp;rw[QPF c];simp only[QGO,QD.den,AV.same,AV.sameL,and_true,true_and]at hp ⊢;have hp:=qdt hp;obtain⟨h1,h2,h3⟩:=hp;unfold Jc at h1;unfold Jb at h2 h3;refine⟨decide_eq_true (by unfold Sm;omega),?_⟩
 simp[Qf,Sp.less,Enc.enc,AV.same,AV.sameL]
def QAp:Tab:=Qh HR 131 QGh
theorem QLo:QW QAp:=QLu.add QTL
def QL0:Qs×Unit→Bool×AV:=fun|(c,_)=>(decide c.B,Enc.enc (Qc c.t c.h))
def QJG:FC:=Q3 (Q2 QL0)
theorem QRV(c:Qs):Qx (mkE Try.prog QAp) (hnd (mkE Try.prog QAp) 0) false Try.f134 (Qm.enc ((c,()):Qs×Unit)) [] 0 =
  QD.need (decide (Sm c.h.deep.lo∧Sm c.h.deep.hi∧Sm c.t.deep.lo∧Sm c.t.deep.hi)) (QD.leaf (AV.agg [AV.int false i64 (c.h.deep.less c.t.deep).lo,AV.int false
  i64 (c.h.deep.less c.t.deep).hi]) ([])):=by kernel_rfl
theorem QQL:QQ Try.prog 134 QJG:=by
 refine KA QLo 0 Try.func134 (by kernel_rfl) (by kernel_rfl) ?_
 rintro⟨c,⟨⟩⟩ hp;rw[QRV c];simp only[QL0,QD.den,AV.same,AV.sameL,and_true,true_and]at hp ⊢;have hp:=qdt hp;obtain⟨h1,h2,h3⟩:=hp;unfold Jc at h1;unfold Jb at h2 h3;refine⟨decide_eq_true (by unfold Sm;omega),?_⟩
 simp[Qc,Sp.less,Enc.enc,AV.same,AV.sameL]
def Gz:Tab:=Qh QAp 134 QJG
theorem QHU:QW Gz:=QLo.add QQL
def QG3:Qs×Unit→Bool×AV:=fun|(c,_)=>(decide c.B,.tup [.int false .i64 (-c.p.slack),.int false .i64 c.p.slack])
def QJZ:FC:=Q3 (Q2 QG3)
theorem QUG(c:Qs):Qx (mkE Try.prog Gz) (hnd (mkE Try.prog Gz) 0) false Try.f127 (Qm.enc ((c,()):Qs×Unit)) [] 0 =
  QD.leaf (AV.tup [AV.int false i64 (i64.wrap ((0:Int)-c.p.slack)),AV.int false i64 c.p.slack]) ([]):=by kernel_rfl
theorem QOu:QQ Try.prog 127 QJZ:=by
 refine KA QHU 0 Try.func127 (by kernel_rfl) (by kernel_rfl) ?_
 rintro⟨c,⟨⟩⟩ hp;rw[QUG c];simp only[QG3,QD.den,AV.same,AV.sameL,and_true,true_and]at hp ⊢;have hp:=qdt hp;obtain⟨h1,h2,h3⟩:=hp;unfold Jc at h1;rw[w64 (by omega) (by omega)];omega
def G8:Tab:=Qh Gz 127 QJZ
theorem QGA:QW G8:=QHU.add QOu
def QLO:Qs×Unit→Bool×AV:=fun|(c,_)=>(decide c.B,.tup [.int false .i64 0,.int false .i64 c.p.loose])
def QHX:FC:=Q3 (Q2 QLO)
theorem QXQ(c:Qs):Qx (mkE Try.prog G8) (hnd (mkE Try.prog G8) 0) false Try.f130 (Qm.enc ((c,()):Qs×Unit)) [] 0 =
  QD.leaf (AV.tup [AV.int true i64 (0:Int),AV.int false i64 c.p.loose]) ([]):=by kernel_rfl
theorem QPG:QQ Try.prog 130 QHX:=by
 refine KA QGA 0 Try.func130 (by kernel_rfl) (by kernel_rfl) ?_
 rintro⟨c,⟨⟩⟩ hp;rw[QXQ c];simp only[QLO,QD.den,AV.same,AV.sameL,and_true,true_and]at hp ⊢
def HF:Tab:=Qh G8 130 QHX
theorem QMK:QW HF:=QGA.add QPG
def QMr:Qs×Unit→Bool×AV:=fun|(c,_)=>(decide c.B,.tup [.int false .i64 0,.int false .i64 c.p.loose])
def QF5:FC:=Q3 (Q2 QMr)
theorem QNs(c:Qs):Qx (mkE Try.prog HF) (hnd (mkE Try.prog HF) 0) false Try.f133 (Qm.enc ((c,()):Qs×Unit)) [] 0 =
  QD.leaf (AV.tup [AV.int true i64 (0:Int),AV.int false i64 c.p.loose]) ([]):=by kernel_rfl
theorem QTW:QQ Try.prog 133 QF5:=by
 refine KA QMK 0 Try.func133 (by kernel_rfl) (by kernel_rfl) ?_
 rintro⟨c,⟨⟩⟩ hp;rw[QNs c];simp only[QMr,QD.den,AV.same,AV.sameL,and_true,true_and]at hp ⊢
def ZV:Tab:=Qh HF 133 QF5
theorem QFn:QW ZV:=QMK.add QTW
variable {sl sh hi:Int}
theorem zS{lo dh:Int}(h1 : -100000≤sl∧sl≤100000)(h2 : -100000≤sh∧sh≤100000)(h3 : -500≤lo∧lo≤500)(h4 : -500≤hi∧hi≤500)(h5:0≤dh∧dh≤100):
  (decide (i64.wrap (sl*i64.wrap (1000+dh))≥i64.wrap (1000*lo))=true→decide (i64.wrap (sh*i64.wrap (1000+dh))≤i64.wrap (1000*hi))=KN sl sh lo hi dh) ∧
  (decide (i64.wrap (sl*i64.wrap (1000+dh))≥i64.wrap (1000*lo))=false→false=KN sl sh lo hi dh):=by
 obtain⟨m1,m2⟩:=QBW (a:=sl) (m:=1000+dh) (by omega) (by omega) (by omega) (by omega)
 obtain⟨m3,m4⟩:=QBW (a:=sh) (m:=1000+dh) (by omega) (by omega) (by omega) (by omega)
 rw[w64 (n:=1000+dh) (by omega) (by omega),w64 (n:=sl*_) (by omega) (by omega),w64 (n:=sh*_) (by omega) (by omega),w64 (n:=1000*lo) (by omega) (by omega),w64 (n:=1000*hi) (by omega) (by omega)]
 exact⟨fun h=>QQ5 (qdt h),fun h=>QVT (by have:=of_decide_eq_false h;omega)⟩
theorem QAR{lo dl:Int}(h1 : -100000≤sl∧sl≤100000)(h2 : -100000≤sh∧sh≤100000)(h3 : -500≤lo∧lo≤500)(h4 : -500≤hi∧hi≤500)(h5:0≤dl∧dl≤100):
  (decide (i64.wrap (1000*lo)≤i64.wrap (min (max 0 sl) sh*i64.wrap (1000+dl)))=true→decide (i64.wrap (min (max 0 sl) sh*i64.wrap (1000+dl))≤i64.wrap (1000*hi))=Ql sl sh lo hi dl) ∧
  (decide (i64.wrap (1000*lo)≤i64.wrap (min (max 0 sl) sh*i64.wrap (1000+dl)))=false→false=Ql sl sh lo hi dl):=by
 obtain⟨m1,m2⟩:=QBW (a:=min (max 0 sl) sh) (m:=1000+dl) (by omega) (by omega) (by omega) (by omega)
 rw[w64 (n:=1000+dl) (by omega) (by omega),w64 (n:=min (max 0 sl) sh*_) (by omega) (by omega),w64 (n:=1000*lo) (by omega) (by omega),w64 (n:=1000*hi) (by omega) (by omega)]
 exact⟨fun h=>QQo (qdt h),fun h=>QWn (by have:=of_decide_eq_false h;omega)⟩
theorem QKw:i64.wrap (1000*0)=0:=by decide
theorem QC7{dh:Int}(h1 : -100000≤sl∧sl≤100000)(h2 : -100000≤sh∧sh≤100000)(h4 : -500≤hi∧hi≤500)(h5:0≤dh∧dh≤100):
  (decide (i64.wrap (sl*i64.wrap (1000+dh))≥0)=true→decide (i64.wrap (sh*i64.wrap (1000+dh))≤i64.wrap (1000*hi))=KN sl sh 0 hi dh) ∧
  (decide (i64.wrap (sl*i64.wrap (1000+dh))≥0)=false→false=KN sl sh 0 hi dh):=by
 have:=zS (lo:=0) h1 h2 (by omega) h4 h5
 rw[QKw]at this;exact this
theorem QD8{dl:Int}(h1 : -100000≤sl∧sl≤100000)(h2 : -100000≤sh∧sh≤100000)(h4 : -500≤hi∧hi≤500)(h5:0≤dl∧dl≤100):
  (decide (0≤i64.wrap (min (max 0 sl) sh*i64.wrap (1000+dl)))=true→decide (i64.wrap (min (max 0 sl) sh*i64.wrap (1000+dl))≤i64.wrap (1000*hi))=Ql sl sh 0 hi dl) ∧
  (decide (0≤i64.wrap (min (max 0 sl) sh*i64.wrap (1000+dl)))=false→false=Ql sl sh 0 hi dl):=by
 have:=QAR (lo:=0) h1 h2 (by omega) h4 h5
 rw[QKw]at this;exact this
def QAg:Qs×D×Unit→Bool×AV:=fun|(x,(d,_))=>(decide (x.B∧d.c.B),.bool false (KN d.by_.lo d.by_.hi d.lo d.hi x.p.damp.hi))
def QLb:FC:=Q3 (Q2 QAg)
theorem QOs(x:Qs)(c:Qs):Qx (mkE Try.prog ZV) (hnd (mkE Try.prog ZV) 0) false Try.f97 (Qm.enc ((x,(D.off c),()):Qs×D×Unit)) [] 0 =
  QD.need (decide c.B) (QD.need (decide c.B) (QD.br (decide (i64.wrap ((Qe c.p c.t c.h).lo*i64.wrap ((1000:Int)+x.p.damp.hi))≥i64.wrap ((1000
  : Int) * -c.p.slack))) (QD.leaf (AV.bool false (decide (i64.wrap ((Qe c.p c.t c.h).hi*i64.wrap ((1000:Int)+x.p.damp.hi))≤i64.wrap ((1000:Int)
  * c.p.slack)))) ([])) (QD.leaf (AV.bool true false) ([])))):=by kernel_rfl
theorem QRL(x:Qs)(c:Qs):Qx (mkE Try.prog ZV) (hnd (mkE Try.prog ZV) 0) false Try.f97 (Qm.enc ((x,(D.wide c),()):Qs×D×Unit)) [] 0 =
  QD.need (decide c.B) (QD.need (decide c.B) (QD.br (decide (i64.wrap ((Qf c.t c.h).lo*i64.wrap ((1000:Int)+x.p.damp.hi))≥(0:Int))) (QD.leaf
  (AV.bool false (decide (i64.wrap ((Qf c.t c.h).hi*i64.wrap ((1000:Int)+x.p.damp.hi))≤i64.wrap ((1000:Int)*c.p.loose)))) ([])) (QD.leaf
  (AV.bool true false) ([])))):=by kernel_rfl
theorem QRT(x:Qs)(c:Qs):Qx (mkE Try.prog ZV) (hnd (mkE Try.prog ZV) 0) false Try.f97 (Qm.enc ((x,(D.deep c),()):Qs×D×Unit)) [] 0 =
  QD.need (decide c.B) (QD.need (decide c.B) (QD.br (decide (i64.wrap ((Qc c.t c.h).lo*i64.wrap ((1000:Int)+x.p.damp.hi))≥(0:Int))) (QD.leaf
  (AV.bool false (decide (i64.wrap ((Qc c.t c.h).hi*i64.wrap ((1000:Int)+x.p.damp.hi))≤i64.wrap ((1000:Int)*c.p.loose)))) ([])) (QD.leaf
  (AV.bool true false) ([])))):=by kernel_rfl
theorem QUS:QQ Try.prog 97 QLb:=by
 refine KA QFn 0 Try.func97 (by kernel_rfl) (by kernel_rfl) ?_
 rintro⟨x,(c|c|c),⟨⟩⟩ hp
 ·rw[QOs x c];simp only[QAg,QD.den,AV.same,AV.sameL,and_true,true_and]at hp ⊢;have hq:=qdt hp;obtain⟨⟨hx,_⟩,hc⟩:=hq;refine⟨decide_eq_true hc,decide_eq_true hc,?_⟩;obtain⟨h1,h2,h3⟩:=hc;unfold Jc at h1 hx;unfold Jb at h2 h3;simp only[D.c]at h1 h2 h3
  first
   | (refine zS ?_ ?_ ?_ ?_ ?_<;>(try simp only[Qe,Qf,Qc])<;>omega)
   | (refine QC7 ?_ ?_ ?_ ?_<;>(try simp only[Qe,Qf,Qc])<;>omega)
 ·rw[QRL x c];simp only[QAg,QD.den,AV.same,AV.sameL,and_true,true_and]at hp ⊢;have hq:=qdt hp;obtain⟨⟨hx,_⟩,hc⟩:=hq;refine⟨decide_eq_true hc,decide_eq_true hc,?_⟩;obtain⟨h1,h2,h3⟩:=hc;unfold Jc at h1 hx;unfold Jb at h2 h3;simp only[D.c]at h1 h2 h3
  first
   | (refine zS ?_ ?_ ?_ ?_ ?_<;>(try simp only[Qe,Qf,Qc])<;>omega)
   | (refine QC7 ?_ ?_ ?_ ?_<;>(try simp only[Qe,Qf,Qc])<;>omega)
 ·rw[QRT x c];simp only[QAg,QD.den,AV.same,AV.sameL,and_true,true_and]at hp ⊢;have hq:=qdt hp;obtain⟨⟨hx,_⟩,hc⟩:=hq;refine⟨decide_eq_true hc,decide_eq_true hc,?_⟩;obtain⟨h1,h2,h3⟩:=hc;unfold Jc at h1 hx;unfold Jb at h2 h3;simp only[D.c]at h1 h2 h3
  first
   | (refine zS ?_ ?_ ?_ ?_ ?_<;>(try simp only[Qe,Qf,Qc])<;>omega)
   | (refine QC7 ?_ ?_ ?_ ?_<;>(try simp only[Qe,Qf,Qc])<;>omega)
def ZJ:Tab:=Qh ZV 97 QLb
theorem QKP:QW ZJ:=QFn.add QUS
def Gw:Qs×D×Unit→Bool×AV:=fun|(x,(d,_))=>(decide (x.B∧d.c.B),.bool false (Ql d.by_.lo d.by_.hi d.lo d.hi x.p.damp.lo))
def QEt:FC:=Q3 (Q2 Gw)
theorem QSb(x:Qs)(c:Qs):Qx (mkE Try.prog ZJ) (hnd (mkE Try.prog ZJ) 0) false Try.f98 (Qm.enc ((x,(D.off c),()):Qs×D×Unit)) [] 0 =
  QD.need (decide c.B) (QD.need (decide c.B) (QD.br (decide (i64.wrap ((1000:Int) * -c.p.slack)≤i64.wrap (min (max (0:Int) (Qe c.p c.t c.h).lo) (Qe
  c.p c.t c.h).hi*i64.wrap ((1000:Int)+x.p.damp.lo)))) (QD.leaf (AV.bool false (decide (i64.wrap (min (max (0:Int) (Qe c.p c.t c.h).lo) (Qe c.p c.t
  c.h).hi*i64.wrap ((1000:Int)+x.p.damp.lo))≤i64.wrap ((1000:Int)*c.p.slack)))) ([])) (QD.leaf (AV.bool true false) ([])))):=by kernel_rfl
theorem QR5(x:Qs)(c:Qs):Qx (mkE Try.prog ZJ) (hnd (mkE Try.prog ZJ) 0) false Try.f98 (Qm.enc ((x,(D.wide c),()):Qs×D×Unit)) [] 0 =
  QD.need (decide c.B) (QD.need (decide c.B) (QD.br (decide ((0:Int)≤i64.wrap (min (max (0:Int) (Qf c.t c.h).lo) (Qf c.t c.h).hi*i64.wrap ((1000
  : Int)+x.p.damp.lo)))) (QD.leaf (AV.bool false (decide (i64.wrap (min (max (0:Int) (Qf c.t c.h).lo) (Qf c.t c.h).hi*i64.wrap ((1000:Int) +
  x.p.damp.lo))≤i64.wrap ((1000:Int)*c.p.loose)))) ([])) (QD.leaf (AV.bool true false) ([])))):=by kernel_rfl
theorem QWE(x:Qs)(c:Qs):Qx (mkE Try.prog ZJ) (hnd (mkE Try.prog ZJ) 0) false Try.f98 (Qm.enc ((x,(D.deep c),()):Qs×D×Unit)) [] 0 =
  QD.need (decide c.B) (QD.need (decide c.B) (QD.br (decide ((0:Int)≤i64.wrap (min (max (0:Int) (Qc c.t c.h).lo) (Qc c.t c.h).hi*i64.wrap ((1000
  : Int)+x.p.damp.lo)))) (QD.leaf (AV.bool false (decide (i64.wrap (min (max (0:Int) (Qc c.t c.h).lo) (Qc c.t c.h).hi*i64.wrap ((1000:Int) +
  x.p.damp.lo))≤i64.wrap ((1000:Int)*c.p.loose)))) ([])) (QD.leaf (AV.bool true false) ([])))):=by kernel_rfl
theorem QW5:QQ Try.prog 98 QEt:=by
 refine KA QKP 0 Try.func98 (by kernel_rfl) (by kernel_rfl) ?_
 rintro⟨x,(c|c|c),⟨⟩⟩ hp
 ·rw[QSb x c];simp only[Gw,QD.den,AV.same,AV.sameL,and_true,true_and]at hp ⊢;have hq:=qdt hp;obtain⟨⟨hx,_⟩,hc⟩:=hq;refine⟨decide_eq_true hc,decide_eq_true hc,?_⟩;obtain⟨h1,h2,h3⟩:=hc;unfold Jc at h1 hx;unfold Jb at h2 h3;simp only[D.c]at h1 h2 h3
  first
   | (refine QAR ?_ ?_ ?_ ?_ ?_<;>(try simp only[Qe,Qf,Qc])<;>omega)
   | (refine QD8 ?_ ?_ ?_ ?_<;>(try simp only[Qe,Qf,Qc])<;>omega)
 ·rw[QR5 x c];simp only[Gw,QD.den,AV.same,AV.sameL,and_true,true_and]at hp ⊢;have hq:=qdt hp;obtain⟨⟨hx,_⟩,hc⟩:=hq;refine⟨decide_eq_true hc,decide_eq_true hc,?_⟩;obtain⟨h1,h2,h3⟩:=hc;unfold Jc at h1 hx;unfold Jb at h2 h3;simp only[D.c]at h1 h2 h3
  first
   | (refine QAR ?_ ?_ ?_ ?_ ?_<;>(try simp only[Qe,Qf,Qc])<;>omega)
   | (refine QD8 ?_ ?_ ?_ ?_<;>(try simp only[Qe,Qf,Qc])<;>omega)
 ·rw[QWE x c];simp only[Gw,QD.den,AV.same,AV.sameL,and_true,true_and]at hp ⊢;have hq:=qdt hp;obtain⟨⟨hx,_⟩,hc⟩:=hq;refine⟨decide_eq_true hc,decide_eq_true hc,?_⟩;obtain⟨h1,h2,h3⟩:=hc;unfold Jc at h1 hx;unfold Jb at h2 h3;simp only[D.c]at h1 h2 h3
  first
   | (refine QAR ?_ ?_ ?_ ?_ ?_<;>(try simp only[Qe,Qf,Qc])<;>omega)
   | (refine QD8 ?_ ?_ ?_ ?_<;>(try simp only[Qe,Qf,Qc])<;>omega)
def HP:Tab:=Qh ZJ 98 QEt
theorem QFp:QW HP:=QKP.add QW5
def QHN:Qs×Unit→Bool×AV:=fun|(x,_)=>(decide x.B,.int false .i64 (XQ x.p x.t x.h))
def QKo:FC:=Q3 (Q2 QHN)
theorem QQl(x:Qs):Qx (mkE Try.prog HP) (hnd (mkE Try.prog HP) 14) false Try.f87 (Qm.enc ((x,()):Qs×Unit)) [] 0 = .need (decide (x.B∧(D.off x).c.B)) (.br (!KN
  (D.off x).by_.lo (D.off x).by_.hi (D.off x).lo (D.off x).hi x.p.damp.hi) (.need (decide (x.B∧(D.off x).c.B)) (.br (!Ql (D.off x).by_.lo (D.off x).by_.hi (D.off x).lo (D.off
  x).hi x.p.damp.lo) (.leaf (.int true .i64 0) ([])) (.need (decide (x.B∧(D.wide x).c.B)) (.br (!Ql (D.wide x).by_.lo (D.wide x).by_.hi (D.wide x).lo (D.wide x).hi
  x.p.damp.lo) (.leaf (.int true .i64 0) ([])) (.need (decide (x.B∧(D.deep x).c.B)) (.br (!Ql (D.deep x).by_.lo (D.deep x).by_.hi (D.deep x).lo (D.deep x).hi x.p.damp.lo)
  (.leaf (.int true .i64 0) ([])) (.leaf (.int true .i64 1) ([])))))))) (.need (decide (x.B∧(D.wide x).c.B)) (.br (!KN (D.wide x).by_.lo (D.wide x).by_.hi (D.wide x).lo (D.wide
  x).hi x.p.damp.hi) (.need (decide (x.B∧(D.off x).c.B)) (.br (!Ql (D.off x).by_.lo (D.off x).by_.hi (D.off x).lo (D.off x).hi x.p.damp.lo) (.leaf (.int true .i64 0) ([]))
  (.need (decide (x.B∧(D.wide x).c.B)) (.br (!Ql (D.wide x).by_.lo (D.wide x).by_.hi (D.wide x).lo (D.wide x).hi x.p.damp.lo) (.leaf (.int true .i64 0) ([])) (.need (decide
  (x.B∧(D.deep x).c.B)) (.br (!Ql (D.deep x).by_.lo (D.deep x).by_.hi (D.deep x).lo (D.deep x).hi x.p.damp.lo) (.leaf (.int true .i64 0) ([])) (.leaf (.int true .i64 1)
  ([])))))))) (.need (decide (x.B∧(D.deep x).c.B)) (.br (!KN (D.deep x).by_.lo (D.deep x).by_.hi (D.deep x).lo (D.deep x).hi x.p.damp.hi) (.need (decide (x.B∧(D.off x).c.B))
  (.br (!Ql (D.off x).by_.lo (D.off x).by_.hi (D.off x).lo (D.off x).hi x.p.damp.lo) (.leaf (.int true .i64 0) ([])) (.need (decide (x.B∧(D.wide x).c.B)) (.br (!Ql
  (D.wide x).by_.lo (D.wide x).by_.hi (D.wide x).lo (D.wide x).hi x.p.damp.lo) (.leaf (.int true .i64 0) ([])) (.need (decide (x.B∧(D.deep x).c.B)) (.br (!Ql (D.deep x).by_.lo
  (D.deep x).by_.hi (D.deep x).lo (D.deep x).hi x.p.damp.lo) (.leaf (.int true .i64 0) ([])) (.leaf (.int true .i64 1) ([])))))))) (.leaf (.int true .i64 2) ([]))))))):=by kernel_rfl
theorem QVq:QQ Try.prog 87 QKo:=by
 refine KA QFp 14 Try.func87 (by kernel_rfl) (by kernel_rfl) ?_
 rintro⟨x,⟨⟩⟩ hp;rw[QQl x];simp only[QHN,QD.den,AV.same,AV.sameL,and_true,true_and]at hp ⊢;have hB:=qdt hp;have d1:decide (x.B∧(D.off x).c.B)=true:=decide_eq_true ⟨hB,hB⟩;have d2:decide (x.B∧(D.wide x).c.B)=true:=decide_eq_true ⟨hB,hB⟩;have d3:decide (x.B∧(D.deep x).c.B)=true:=decide_eq_true ⟨hB,hB⟩;have a0:KN (D.off x).by_.lo (D.off x).by_.hi (D.off x).lo (D.off x).hi x.p.damp.hi=alw x.p x.t x.h 0:=rfl;have a1:KN (D.wide x).by_.lo (D.wide x).by_.hi (D.wide x).lo (D.wide x).hi x.p.damp.hi=alw x.p x.t x.h 1:=rfl
 have a2:KN (D.deep x).by_.lo (D.deep x).by_.hi (D.deep x).lo (D.deep x).hi x.p.damp.hi=alw x.p x.t x.h 2:=rfl;have b0:Ql (D.off x).by_.lo (D.off x).by_.hi (D.off x).lo (D.off x).hi x.p.damp.lo=may x.p x.t x.h 0:=rfl;have b1:Ql (D.wide x).by_.lo (D.wide x).by_.hi (D.wide x).lo (D.wide x).hi x.p.damp.lo=may x.p x.t x.h 1:=rfl;have b2:Ql (D.deep x).by_.lo (D.deep x).by_.hi (D.deep x).lo (D.deep x).hi x.p.damp.lo=may x.p x.t x.h 2:=rfl;simp only[d1,d2,d3,a0,a1,a2,b0,b1,b2,HO,true_and]
 cases alw x.p x.t x.h 0<;>cases alw x.p x.t x.h 1<;>cases alw x.p x.t x.h 2<;>cases may x.p x.t x.h 0<;>cases may x.p x.t x.h 1<;>cases may x.p x.t x.h 2<;>simp
def H2:Tab:=Qh HP 87 QKo
theorem QI1:QW H2:=QFp.add QVq
theorem QU0{p:Qg}(h:p.ok=true):Jc p:=by rw[Qg.ok_iff]at h;unfold Jc;omega
theorem QLS{e:Edge}(h:e.ok=true)(hk:e.kind=1∨e.kind=2):Jb e:=by rw[Edge.ok_iff]at h;unfold Jb;omega
def okP(p:Qg)(a b:Edge):Bool:=p.ok&&(a.ok&&b.ok)
instance : Enc Gap where
  enc x := .agg [.int false .i64 x.off.lo,.int false .i64 x.off.hi,.int false .i64 x.wide.lo,.int false .i64 x.wide.hi,.int false .i64 x.deep.lo,.int false .i64 x.deep.hi]
  dec | .agg [.int _ .i64 a0,.int _ .i64 a1,.int _ .i64 a2,.int _ .i64 a3,.int _ .i64 a4,.int _ .i64 a5] => some ⟨⟨a0,a1⟩,⟨a2,a3⟩,⟨a4,a5⟩⟩ | _ => none
  ok v x h := by
    split at h <;> (try (cases h; done))
    simp only[qsI]at h; subst h; exact⟨fun _ => rfl,rfl⟩
theorem QCi{p:Qg}{a b:Edge}(h1:p.ok=true)(h2:a.ok=true)(h3:b.ok=true)(ha:a.kind=1)(hb:b.kind=2):Qs.B ⟨p,a,b⟩:=⟨QU0 h1,QLS h2 (.inl ha),QLS h3 (.inr hb)⟩
def Edge.zero:Edge:=⟨0,⟨0,0⟩,⟨0,0⟩,⟨0,0⟩⟩
def QK8(s:Edge)(w:Sp)(n:Int):Prop:=Jb s∧(0≤w.lo∧w.lo≤100∧0≤w.hi∧w.hi≤100)∧0≤n∧n≤20000
instance (s : Edge) (w : Sp) (n : Int) : Decidable (QK8 s w n) := by unfold QK8; infer_instance
def QGc:Qg×Edge×Edge×Unit→Bool×AV:=fun|(p,(a,(b,_)))=>(okP p a b,.int false .i64 (Vx p a b))
def QKQ:FC:=Q3 (Q2 QGc)
theorem QWV(p:Qg)(a:Edge)(b:Edge):Qx (mkE Try.prog H2) (hnd (mkE Try.prog H2) 4) false Try.f61 (Qm.enc ((p,a,b,()):Qg×Edge×Edge×Unit)) [] 0 =
  QD.br (a.kind==(2:Int)) (QD.br (b.kind==(1:Int)) (QD.br (a.kind==(2:Int)) (QD.need (decide (Qs.mk p b a).B) (QD.leaf (AV.int false i64 (XQ p b
  a)) ([]))) (QD.leaf (AV.int true i64 (0:Int)) ([]))) (QD.leaf (AV.int true i64 (0:Int)) ([]))) (QD.br (a.kind==(1:Int)) (QD.br (b.kind==(2:Int))
  (QD.need (decide (Qs.mk p a b).B) (QD.leaf (AV.int false i64 (XQ p a b)) ([]))) (QD.leaf (AV.int true i64 (0:Int)) ([]))) (QD.leaf (AV.int true
  i64 (0:Int)) ([]))):=by kernel_rfl
theorem QSi:QQ Try.prog 61 QKQ:=by
 refine KA QI1 4 Try.func61 (by kernel_rfl) (by kernel_rfl) ?_
 rintro⟨p,a,b,⟨⟩⟩ hp;rw[QWV p a b];simp only[QGc,QD.den,AV.same,AV.sameL,and_true,true_and]at hp ⊢;unfold okP at hp;simp only[qbA]at hp;obtain⟨h1,h2,h3⟩:=hp;unfold Vx;simp only[beq_iff_eq,beq_eq_false_iff_ne];refine⟨fun ha=>⟨fun hb => ?_,fun hb=>by rw[if_pos ha,if_neg hb]⟩,fun ha=>⟨fun ha1 => ?_,fun ha1=>by rw[if_neg ha,if_neg (fun h=>ha1 h.1)]⟩⟩
 ·refine⟨fun _=>⟨decide_eq_true (QCi h1 h3 h2 hb ha),by rw[if_pos ha,if_pos hb]⟩,fun h=>absurd ha h⟩
 ·refine⟨fun hb=>⟨decide_eq_true (QCi h1 h2 h3 ha1 hb),by rw[if_neg ha,if_pos ⟨ha1,hb⟩]⟩,fun hb=>by rw[if_neg ha,if_neg (fun h=>hb h.2)]⟩
def Hu:Tab:=Qh H2 61 QKQ
theorem QHO:QW Hu:=QI1.add QSi
def QIz:Qg×Edge×Edge×Unit→Bool×AV:=fun|(p,(a,(b,_)))=>(true,.tup [.int false .i64 (Q8 p a b).1,.int false .i64 (Q8 p a b).2])
def QIX:FC:=Q3 (Q2 QIz)
theorem QTy(p:Qg)(a:Edge)(b:Edge):Qx (mkE Try.prog Hu) (hnd (mkE Try.prog Hu) 14) false Try.f32 (Qm.enc ((p,a,b,()):Qg×Edge×Edge×Unit)) [] 0 =
  QD.need (true) (QD.br (!p.ok) (QD.leaf (AV.tup [AV.int true i64 (0:Int),AV.int true i64 (1:Int)]) ([])) (QD.need (true) (QD.br (!a.ok) (QD.leaf
  (AV.tup [AV.int true i64 (0:Int),AV.int true i64 (1:Int)]) ([])) (QD.need (true) (QD.br (!b.ok) (QD.leaf (AV.tup [AV.int true i64 (0:Int),
  AV.int true i64 (1:Int)]) ([])) (QD.need (okP p a b) (QD.leaf (AV.tup [AV.int false i64 (Vx p a b),AV.int true i64 (0:Int)]) ([])))))))):=by kernel_rfl
theorem QSV:QQ Try.prog 32 QIX:=by
 refine KA QHO 14 Try.func32 (by kernel_rfl) (by kernel_rfl) ?_
 rintro⟨p,a,b,⟨⟩⟩ hp;rw[QTy p a b];simp only[QIz,QD.den,AV.same,AV.sameL,and_true,true_and]at hp ⊢;unfold Q8 okP;cases p.ok<;>cases a.ok<;>cases b.ok<;>simp
def GO:Tab:=Qh Hu 32 QIX
theorem QHb:QW GO:=QHO.add QSV
end Go.Proofs.Ytbpffdkemeoajaa
