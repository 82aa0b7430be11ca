/- - -/
import Derived.Test.YtbpffdkemeoajaaProg
import Derived.Test.YtbpffdkemeoajaaMam
import Derived.Test.YtbpffdkemeoajaaMan
import Derived.KernelRfl
open Go.IntKind (i64)
set_option maxRecDepth 100000
namespace Go.Proofs.Ytbpffdkemeoajaa
open Go.SX
theorem ju:Try.prog.follows .mixedOrders=true:=by kernel_rfl
abbrev Tab:=FuncId→Option FC
def QBl:Tab:=fun _=>none
def Qe(C:Tab)(f:FuncId)(fc:FC):Tab:=fun g=>match g==f with
 | true=>some fc
 | false=>C g
def Qc(C:Tab):Prop:=∀ f fc,C f=some fc→QQ Try.prog f fc
theorem Qc.add{C:Tab}(h:Qc C){f:FuncId}{fc:FC}(hf:QQ Try.prog f fc):Qc (Qe C f fc):=by
 intro g fc' e;unfold Qe at e;split at e
 ·rename_i hg;simp only[qsI]at e;subst e;have:g=f:=by simpa using hg
  subst this;exact hf
 ·exact h g fc' e
theorem QP1:Qc QBl:=fun _ _ h=>by cases h
instance : Enc Sp where
  enc x := .agg [.int false .i64 x.lo,.int false .i64 x.hi]
  dec | .agg [.int _ .i64 a0,.int _ .i64 a1] => some ⟨a0,a1⟩ | _ => none
  ok v x h := by
    split at h <;> (try (cases h; done))
    simp only[qsI]at h; subst h; exact⟨fun _ => rfl,rfl⟩
instance : Enc Edge where
  enc x := .agg [.int false .i64 x.kind,.int false .i64 x.at_.lo,.int false .i64 x.at_.hi,.int false .i64 x.wide.lo,.int false .i64 x.wide.hi,.int false .i64 x.deep.lo,.int false .i64 x.deep.hi]
  dec | .agg [.int _ .i64 a0,.int _ .i64 a1,.int _ .i64 a2,.int _ .i64 a3,.int _ .i64 a4,.int _ .i64 a5,.int _ .i64 a6] => some ⟨a0,⟨a1,a2⟩,⟨a3,a4⟩,⟨a5,a6⟩⟩ | _ => none
  ok v x h := by
    split at h <;> (try (cases h; done))
    simp only[qsI]at h; subst h; exact⟨fun _ => rfl,rfl⟩
instance : Enc Qm where
  enc x := .agg [.int false .i64 x.length,.int false .i64 x.slack,.int false .i64 x.loose,.int false .i64 x.damp.lo,.int false .i64 x.damp.hi]
  dec | .agg [.int _ .i64 a0,.int _ .i64 a1,.int _ .i64 a2,.int _ .i64 a3,.int _ .i64 a4] => some ⟨a0,a1,a2,⟨a3,a4⟩⟩ | _ => none
  ok v x h := by
    split at h <;> (try (cases h; done))
    simp only[qsI]at h; subst h; exact⟨fun _ => rfl,rfl⟩
structure Q5 where
 p:Qm
 t:Edge
 h:Edge
inductive D where
 | off (c:Q5)
 | wide (c:Q5)
 | deep (c:Q5)
instance : Enc Q5 where
  enc x := .agg [.int false .i64 x.p.length,.int false .i64 x.p.slack,.int false .i64 x.p.loose,.int false .i64 x.p.damp.lo,.int false .i64 x.p.damp.hi,
    .int false .i64 x.t.kind,.int false .i64 x.t.at_.lo,.int false .i64 x.t.at_.hi,.int false .i64 x.t.wide.lo,.int false .i64 x.t.wide.hi,.int false .i64 x.t.deep.lo,.int false .i64 x.t.deep.hi,
    .int false .i64 x.h.kind,.int false .i64 x.h.at_.lo,.int false .i64 x.h.at_.hi,.int false .i64 x.h.wide.lo,.int false .i64 x.h.wide.hi,.int false .i64 x.h.deep.lo,.int false .i64 x.h.deep.hi]
  dec | .agg [.int _ .i64 p0,.int _ .i64 p1,.int _ .i64 p2,.int _ .i64 p3,.int _ .i64 p4,
      .int _ .i64 a0,.int _ .i64 a1,.int _ .i64 a2,.int _ .i64 a3,.int _ .i64 a4,.int _ .i64 a5,.int _ .i64 a6,
      .int _ .i64 b0,.int _ .i64 b1,.int _ .i64 b2,.int _ .i64 b3,.int _ .i64 b4,.int _ .i64 b5,.int _ .i64 b6] =>
        some ⟨⟨p0,p1,p2,⟨p3,p4⟩⟩,⟨a0,⟨a1,a2⟩,⟨a3,a4⟩,⟨a5,a6⟩⟩,⟨b0,⟨b1,b2⟩,⟨b3,b4⟩,⟨b5,b6⟩⟩⟩
      | _ => none
  ok v x h := by
    split at h <;> (try (cases h; done))
    simp only[qsI]at h; subst h; exact⟨fun _ => rfl,rfl⟩
instance : Enc D where
  enc | .off c => .ifc 167 (Enc.enc c)
      | .wide c => .ifc 168 (Enc.enc c)
      | .deep c => .ifc 169 (Enc.enc c)
  dec | .ifc t v => match (Enc.dec v : Option Q5)with
        | some c => if t = 167 then some (.off c)else if t = 168 then some (.wide c)else if t = 169 then some (.deep c)else none
        | none => none
      | _ => none
  ok v x h := by
    split at h <;> (try (cases h; done))
    split at h <;> (try (cases h; done))
    rename_i t v c hc;have h1 := Enc.ok _ c hc;split at h
    · rename_i e; simp only[qsI]at h; subst h e
      exact⟨fun r => by simp only[AV.den]; rw[h1.1 r],h1.2⟩
    · split at h
      · rename_i e; simp only[qsI]at h; subst h e
        exact⟨fun r => by simp only[AV.den]; rw[h1.1 r],h1.2⟩
      · split at h <;> (try (cases h; done))
        rename_i e; simp only[qsI]at h; subst h e;exact⟨fun r => by simp only[AV.den]; rw[h1.1 r],h1.2⟩
theorem w64{n:Int}(h1 : -9223372036854775808≤n)(h2:n≤9223372036854775807):i64.wrap n=n:=IntWalk.i64_in n ⟨h1,h2⟩
def VJ(e:Edge):Prop:=(0≤e.at_.lo∧e.at_.lo≤10000∧0≤e.at_.hi∧e.at_.hi≤10000)∧(0≤e.wide.lo∧e.wide.lo≤3000∧0≤e.wide.hi∧e.wide.hi≤3000)∧(0≤e.deep.lo∧e.deep.lo≤3000∧0≤e.deep.hi∧e.deep.hi≤3000)
def VN(p:Qm):Prop:=(1≤p.length∧p.length≤10000)∧(0≤p.slack∧p.slack≤500)∧(0≤p.loose∧p.loose≤500)∧(0≤p.damp.lo∧p.damp.lo≤100)∧0≤p.damp.hi∧p.damp.hi≤100
def Q5.B(c:Q5):Prop:=VN c.p∧VJ c.t∧VJ c.h
instance (e : Edge) : Decidable (VJ e) := by unfold VJ; infer_instance
instance (p : Qm) : Decidable (VN p) := by unfold VN; infer_instance
instance (c : Q5) : Decidable c.B := by unfold Q5.B; infer_instance
def D.by_:D→Sp
 | .off c=>Qj c.p c.t c.h
 | .wide c=>Qi c.t c.h
 | .deep c=>Qk c.t c.h
def D.lo:D→Int
 | .off c => -c.p.slack
 | _=>0
def D.hi:D→Int
 | .off c=>c.p.slack
 | .wide c=>c.p.loose
 | .deep c=>c.p.loose
def D.c:D→Q5
 | .off c=>c
 | .wide c=>c
 | .deep c=>c
abbrev mkE(P:Program)(C:Tab):Env:=⟨P,C,qE P,false,fun _=>false,false,false,false⟩
theorem QT{C:Tab}(hC:Qc C):(mkE Try.prog C).Sound:={ c:=hC,m:=vu Try.prog,mixed:=ju }
abbrev mkF(P:Program)(C:Tab):Env:=⟨P,C,qE P,false,fun _=>false,false,false,true⟩
theorem vD{C:Tab}(hC:Qc C):(mkF Try.prog C).Sound:={ c:=hC,m:=vu Try.prog,mixed:=ju }
abbrev mkS(P:Program)(C:Tab):Env:=⟨P,C,qE P,true,fun _=>false,false,false,false⟩
theorem XK{C:Tab}(hC:Qc C):(mkS Try.prog C).Sound:={ c:=hC,m:=vu Try.prog,mixed:=ju }
def binds(fs:List FuncId):Op→Bool
 | .call ⟨.value (.func f),_,_⟩=>fs.contains f
 | .binOp .mul _ _ _ _=>true
 | _=>false
def Qr(fn:Func):Code:=fn.body.getD .skip
theorem KQ{C:Tab}(hC:Qc C)(d:Nat){f:FuncId}{fn:Func}(hf:Try.prog.funcs[f]? = some fn)(hb:fn.body=some (Qr fn))(hgo:J3 Try.prog f=true){α:Type}[Qt α]{F:α→Bool×AV}(hF:∀ x,(F x).1=true→(Q8 (mkE Try.prog C) (hnd (mkE Try.prog C) d) false fn (Qt.enc x) [] 0).den fun u _=>u.same (F x).2):QQ Try.prog f (KD (KE F)):=
 QF8 (QT hC) hf hb hgo (fun G _ hG=>Qz (QT hC) d G _ hG) hF
def QNv:Sp×Int×Int×Unit→Bool×AV:=fun|(s,(a,(b,_)))=>(true,.bool false (s.isIn a b))
def QMt:FC:=KD (KE QNv)
theorem QVV(s:Sp)(a:Int)(b:Int):Q8 (mkE Try.prog QBl) (hnd (mkE Try.prog QBl) 0) false Try.f82 (Qt.enc ((s,a,b,()):Sp×Int×Int×Unit)) [] 0 =
  QD.br (decide (a≤s.lo)) (QD.br (decide (s.lo≤s.hi)) (QD.leaf (AV.bool false (decide (s.hi≤b))) ([])) (QD.leaf (AV.bool true false) ([]))) (QD.leaf (AV.bool true
  false) ([])):=by kernel_rfl
theorem QcU:QQ Try.prog 82 QMt:=by
 refine KQ QP1 0 Try.func82 (by kernel_rfl) (by kernel_rfl) ?_
 rintro⟨s,a,b,⟨⟩⟩ hp;rw[QVV s a b];simp only[QNv,QD.den,AV.same,AV.sameL,and_true,true_and]at hp ⊢
 (repeat' (first|(refine And.intro ?_ ?_)|(intro _)))<;>simp_all [Sp.isIn]<;>omega
def QDc:Tab:=Qe QBl 82 QMt
theorem QLB:Qc QDc:=QP1.add QcU
def QMi:Int×Int×Int×Unit→Bool×AV:=fun|(n,(a,(b,_)))=>(true,.bool false (Qg n a b))
def QMK:FC:=KD (KE QMi)
theorem Qca(n:Int)(a:Int)(b:Int):Q8 (mkE Try.prog QDc) (hnd (mkE Try.prog QDc) 0) false Try.f81 (Qt.enc ((n,a,b,()):Int×Int×Int×Unit)) [] 0 =
  QD.br (decide (a≤n)) (QD.leaf (AV.bool false (decide (n≤b))) ([])) (QD.leaf (AV.bool true false) ([])):=by kernel_rfl
theorem QUG:QQ Try.prog 81 QMK:=by
 refine KQ QLB 0 Try.func81 (by kernel_rfl) (by kernel_rfl) ?_
 rintro⟨n,a,b,⟨⟩⟩ hp;rw[Qca n a b];simp only[QMi,QD.den,AV.same,AV.sameL,and_true,true_and]at hp ⊢
 (repeat' (first|(refine And.intro ?_ ?_)|(intro _)))<;>simp_all [Qg]<;>omega
def QBe:Tab:=Qe QDc 81 QMK
theorem QMy:Qc QBe:=QLB.add QUG
def QJw:Edge×Unit→Bool×AV:=fun|(a,_)=>(true,.bool false a.ok)
def QNM:FC:=KD (KE QJw)
theorem QSb(a:Edge):Q8 (mkE Try.prog QBe) (hnd (mkE Try.prog QBe) 0) false Try.f85 (Qt.enc ((a,()):Edge×Unit)) [] 0 =
  QD.br (a.kind==(0:Int)) (QD.leaf (AV.bool true true) ([])) (QD.br (a.kind==(1:Int)) (QD.need (true) (QD.br (a.at_.isIn (0:Int) (10000:Int)) (QD.need (true)
  (QD.br (a.wide.isIn (1:Int) (3000:Int)) (QD.need (true) (QD.leaf (AV.bool false (a.deep.isIn (1:Int) (3000:Int))) ([]))) (QD.leaf (AV.bool true false) ([]))))
  (QD.leaf (AV.bool true false) ([])))) (QD.br (a.kind==(2:Int)) (QD.need (true) (QD.br (a.at_.isIn (0:Int) (10000:Int)) (QD.need (true) (QD.br (a.wide.isIn (1 :
  Int) (3000:Int)) (QD.need (true) (QD.leaf (AV.bool false (a.deep.isIn (1:Int) (3000:Int))) ([]))) (QD.leaf (AV.bool true false) ([])))) (QD.leaf (AV.bool true false)
  ([])))) (QD.leaf (AV.bool true false) ([])))):=by kernel_rfl
theorem QY3:QQ Try.prog 85 QNM:=by
 refine KQ QMy 0 Try.func85 (by kernel_rfl) (by kernel_rfl) ?_
 rintro⟨a,⟨⟩⟩ hp;rw[QSb a];simp only[QJw,QD.den,AV.same,AV.sameL,and_true,true_and]at hp ⊢
 (repeat' (first|(refine And.intro ?_ ?_)|(intro _)))<;>simp_all [Edge.ok]
def QAZ:Tab:=Qe QBe 85 QNM
theorem QMH:Qc QAZ:=QMy.add QY3
def QPZ:Qm×Unit→Bool×AV:=fun|(p,_)=>(true,.bool false p.ok)
def QO0:FC:=KD (KE QPZ)
theorem QUR(p:Qm):Q8 (mkE Try.prog QAZ) (hnd (mkE Try.prog QAZ) 0) false Try.f59 (Qt.enc ((p,()):Qm×Unit)) [] 0 =
  QD.need (true) (QD.br (Qg p.length (1:Int) (10000:Int)) (QD.need (true) (QD.br (Qg p.slack (0:Int) (500:Int)) (QD.need (true) (QD.br (Qg p.loose (0 :
  Int) (500:Int)) (QD.need (true) (QD.leaf (AV.bool false (p.damp.isIn (0:Int) (100:Int))) ([]))) (QD.leaf (AV.bool true false) ([])))) (QD.leaf (AV.bool true false)
  ([])))) (QD.leaf (AV.bool true false) ([]))):=by kernel_rfl
theorem QVy:QQ Try.prog 59 QO0:=by
 refine KQ QMH 0 Try.func59 (by kernel_rfl) (by kernel_rfl) ?_
 rintro⟨p,⟨⟩⟩ hp;rw[QUR p];simp only[QPZ,QD.den,AV.same,AV.sameL,and_true,true_and]at hp ⊢
 (repeat' (first|(refine And.intro ?_ ?_)|(intro _)))<;>simp_all [Qm.ok]
def QBk:Tab:=Qe QAZ 59 QO0
theorem QIJ:Qc QBk:=QMH.add QVy
def QQP:Sp×Sp×Unit→Bool×AV:=fun|(s,(o,_))=>(decide (Sm s.lo∧Sm s.hi∧Sm o.lo∧Sm o.hi),Enc.enc (s.less o))
def QP8:FC:=KD (KE QQP)
theorem QWr(s:Sp)(o:Sp):Q8 (mkE Try.prog QBk) (hnd (mkE Try.prog QBk) 0) false Try.f132 (Qt.enc ((s,o,()):Sp×Sp×Unit)) [] 0 =
  QD.leaf (AV.agg [AV.int false i64 (i64.wrap (s.lo-o.hi)),AV.int false i64 (i64.wrap (s.hi-o.lo))]) ([]):=by kernel_rfl
theorem QTa:QQ Try.prog 132 QP8:=by
 refine KQ QIJ 0 Try.func132 (by kernel_rfl) (by kernel_rfl) ?_
 rintro⟨s,o,⟨⟩⟩ hp;rw[QWr s o];simp only[QQP,QD.den,AV.same,AV.sameL,and_true,true_and]at hp ⊢;have hp:=qdt hp;unfold Sm at hp;simp only[Sp.less,Enc.enc,AV.same,AV.sameL];rw[w64 (by omega) (by omega),w64 (by omega) (by omega)];simp
def QBr:Tab:=Qe QBk 132 QP8
theorem QJn:Qc QBr:=QIJ.add QTa
def QQ4:Sp×Sp×Unit→Bool×AV:=fun|(s,(o,_))=>(decide (Sm s.lo∧Sm s.hi∧Sm o.lo∧Sm o.hi),Enc.enc (s.plus o))
def QJg:FC:=KD (KE QQ4)
theorem QdH(s:Sp)(o:Sp):Q8 (mkE Try.prog QBr) (hnd (mkE Try.prog QBr) 0) false Try.f129 (Qt.enc ((s,o,()):Sp×Sp×Unit)) [] 0 =
  QD.leaf (AV.agg [AV.int false i64 (i64.wrap (s.lo+o.lo)),AV.int false i64 (i64.wrap (s.hi+o.hi))]) ([]):=by kernel_rfl
theorem QUL:QQ Try.prog 129 QJg:=by
 refine KQ QJn 0 Try.func129 (by kernel_rfl) (by kernel_rfl) ?_
 rintro⟨s,o,⟨⟩⟩ hp;rw[QdH s o];simp only[QQ4,QD.den,AV.same,AV.sameL,and_true,true_and]at hp ⊢;have hp:=qdt hp;unfold Sm at hp;simp only[Sp.plus,Enc.enc,AV.same,AV.sameL];rw[w64 (by omega) (by omega),w64 (by omega) (by omega)];simp
def QAb:Tab:=Qe QBr 129 QJg
theorem QIE:Qc QAb:=QJn.add QUL
def QN9:Q5×Unit→Bool×AV:=fun|(c,_)=>(decide c.B,Enc.enc (Qj c.p c.t c.h))
def QLM:FC:=KD (KE QN9)
theorem Qar(c:Q5):Q8 (mkE Try.prog QAb) (hnd (mkE Try.prog QAb) 0) false Try.f128 (Qt.enc ((c,()):Q5×Unit)) [] 0 =
  QD.need (decide (Sm c.t.at_.lo∧Sm c.t.at_.hi∧Sm c.h.at_.lo∧Sm c.h.at_.hi)) (QD.need (decide (Sm (c.t.at_.plus c.h.at_).lo∧Sm (c.t.at_.plus c.h.at_).hi∧Sm
  (i64.wrap ((0:Int)-c.p.length))∧Sm (i64.wrap ((0:Int)-c.p.length)))) (QD.leaf (AV.agg [AV.int false i64 ((c.t.at_.plus c.h.at_).plus (Sp.mk
  (i64.wrap ((0:Int)-c.p.length)) (i64.wrap ((0:Int)-c.p.length)))).lo,AV.int false i64 ((c.t.at_.plus c.h.at_).plus (Sp.mk (i64.wrap ((0 :
  Int)-c.p.length)) (i64.wrap ((0:Int)-c.p.length)))).hi]) ([]))):=by kernel_rfl
theorem Qbj:QQ Try.prog 128 QLM:=by
 refine KQ QIE 0 Try.func128 (by kernel_rfl) (by kernel_rfl) ?_
 rintro⟨c,⟨⟩⟩ hp;rw[Qar c];simp only[QN9,QD.den,AV.same,AV.sameL,and_true,true_and]at hp ⊢;have hp:=qdt hp;obtain⟨h1,h2,h3⟩:=hp;unfold VN at h1;unfold VJ at h2 h3;have e:i64.wrap (0-c.p.length) = -c.p.length:=by rw[w64 (by omega) (by omega)];omega
 rw[e];refine⟨decide_eq_true (by unfold Sm;omega),decide_eq_true (by unfold Sm Sp.plus;simp only;omega),?_⟩
 simp[Qj,Sp.plus,Enc.enc,AV.same,AV.sameL]
def QCA:Tab:=Qe QAb 128 QLM
theorem QI5:Qc QCA:=QIE.add Qbj
def QJ2:Q5×Unit→Bool×AV:=fun|(c,_)=>(decide c.B,Enc.enc (Qi c.t c.h))
def QKg:FC:=KD (KE QJ2)
theorem QXT(c:Q5):Q8 (mkE Try.prog QCA) (hnd (mkE Try.prog QCA) 0) false Try.f131 (Qt.enc ((c,()):Q5×Unit)) [] 0 =
  QD.need (decide (Sm c.h.wide.lo∧Sm c.h.wide.hi∧Sm c.t.wide.lo∧Sm c.t.wide.hi)) (QD.leaf (AV.agg [AV.int false i64 (c.h.wide.less c.t.wide).lo,AV.int false
  i64 (c.h.wide.less c.t.wide).hi]) ([])):=by kernel_rfl
theorem Qdc:QQ Try.prog 131 QKg:=by
 refine KQ QI5 0 Try.func131 (by kernel_rfl) (by kernel_rfl) ?_
 rintro⟨c,⟨⟩⟩ hp;rw[QXT c];simp only[QJ2,QD.den,AV.same,AV.sameL,and_true,true_and]at hp ⊢;have hp:=qdt hp;obtain⟨h1,h2,h3⟩:=hp;unfold VN at h1;unfold VJ at h2 h3;refine⟨decide_eq_true (by unfold Sm;omega),?_⟩
 simp[Qi,Sp.less,Enc.enc,AV.same,AV.sameL]
def QDK:Tab:=Qe QCA 131 QKg
theorem QRC:Qc QDK:=QI5.add Qdc
def QPe:Q5×Unit→Bool×AV:=fun|(c,_)=>(decide c.B,Enc.enc (Qk c.t c.h))
def QQd:FC:=KD (KE QPe)
theorem QdV(c:Q5):Q8 (mkE Try.prog QDK) (hnd (mkE Try.prog QDK) 0) false Try.f134 (Qt.enc ((c,()):Q5×Unit)) [] 0 =
  QD.need (decide (Sm c.h.deep.lo∧Sm c.h.deep.hi∧Sm c.t.deep.lo∧Sm c.t.deep.hi)) (QD.leaf (AV.agg [AV.int false i64 (c.h.deep.less c.t.deep).lo,AV.int false
  i64 (c.h.deep.less c.t.deep).hi]) ([])):=by kernel_rfl
theorem QR5:QQ Try.prog 134 QQd:=by
 refine KQ QRC 0 Try.func134 (by kernel_rfl) (by kernel_rfl) ?_
 rintro⟨c,⟨⟩⟩ hp;rw[QdV c];simp only[QPe,QD.den,AV.same,AV.sameL,and_true,true_and]at hp ⊢;have hp:=qdt hp;obtain⟨h1,h2,h3⟩:=hp;unfold VN at h1;unfold VJ at h2 h3;refine⟨decide_eq_true (by unfold Sm;omega),?_⟩
 simp[Qk,Sp.less,Enc.enc,AV.same,AV.sameL]
def QAK:Tab:=Qe QDK 134 QQd
theorem QMo:Qc QAK:=QRC.add QR5
def QNk:Q5×Unit→Bool×AV:=fun|(c,_)=>(decide c.B,.tup [.int false .i64 (-c.p.slack),.int false .i64 c.p.slack])
def QO6:FC:=KD (KE QNk)
theorem QZv(c:Q5):Q8 (mkE Try.prog QAK) (hnd (mkE Try.prog QAK) 0) false Try.f127 (Qt.enc ((c,()):Q5×Unit)) [] 0 =
  QD.leaf (AV.tup [AV.int false i64 (i64.wrap ((0:Int)-c.p.slack)),AV.int false i64 c.p.slack]) ([]):=by kernel_rfl
theorem QX0:QQ Try.prog 127 QO6:=by
 refine KQ QMo 0 Try.func127 (by kernel_rfl) (by kernel_rfl) ?_
 rintro⟨c,⟨⟩⟩ hp;rw[QZv c];simp only[QNk,QD.den,AV.same,AV.sameL,and_true,true_and]at hp ⊢;have hp:=qdt hp;obtain⟨h1,h2,h3⟩:=hp;unfold VN at h1;rw[w64 (by omega) (by omega)];omega
def QCx:Tab:=Qe QAK 127 QO6
theorem QLI:Qc QCx:=QMo.add QX0
def QI0:Q5×Unit→Bool×AV:=fun|(c,_)=>(decide c.B,.tup [.int false .i64 0,.int false .i64 c.p.loose])
def QIh:FC:=KD (KE QI0)
theorem QYM(c:Q5):Q8 (mkE Try.prog QCx) (hnd (mkE Try.prog QCx) 0) false Try.f130 (Qt.enc ((c,()):Q5×Unit)) [] 0 =
  QD.leaf (AV.tup [AV.int true i64 (0:Int),AV.int false i64 c.p.loose]) ([]):=by kernel_rfl
theorem QSu:QQ Try.prog 130 QIh:=by
 refine KQ QLI 0 Try.func130 (by kernel_rfl) (by kernel_rfl) ?_
 rintro⟨c,⟨⟩⟩ hp;rw[QYM c];simp only[QI0,QD.den,AV.same,AV.sameL,and_true,true_and]at hp ⊢
def QCk:Tab:=Qe QCx 130 QIh
theorem QNs:Qc QCk:=QLI.add QSu
def QPw:Q5×Unit→Bool×AV:=fun|(c,_)=>(decide c.B,.tup [.int false .i64 0,.int false .i64 c.p.loose])
def QKU:FC:=KD (KE QPw)
theorem QSf(c:Q5):Q8 (mkE Try.prog QCk) (hnd (mkE Try.prog QCk) 0) false Try.f133 (Qt.enc ((c,()):Q5×Unit)) [] 0 =
  QD.leaf (AV.tup [AV.int true i64 (0:Int),AV.int false i64 c.p.loose]) ([]):=by kernel_rfl
theorem QRg:QQ Try.prog 133 QKU:=by
 refine KQ QNs 0 Try.func133 (by kernel_rfl) (by kernel_rfl) ?_
 rintro⟨c,⟨⟩⟩ hp;rw[QSf c];simp only[QPw,QD.den,AV.same,AV.sameL,and_true,true_and]at hp ⊢
def WA:Tab:=Qe QCk 133 QKU
theorem QRB:Qc WA:=QNs.add QRg
variable {sl sh hi:Int}
theorem HU{lo dh:Int}(h1 : -100000≤sl∧sl≤100000)(h2 : -100000≤sh∧sh≤100000)(h3 : -500≤lo∧lo≤500)(h4 : -500≤hi∧hi≤500)(h5:0≤dh∧dh≤100):
  (decide (i64.wrap (sl*i64.wrap (1000+dh))≥i64.wrap (1000*lo))=true→decide (i64.wrap (sh*i64.wrap (1000+dh))≤i64.wrap (1000*hi))=Kh sl sh lo hi dh) ∧
  (decide (i64.wrap (sl*i64.wrap (1000+dh))≥i64.wrap (1000*lo))=false→false=Kh sl sh lo hi dh):=by
 obtain⟨m1,m2⟩:=QGr (a:=sl) (m:=1000+dh) (by omega) (by omega) (by omega) (by omega)
 obtain⟨m3,m4⟩:=QGr (a:=sh) (m:=1000+dh) (by omega) (by omega) (by omega) (by omega)
 rw[w64 (n:=1000+dh) (by omega) (by omega),w64 (n:=sl*_) (by omega) (by omega),w64 (n:=sh*_) (by omega) (by omega),w64 (n:=1000*lo) (by omega) (by omega),w64 (n:=1000*hi) (by omega) (by omega)]
 exact⟨fun h=>Qan (qdt h),fun h=>QVh (by have:=of_decide_eq_false h;omega)⟩
theorem QBc{lo dl:Int}(h1 : -100000≤sl∧sl≤100000)(h2 : -100000≤sh∧sh≤100000)(h3 : -500≤lo∧lo≤500)(h4 : -500≤hi∧hi≤500)(h5:0≤dl∧dl≤100):
  (decide (i64.wrap (1000*lo)≤i64.wrap (min (max 0 sl) sh*i64.wrap (1000+dl)))=true→decide (i64.wrap (min (max 0 sl) sh*i64.wrap (1000+dl))≤i64.wrap (1000*hi))=Qs sl sh lo hi dl) ∧
  (decide (i64.wrap (1000*lo)≤i64.wrap (min (max 0 sl) sh*i64.wrap (1000+dl)))=false→false=Qs sl sh lo hi dl):=by
 obtain⟨m1,m2⟩:=QGr (a:=min (max 0 sl) sh) (m:=1000+dl) (by omega) (by omega) (by omega) (by omega)
 rw[w64 (n:=1000+dl) (by omega) (by omega),w64 (n:=min (max 0 sl) sh*_) (by omega) (by omega),w64 (n:=1000*lo) (by omega) (by omega),w64 (n:=1000*hi) (by omega) (by omega)]
 exact⟨fun h=>QZ5 (qdt h),fun h=>QTY (by have:=of_decide_eq_false h;omega)⟩
theorem QP0:i64.wrap (1000*0)=0:=by decide
theorem QEb{dh:Int}(h1 : -100000≤sl∧sl≤100000)(h2 : -100000≤sh∧sh≤100000)(h4 : -500≤hi∧hi≤500)(h5:0≤dh∧dh≤100):
  (decide (i64.wrap (sl*i64.wrap (1000+dh))≥0)=true→decide (i64.wrap (sh*i64.wrap (1000+dh))≤i64.wrap (1000*hi))=Kh sl sh 0 hi dh) ∧
  (decide (i64.wrap (sl*i64.wrap (1000+dh))≥0)=false→false=Kh sl sh 0 hi dh):=by
 have:=HU (lo:=0) h1 h2 (by omega) h4 h5
 rw[QP0]at this;exact this
theorem QFE{dl:Int}(h1 : -100000≤sl∧sl≤100000)(h2 : -100000≤sh∧sh≤100000)(h4 : -500≤hi∧hi≤500)(h5:0≤dl∧dl≤100):
  (decide (0≤i64.wrap (min (max 0 sl) sh*i64.wrap (1000+dl)))=true→decide (i64.wrap (min (max 0 sl) sh*i64.wrap (1000+dl))≤i64.wrap (1000*hi))=Qs sl sh 0 hi dl) ∧
  (decide (0≤i64.wrap (min (max 0 sl) sh*i64.wrap (1000+dl)))=false→false=Qs sl sh 0 hi dl):=by
 have:=QBc (lo:=0) h1 h2 (by omega) h4 h5
 rw[QP0]at this;exact this
def QCU:Q5×D×Unit→Bool×AV:=fun|(x,(d,_))=>(decide (x.B∧d.c.B),.bool false (Kh d.by_.lo d.by_.hi d.lo d.hi x.p.damp.hi))
def QM4:FC:=KD (KE QCU)
theorem QbH(x:Q5)(c:Q5):Q8 (mkE Try.prog WA) (hnd (mkE Try.prog WA) 0) false Try.f97 (Qt.enc ((x,(D.off c),()):Q5×D×Unit)) [] 0 =
  QD.need (decide c.B) (QD.need (decide c.B) (QD.br (decide (i64.wrap ((Qj c.p c.t c.h).lo*i64.wrap ((1000:Int)+x.p.damp.hi))≥i64.wrap ((1000
  : Int) * -c.p.slack))) (QD.leaf (AV.bool false (decide (i64.wrap ((Qj c.p c.t c.h).hi*i64.wrap ((1000:Int)+x.p.damp.hi))≤i64.wrap ((1000:Int)
  * c.p.slack)))) ([])) (QD.leaf (AV.bool true false) ([])))):=by kernel_rfl
theorem QT3(x:Q5)(c:Q5):Q8 (mkE Try.prog WA) (hnd (mkE Try.prog WA) 0) false Try.f97 (Qt.enc ((x,(D.wide c),()):Q5×D×Unit)) [] 0 =
  QD.need (decide c.B) (QD.need (decide c.B) (QD.br (decide (i64.wrap ((Qi c.t c.h).lo*i64.wrap ((1000:Int)+x.p.damp.hi))≥(0:Int))) (QD.leaf
  (AV.bool false (decide (i64.wrap ((Qi c.t c.h).hi*i64.wrap ((1000:Int)+x.p.damp.hi))≤i64.wrap ((1000:Int)*c.p.loose)))) ([])) (QD.leaf
  (AV.bool true false) ([])))):=by kernel_rfl
theorem Qcl(x:Q5)(c:Q5):Q8 (mkE Try.prog WA) (hnd (mkE Try.prog WA) 0) false Try.f97 (Qt.enc ((x,(D.deep c),()):Q5×D×Unit)) [] 0 =
  QD.need (decide c.B) (QD.need (decide c.B) (QD.br (decide (i64.wrap ((Qk c.t c.h).lo*i64.wrap ((1000:Int)+x.p.damp.hi))≥(0:Int))) (QD.leaf
  (AV.bool false (decide (i64.wrap ((Qk c.t c.h).hi*i64.wrap ((1000:Int)+x.p.damp.hi))≤i64.wrap ((1000:Int)*c.p.loose)))) ([])) (QD.leaf
  (AV.bool true false) ([])))):=by kernel_rfl
theorem QWy:QQ Try.prog 97 QM4:=by
 refine KQ QRB 0 Try.func97 (by kernel_rfl) (by kernel_rfl) ?_
 rintro⟨x,(c|c|c),⟨⟩⟩ hp
 ·rw[QbH x c];simp only[QCU,QD.den,AV.same,AV.sameL,and_true,true_and]at hp ⊢;have hq:=qdt hp;obtain⟨⟨hx,_⟩,hc⟩:=hq;refine⟨decide_eq_true hc,decide_eq_true hc,?_⟩;obtain⟨h1,h2,h3⟩:=hc;unfold VN at h1 hx;unfold VJ at h2 h3;simp only[D.c]at h1 h2 h3
  first
   | (refine HU ?_ ?_ ?_ ?_ ?_<;>(try simp only[Qj,Qi,Qk])<;>omega)
   | (refine QEb ?_ ?_ ?_ ?_<;>(try simp only[Qj,Qi,Qk])<;>omega)
 ·rw[QT3 x c];simp only[QCU,QD.den,AV.same,AV.sameL,and_true,true_and]at hp ⊢;have hq:=qdt hp;obtain⟨⟨hx,_⟩,hc⟩:=hq;refine⟨decide_eq_true hc,decide_eq_true hc,?_⟩;obtain⟨h1,h2,h3⟩:=hc;unfold VN at h1 hx;unfold VJ at h2 h3;simp only[D.c]at h1 h2 h3
  first
   | (refine HU ?_ ?_ ?_ ?_ ?_<;>(try simp only[Qj,Qi,Qk])<;>omega)
   | (refine QEb ?_ ?_ ?_ ?_<;>(try simp only[Qj,Qi,Qk])<;>omega)
 ·rw[Qcl x c];simp only[QCU,QD.den,AV.same,AV.sameL,and_true,true_and]at hp ⊢;have hq:=qdt hp;obtain⟨⟨hx,_⟩,hc⟩:=hq;refine⟨decide_eq_true hc,decide_eq_true hc,?_⟩;obtain⟨h1,h2,h3⟩:=hc;unfold VN at h1 hx;unfold VJ at h2 h3;simp only[D.c]at h1 h2 h3
  first
   | (refine HU ?_ ?_ ?_ ?_ ?_<;>(try simp only[Qj,Qi,Qk])<;>omega)
   | (refine QEb ?_ ?_ ?_ ?_<;>(try simp only[Qj,Qi,Qk])<;>omega)
def Wn:Tab:=Qe WA 97 QM4
theorem QKe:Qc Wn:=QRB.add QWy
def QDh:Q5×D×Unit→Bool×AV:=fun|(x,(d,_))=>(decide (x.B∧d.c.B),.bool false (Qs d.by_.lo d.by_.hi d.lo d.hi x.p.damp.lo))
def QNz:FC:=KD (KE QDh)
theorem Qbh(x:Q5)(c:Q5):Q8 (mkE Try.prog Wn) (hnd (mkE Try.prog Wn) 0) false Try.f98 (Qt.enc ((x,(D.off c),()):Q5×D×Unit)) [] 0 =
  QD.need (decide c.B) (QD.need (decide c.B) (QD.br (decide (i64.wrap ((1000:Int) * -c.p.slack)≤i64.wrap (min (max (0:Int) (Qj c.p c.t c.h).lo) (Qj
  c.p c.t c.h).hi*i64.wrap ((1000:Int)+x.p.damp.lo)))) (QD.leaf (AV.bool false (decide (i64.wrap (min (max (0:Int) (Qj c.p c.t c.h).lo) (Qj c.p c.t
  c.h).hi*i64.wrap ((1000:Int)+x.p.damp.lo))≤i64.wrap ((1000:Int)*c.p.slack)))) ([])) (QD.leaf (AV.bool true false) ([])))):=by kernel_rfl
theorem QUI(x:Q5)(c:Q5):Q8 (mkE Try.prog Wn) (hnd (mkE Try.prog Wn) 0) false Try.f98 (Qt.enc ((x,(D.wide c),()):Q5×D×Unit)) [] 0 =
  QD.need (decide c.B) (QD.need (decide c.B) (QD.br (decide ((0:Int)≤i64.wrap (min (max (0:Int) (Qi c.t c.h).lo) (Qi c.t c.h).hi*i64.wrap ((1000
  : Int)+x.p.damp.lo)))) (QD.leaf (AV.bool false (decide (i64.wrap (min (max (0:Int) (Qi c.t c.h).lo) (Qi c.t c.h).hi*i64.wrap ((1000:Int) +
  x.p.damp.lo))≤i64.wrap ((1000:Int)*c.p.loose)))) ([])) (QD.leaf (AV.bool true false) ([])))):=by kernel_rfl
theorem QWL(x:Q5)(c:Q5):Q8 (mkE Try.prog Wn) (hnd (mkE Try.prog Wn) 0) false Try.f98 (Qt.enc ((x,(D.deep c),()):Q5×D×Unit)) [] 0 =
  QD.need (decide c.B) (QD.need (decide c.B) (QD.br (decide ((0:Int)≤i64.wrap (min (max (0:Int) (Qk c.t c.h).lo) (Qk c.t c.h).hi*i64.wrap ((1000
  : Int)+x.p.damp.lo)))) (QD.leaf (AV.bool false (decide (i64.wrap (min (max (0:Int) (Qk c.t c.h).lo) (Qk c.t c.h).hi*i64.wrap ((1000:Int) +
  x.p.damp.lo))≤i64.wrap ((1000:Int)*c.p.loose)))) ([])) (QD.leaf (AV.bool true false) ([])))):=by kernel_rfl
theorem Qc1:QQ Try.prog 98 QNz:=by
 refine KQ QKe 0 Try.func98 (by kernel_rfl) (by kernel_rfl) ?_
 rintro⟨x,(c|c|c),⟨⟩⟩ hp
 ·rw[Qbh x c];simp only[QDh,QD.den,AV.same,AV.sameL,and_true,true_and]at hp ⊢;have hq:=qdt hp;obtain⟨⟨hx,_⟩,hc⟩:=hq;refine⟨decide_eq_true hc,decide_eq_true hc,?_⟩;obtain⟨h1,h2,h3⟩:=hc;unfold VN at h1 hx;unfold VJ at h2 h3;simp only[D.c]at h1 h2 h3
  first
   | (refine QBc ?_ ?_ ?_ ?_ ?_<;>(try simp only[Qj,Qi,Qk])<;>omega)
   | (refine QFE ?_ ?_ ?_ ?_<;>(try simp only[Qj,Qi,Qk])<;>omega)
 ·rw[QUI x c];simp only[QDh,QD.den,AV.same,AV.sameL,and_true,true_and]at hp ⊢;have hq:=qdt hp;obtain⟨⟨hx,_⟩,hc⟩:=hq;refine⟨decide_eq_true hc,decide_eq_true hc,?_⟩;obtain⟨h1,h2,h3⟩:=hc;unfold VN at h1 hx;unfold VJ at h2 h3;simp only[D.c]at h1 h2 h3
  first
   | (refine QBc ?_ ?_ ?_ ?_ ?_<;>(try simp only[Qj,Qi,Qk])<;>omega)
   | (refine QFE ?_ ?_ ?_ ?_<;>(try simp only[Qj,Qi,Qk])<;>omega)
 ·rw[QWL x c];simp only[QDh,QD.den,AV.same,AV.sameL,and_true,true_and]at hp ⊢;have hq:=qdt hp;obtain⟨⟨hx,_⟩,hc⟩:=hq;refine⟨decide_eq_true hc,decide_eq_true hc,?_⟩;obtain⟨h1,h2,h3⟩:=hc;unfold VN at h1 hx;unfold VJ at h2 h3;simp only[D.c]at h1 h2 h3
  first
   | (refine QBc ?_ ?_ ?_ ?_ ?_<;>(try simp only[Qj,Qi,Qk])<;>omega)
   | (refine QFE ?_ ?_ ?_ ?_<;>(try simp only[Qj,Qi,Qk])<;>omega)
def QDB:Tab:=Qe Wn 98 QNz
theorem QNR:Qc QDB:=QKe.add Qc1
def QKm:Q5×Unit→Bool×AV:=fun|(x,_)=>(decide x.B,.int false .i64 (YL x.p x.t x.h))
def QHp:FC:=KD (KE QKm)
theorem Qae(x:Q5):Q8 (mkE Try.prog QDB) (hnd (mkE Try.prog QDB) 14) false Try.f87 (Qt.enc ((x,()):Q5×Unit)) [] 0 = .need (decide (x.B∧(D.off x).c.B)) (.br (!Kh
  (D.off x).by_.lo (D.off x).by_.hi (D.off x).lo (D.off x).hi x.p.damp.hi) (.need (decide (x.B∧(D.off x).c.B)) (.br (!Qs (D.off x).by_.lo (D.off x).by_.hi (D.off x).lo (D.off
  x).hi x.p.damp.lo) (.leaf (.int true .i64 0) ([])) (.need (decide (x.B∧(D.wide x).c.B)) (.br (!Qs (D.wide x).by_.lo (D.wide x).by_.hi (D.wide x).lo (D.wide x).hi
  x.p.damp.lo) (.leaf (.int true .i64 0) ([])) (.need (decide (x.B∧(D.deep x).c.B)) (.br (!Qs (D.deep x).by_.lo (D.deep x).by_.hi (D.deep x).lo (D.deep x).hi x.p.damp.lo)
  (.leaf (.int true .i64 0) ([])) (.leaf (.int true .i64 1) ([])))))))) (.need (decide (x.B∧(D.wide x).c.B)) (.br (!Kh (D.wide x).by_.lo (D.wide x).by_.hi (D.wide x).lo (D.wide
  x).hi x.p.damp.hi) (.need (decide (x.B∧(D.off x).c.B)) (.br (!Qs (D.off x).by_.lo (D.off x).by_.hi (D.off x).lo (D.off x).hi x.p.damp.lo) (.leaf (.int true .i64 0) ([]))
  (.need (decide (x.B∧(D.wide x).c.B)) (.br (!Qs (D.wide x).by_.lo (D.wide x).by_.hi (D.wide x).lo (D.wide x).hi x.p.damp.lo) (.leaf (.int true .i64 0) ([])) (.need (decide
  (x.B∧(D.deep x).c.B)) (.br (!Qs (D.deep x).by_.lo (D.deep x).by_.hi (D.deep x).lo (D.deep x).hi x.p.damp.lo) (.leaf (.int true .i64 0) ([])) (.leaf (.int true .i64 1)
  ([])))))))) (.need (decide (x.B∧(D.deep x).c.B)) (.br (!Kh (D.deep x).by_.lo (D.deep x).by_.hi (D.deep x).lo (D.deep x).hi x.p.damp.hi) (.need (decide (x.B∧(D.off x).c.B))
  (.br (!Qs (D.off x).by_.lo (D.off x).by_.hi (D.off x).lo (D.off x).hi x.p.damp.lo) (.leaf (.int true .i64 0) ([])) (.need (decide (x.B∧(D.wide x).c.B)) (.br (!Qs
  (D.wide x).by_.lo (D.wide x).by_.hi (D.wide x).lo (D.wide x).hi x.p.damp.lo) (.leaf (.int true .i64 0) ([])) (.need (decide (x.B∧(D.deep x).c.B)) (.br (!Qs (D.deep x).by_.lo
  (D.deep x).by_.hi (D.deep x).lo (D.deep x).hi x.p.damp.lo) (.leaf (.int true .i64 0) ([])) (.leaf (.int true .i64 1) ([])))))))) (.leaf (.int true .i64 2) ([]))))))):=by kernel_rfl
theorem QcB:QQ Try.prog 87 QHp:=by
 refine KQ QNR 14 Try.func87 (by kernel_rfl) (by kernel_rfl) ?_
 rintro⟨x,⟨⟩⟩ hp;rw[Qae x];simp only[QKm,QD.den,AV.same,AV.sameL,and_true,true_and]at hp ⊢;have hB:=qdt hp;have d1:decide (x.B∧(D.off x).c.B)=true:=decide_eq_true ⟨hB,hB⟩;have d2:decide (x.B∧(D.wide x).c.B)=true:=decide_eq_true ⟨hB,hB⟩;have d3:decide (x.B∧(D.deep x).c.B)=true:=decide_eq_true ⟨hB,hB⟩;have a0:Kh (D.off x).by_.lo (D.off x).by_.hi (D.off x).lo (D.off x).hi x.p.damp.hi=alw x.p x.t x.h 0:=rfl;have a1:Kh (D.wide x).by_.lo (D.wide x).by_.hi (D.wide x).lo (D.wide x).hi x.p.damp.hi=alw x.p x.t x.h 1:=rfl
 have a2:Kh (D.deep x).by_.lo (D.deep x).by_.hi (D.deep x).lo (D.deep x).hi x.p.damp.hi=alw x.p x.t x.h 2:=rfl;have b0:Qs (D.off x).by_.lo (D.off x).by_.hi (D.off x).lo (D.off x).hi x.p.damp.lo=may x.p x.t x.h 0:=rfl;have b1:Qs (D.wide x).by_.lo (D.wide x).by_.hi (D.wide x).lo (D.wide x).hi x.p.damp.lo=may x.p x.t x.h 1:=rfl;have b2:Qs (D.deep x).by_.lo (D.deep x).by_.hi (D.deep x).lo (D.deep x).hi x.p.damp.lo=may x.p x.t x.h 2:=rfl;simp only[d1,d2,d3,a0,a1,a2,b0,b1,b2,QDX,true_and]
 cases alw x.p x.t x.h 0<;>cases alw x.p x.t x.h 1<;>cases alw x.p x.t x.h 2<;>cases may x.p x.t x.h 0<;>cases may x.p x.t x.h 1<;>cases may x.p x.t x.h 2<;>simp
def QCY:Tab:=Qe QDB 87 QHp
theorem QOA:Qc QCY:=QNR.add QcB
theorem QWH{p:Qm}(h:p.ok=true):VN p:=by rw[Qm.ok_iff]at h;unfold VN;omega
theorem QHw{e:Edge}(h:e.ok=true)(hk:e.kind=1∨e.kind=2):VJ e:=by rw[Edge.ok_iff]at h;unfold VJ;omega
def okP(p:Qm)(a b:Edge):Bool:=p.ok&&(a.ok&&b.ok)
instance : Enc Gap where
  enc x := .agg [.int false .i64 x.off.lo,.int false .i64 x.off.hi,.int false .i64 x.wide.lo,.int false .i64 x.wide.hi,.int false .i64 x.deep.lo,.int false .i64 x.deep.hi]
  dec | .agg [.int _ .i64 a0,.int _ .i64 a1,.int _ .i64 a2,.int _ .i64 a3,.int _ .i64 a4,.int _ .i64 a5] => some ⟨⟨a0,a1⟩,⟨a2,a3⟩,⟨a4,a5⟩⟩ | _ => none
  ok v x h := by
    split at h <;> (try (cases h; done))
    simp only[qsI]at h; subst h; exact⟨fun _ => rfl,rfl⟩
theorem QGS{p:Qm}{a b:Edge}(h1:p.ok=true)(h2:a.ok=true)(h3:b.ok=true)(ha:a.kind=1)(hb:b.kind=2):Q5.B ⟨p,a,b⟩:=⟨QWH h1,QHw h2 (.inl ha),QHw h3 (.inr hb)⟩
def Edge.zero:Edge:=⟨0,⟨0,0⟩,⟨0,0⟩,⟨0,0⟩⟩
def QP7(s:Edge)(w:Sp)(n:Int):Prop:=VJ s∧(0≤w.lo∧w.lo≤100∧0≤w.hi∧w.hi≤100)∧0≤n∧n≤20000
instance (s : Edge) (w : Sp) (n : Int) : Decidable (QP7 s w n) := by unfold QP7; infer_instance
def QJU:Qm×Edge×Edge×Unit→Bool×AV:=fun|(p,(a,(b,_)))=>(okP p a b,.int false .i64 (Xh p a b))
def QNi:FC:=KD (KE QJU)
theorem Qam(p:Qm)(a:Edge)(b:Edge):Q8 (mkE Try.prog QCY) (hnd (mkE Try.prog QCY) 4) false Try.f61 (Qt.enc ((p,a,b,()):Qm×Edge×Edge×Unit)) [] 0 =
  QD.br (a.kind==(2:Int)) (QD.br (b.kind==(1:Int)) (QD.br (a.kind==(2:Int)) (QD.need (decide (Q5.mk p b a).B) (QD.leaf (AV.int false i64 (YL p b
  a)) ([]))) (QD.leaf (AV.int true i64 (0:Int)) ([]))) (QD.leaf (AV.int true i64 (0:Int)) ([]))) (QD.br (a.kind==(1:Int)) (QD.br (b.kind==(2:Int))
  (QD.need (decide (Q5.mk p a b).B) (QD.leaf (AV.int false i64 (YL p a b)) ([]))) (QD.leaf (AV.int true i64 (0:Int)) ([]))) (QD.leaf (AV.int true
  i64 (0:Int)) ([]))):=by kernel_rfl
theorem QUu:QQ Try.prog 61 QNi:=by
 refine KQ QOA 4 Try.func61 (by kernel_rfl) (by kernel_rfl) ?_
 rintro⟨p,a,b,⟨⟩⟩ hp;rw[Qam p a b];simp only[QJU,QD.den,AV.same,AV.sameL,and_true,true_and]at hp ⊢;unfold okP at hp;simp only[qbA]at hp;obtain⟨h1,h2,h3⟩:=hp;unfold Xh;simp only[beq_iff_eq,beq_eq_false_iff_ne];refine⟨fun ha=>⟨fun hb => ?_,fun hb=>by rw[if_pos ha,if_neg hb]⟩,fun ha=>⟨fun ha1 => ?_,fun ha1=>by rw[if_neg ha,if_neg (fun h=>ha1 h.1)]⟩⟩
 ·refine⟨fun _=>⟨decide_eq_true (QGS h1 h3 h2 hb ha),by rw[if_pos ha,if_pos hb]⟩,fun h=>absurd ha h⟩
 ·refine⟨fun hb=>⟨decide_eq_true (QGS h1 h2 h3 ha1 hb),by rw[if_neg ha,if_pos ⟨ha1,hb⟩]⟩,fun hb=>by rw[if_neg ha,if_neg (fun h=>hb h.2)]⟩
def QBS:Tab:=Qe QCY 61 QNi
theorem QQ7:Qc QBS:=QOA.add QUu
def QM3:Qm×Edge×Edge×Unit→Bool×AV:=fun|(p,(a,(b,_)))=>(true,.tup [.int false .i64 (KG p a b).1,.int false .i64 (KG p a b).2])
def QQU:FC:=KD (KE QM3)
theorem QU4(p:Qm)(a:Edge)(b:Edge):Q8 (mkE Try.prog QBS) (hnd (mkE Try.prog QBS) 14) false Try.f32 (Qt.enc ((p,a,b,()):Qm×Edge×Edge×Unit)) [] 0 =
  QD.need (true) (QD.br (!p.ok) (QD.leaf (AV.tup [AV.int true i64 (0:Int),AV.int true i64 (1:Int)]) ([])) (QD.need (true) (QD.br (!a.ok) (QD.leaf
  (AV.tup [AV.int true i64 (0:Int),AV.int true i64 (1:Int)]) ([])) (QD.need (true) (QD.br (!b.ok) (QD.leaf (AV.tup [AV.int true i64 (0:Int),
  AV.int true i64 (1:Int)]) ([])) (QD.need (okP p a b) (QD.leaf (AV.tup [AV.int false i64 (Xh p a b),AV.int true i64 (0:Int)]) ([])))))))):=by kernel_rfl
theorem QZE:QQ Try.prog 32 QQU:=by
 refine KQ QQ7 14 Try.func32 (by kernel_rfl) (by kernel_rfl) ?_
 rintro⟨p,a,b,⟨⟩⟩ hp;rw[QU4 p a b];simp only[QM3,QD.den,AV.same,AV.sameL,and_true,true_and]at hp ⊢;unfold KG okP;cases p.ok<;>cases a.ok<;>cases b.ok<;>simp
def QAO:Tab:=Qe QBS 32 QQU
theorem QNa:Qc QAO:=QQ7.add QZE
end Go.Proofs.Ytbpffdkemeoajaa
