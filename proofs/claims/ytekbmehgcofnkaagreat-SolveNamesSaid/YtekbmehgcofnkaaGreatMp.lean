/- - -/
import Derived.Test.YtekbmehgcofnkaaGreatProg
import Derived.Test.YtekbmehgcofnkaaGreatMn
import Derived.Test.YtekbmehgcofnkaaGreatMo
import Derived.KernelRfl
open Go.Proofs.Tryz
open Go.IntKind (i64)
set_option maxRecDepth 100000
namespace Go.Proofs.YtekbmehgcofnkaaGreat
open Go.SX
theorem QBC:prog.follows .mixedOrders=true:=by kernel_rfl
abbrev Tab:=FuncId->Option FC
def QDg:Tab:=λ_=>none
def Qa(C:Tab)(f:FuncId)(fc:FC):Tab:=λg=>match g==f with
 | true=>some fc
 | false=>C g
def Qd(C:Tab):Prop:=∀ f fc,C f=some fc->QS prog f fc
theorem Qd.add{C:Tab}(h:Qd C){f:FuncId}{fc:FC}(hf:QS prog f fc):Qd (Qa C f fc):=by
 intro g fc' e;unfold Qa at e;split at e
 .rename_i hg;simp only[qsI]at e;subst e;have:g=f:=by simpa using hg
  subst this;exact hf
 .exact h g fc' e
theorem QMo:Qd QDg:=λ_ _ h=>by cases h
instance : Enc Sp where
  enc x := .agg [.int false .i64 x.lo,.int false .i64 x.hi]
  dec | .agg [.int _ .i64 a0,.int _ .i64 a1] => some ⟨a0,a1⟩ | _ => none
  ok v x h := by
    split at h <;> (try (cases h; done))
    simp only[qsI]at h; subst h; exact⟨λ_=>rfl,rfl⟩
instance : Enc Edge where
  enc x := .agg [.int false .i64 x.kind,.int false .i64 x.at_.lo,.int false .i64 x.at_.hi,.int false .i64 x.wide.lo,.int false .i64 x.wide.hi,.int false .i64 x.deep.lo,.int false .i64 x.deep.hi]
  dec | .agg [.int _ .i64 a0,.int _ .i64 a1,.int _ .i64 a2,.int _ .i64 a3,.int _ .i64 a4,.int _ .i64 a5,.int _ .i64 a6] => some ⟨a0,⟨a1,a2⟩,⟨a3,a4⟩,⟨a5,a6⟩⟩ | _ => none
  ok v x h := by
    split at h <;> (try (cases h; done))
    simp only[qsI]at h; subst h; exact⟨λ_=>rfl,rfl⟩
instance : Enc Q0 where
  enc x := .agg [.int false .i64 x.length,.int false .i64 x.aK,.int false .i64 x.oK,.int false .i64 x.dK.lo,.int false .i64 x.dK.hi]
  dec | .agg [.int _ .i64 a0,.int _ .i64 a1,.int _ .i64 a2,.int _ .i64 a3,.int _ .i64 a4] => some ⟨a0,a1,a2,⟨a3,a4⟩⟩ | _ => none
  ok v x h := by
    split at h <;> (try (cases h; done))
    simp only[qsI]at h; subst h; exact⟨λ_=>rfl,rfl⟩
structure Q4 where
 p:Q0
 t:Edge
 h:Edge
inductive D where
 | off (c:Q4)
 | wide (c:Q4)
 | deep (c:Q4)
instance : Enc Q4 where
  enc x := .agg [.int false .i64 x.p.length,.int false .i64 x.p.aK,.int false .i64 x.p.oK,.int false .i64 x.p.dK.lo,.int false .i64 x.p.dK.hi,
    .int false .i64 x.t.kind,.int false .i64 x.t.at_.lo,.int false .i64 x.t.at_.hi,.int false .i64 x.t.wide.lo,.int false .i64 x.t.wide.hi,.int false .i64 x.t.deep.lo,.int false .i64 x.t.deep.hi,
    .int false .i64 x.h.kind,.int false .i64 x.h.at_.lo,.int false .i64 x.h.at_.hi,.int false .i64 x.h.wide.lo,.int false .i64 x.h.wide.hi,.int false .i64 x.h.deep.lo,.int false .i64 x.h.deep.hi]
  dec | .agg [.int _ .i64 p0,.int _ .i64 p1,.int _ .i64 p2,.int _ .i64 p3,.int _ .i64 p4,
      .int _ .i64 a0,.int _ .i64 a1,.int _ .i64 a2,.int _ .i64 a3,.int _ .i64 a4,.int _ .i64 a5,.int _ .i64 a6,
      .int _ .i64 b0,.int _ .i64 b1,.int _ .i64 b2,.int _ .i64 b3,.int _ .i64 b4,.int _ .i64 b5,.int _ .i64 b6] =>
        some ⟨⟨p0,p1,p2,⟨p3,p4⟩⟩,⟨a0,⟨a1,a2⟩,⟨a3,a4⟩,⟨a5,a6⟩⟩,⟨b0,⟨b1,b2⟩,⟨b3,b4⟩,⟨b5,b6⟩⟩⟩
      | _ => none
  ok v x h := by
    split at h <;> (try (cases h; done))
    simp only[qsI]at h; subst h; exact⟨λ_=>rfl,rfl⟩
instance : Enc D where
  enc | .off c => .ifc 136 (Enc.enc c)
      | .wide c => .ifc 132 (Enc.enc c)
      | .deep c => .ifc 137 (Enc.enc c)
  dec | .ifc t v => match (Enc.dec v : Option Q4)with
        | some c => if t = 136 then some (.off c)else if t = 132 then some (.wide c)else if t = 137 then some (.deep c)else none
        | none => none
      | _ => none
  ok v x h := by
    split at h <;> (try (cases h; done))
    split at h <;> (try (cases h; done))
    rename_i t v c hc;have h1 := Enc.ok _ c hc;split at h
    . rename_i e; simp only[qsI]at h; subst h e
      exact⟨λr=>by simp only[AV.den]; rw[h1.1 r],h1.2⟩
    . split at h
      . rename_i e; simp only[qsI]at h; subst h e
        exact⟨λr=>by simp only[AV.den]; rw[h1.1 r],h1.2⟩
      . split at h <;> (try (cases h; done))
        rename_i e; simp only[qsI]at h; subst h e;exact⟨λr=>by simp only[AV.den]; rw[h1.1 r],h1.2⟩
theorem w64{n:Int}(h1 : -9223372036854775808<=n)(h2:n<=9223372036854775807):i64.wrap n=n:=IntWalk.i64_in n ⟨h1,h2⟩
def Vf(e:Edge):Prop:=(0<=e.at_.lo/\e.at_.lo<=10000/\0<=e.at_.hi/\e.at_.hi<=10000)/\(0<=e.wide.lo/\e.wide.lo<=3000/\0<=e.wide.hi/\e.wide.hi<=3000)/\(0<=e.deep.lo/\e.deep.lo<=3000/\0<=e.deep.hi/\e.deep.hi<=3000)
def V8(p:Q0):Prop:=(1<=p.length/\p.length<=10000)/\(0<=p.aK/\p.aK<=500)/\(0<=p.oK/\p.oK<=500)/\(0<=p.dK.lo/\p.dK.lo<=100)/\0<=p.dK.hi/\p.dK.hi<=100
def Q4.B(c:Q4):Prop:=V8 c.p/\Vf c.t/\Vf c.h
instance (e : Edge) : Decidable (Vf e) := by unfold Vf; infer_instance
instance (p : Q0) : Decidable (V8 p) := by unfold V8; infer_instance
instance (c : Q4) : Decidable c.B := by unfold Q4.B; infer_instance
def D.by_:D->Sp
 | .off c=>JK c.p c.t c.h
 | .wide c=>JJ c.t c.h
 | .deep c=>JG c.t c.h
def D.lo:D->Int
 | .off c => -c.p.aK
 | _=>0
def D.hi:D->Int
 | .off c=>c.p.aK
 | .wide c=>c.p.oK
 | .deep c=>c.p.oK
def D.c:D->Q4
 | .off c=>c
 | .wide c=>c
 | .deep c=>c
abbrev mkE(P:Program)(C:Tab):Env:=⟨P,C,j5 P,false,λ_=>false,false,false,false⟩
theorem QO{C:Tab}(hC:Qd C):(mkE prog C).Sound:={ c:=hC,m:=QBT prog,mixed:=QBC }
abbrev mkF(P:Program)(C:Tab):Env:=⟨P,C,j5 P,false,λ_=>false,false,false,true⟩
theorem K3{C:Tab}(hC:Qd C):(mkF prog C).Sound:={ c:=hC,m:=QBT prog,mixed:=QBC }
abbrev mkS(P:Program)(C:Tab):Env:=⟨P,C,j5 P,true,λ_=>false,false,false,false⟩
theorem zR{C:Tab}(hC:Qd C):(mkS prog C).Sound:={ c:=hC,m:=QBT prog,mixed:=QBC }
def binds(fs:List FuncId):Op->Bool
 | .call ⟨.value (.func f),_,_⟩=>fs.contains f
 | .binOp .mul _ _ _ _=>true
 | _=>false
def Ql(fn:Func):Code:=fn.body.getD .skip
theorem K5{C:Tab}(hC:Qd C)(d:Nat){f:FuncId}{fn:Func}(hf:prog.funcs[f]? = some fn)(hb:fn.body=some (Ql fn))(hgo:Jy prog f=true){α:Type}[Q3 α]{F:α->Bool×AV}(hF:∀ x,(F x).1=true->(KW (mkE prog C) (hnd (mkE prog C) d) false fn (Q3.enc x) [] 0).den λu _=>u.same (F x).2):QS prog f (Kb (Kh F)):=
 QLK (QO hC) hf hb hgo (λG _ hG=>Qw (QO hC) d G _ hG) hF
def QO1:Sp×Int×Int×Unit->Bool×AV:=λ|(s,(a,(b,_)))=>(true,.bool false (s.isIn a b))
def QOa:FC:=Kb (Kh QO1)
theorem Qc6(s:Sp)(a:Int)(b:Int):KW (mkE prog QDg) (hnd (mkE prog QDg) 0) false f77 (Q3.enc ((s,a,b,()):Sp×Int×Int×Unit)) [] 0=QC.br (decide (a<=s.lo)) (QC.br (decide (s.lo<=s.hi)) (QC.leaf (AV.bool false (decide (s.hi<=b))) ([])) (QC.leaf (AV.bool true false) ([]))) (QC.leaf (AV.bool true false) ([])):=by kernel_rfl
theorem QaO:QS prog 77 QOa:=by
 refine K5 QMo 0 func77 (by kernel_rfl) (by kernel_rfl) ?_
 rintro⟨s,a,b,⟨⟩⟩ hp;rw[Qc6 s a b];simp only[QO1,QC.den,AV.same,AV.sameL,and_true,true_and]at hp ⊢
 (repeat' (first|(refine aI ?_ ?_)|(intro _)))<;>simp_all [Sp.isIn]<;>omega
def QFP:Tab:=Qa QDg 77 QOa
theorem QSX:Qd QFP:=QMo.add QaO
def QNv:Int×Int×Int×Unit->Bool×AV:=λ|(n,(a,(b,_)))=>(true,.bool false (Qz n a b))
def QLO:FC:=Kb (Kh QNv)
theorem QX6(n:Int)(a:Int)(b:Int):KW (mkE prog QFP) (hnd (mkE prog QFP) 0) false f87 (Q3.enc ((n,a,b,()):Int×Int×Int×Unit)) [] 0=QC.br (decide (a<=n)) (QC.leaf (AV.bool false (decide (n<=b))) ([])) (QC.leaf (AV.bool true false) ([])):=by kernel_rfl
theorem Qb4:QS prog 87 QLO:=by
 refine K5 QSX 0 func87 (by kernel_rfl) (by kernel_rfl) ?_
 rintro⟨n,a,b,⟨⟩⟩ hp;rw[QX6 n a b];simp only[QNv,QC.den,AV.same,AV.sameL,and_true,true_and]at hp ⊢
 (repeat' (first|(refine aI ?_ ?_)|(intro _)))<;>simp_all [Qz]<;>omega
def QEm:Tab:=Qa QFP 87 QLO
theorem QSs:Qd QEm:=QSX.add Qb4
def QLG:Edge×Unit->Bool×AV:=λ|(a,_)=>(true,.bool false a.ok)
def QOs:FC:=Kb (Kh QLG)
theorem QZC(a:Edge):KW (mkE prog QEm) (hnd (mkE prog QEm) 0) false f86 (Q3.enc ((a,()):Edge×Unit)) [] 0=QC.br (a.kind==(0:Int)) (QC.leaf (AV.bool true true) ([])) (QC.br (a.kind==(1:Int)) (QC.need (true) (QC.br (a.at_.isIn (0:Int) (10000:Int)) (QC.need (true) (QC.br (a.wide.isIn (1:Int) (3000:Int)) (QC.need (true) (QC.leaf (AV.bool false (a.deep.isIn (1:Int) (3000:Int))) ([]))) (QC.leaf (AV.bool true false) ([])))) (QC.leaf (AV.bool true false) ([])))) (QC.br (a.kind==(2:Int)) (QC.need (true) (QC.br (a.at_.isIn (0:Int) (10000:Int)) (QC.need (true) (QC.br (a.wide.isIn (1:Int) (3000:Int)) (QC.need (true) (QC.leaf (AV.bool false (a.deep.isIn (1:Int) (3000:Int))) ([]))) (QC.leaf (AV.bool true false) ([])))) (QC.leaf (AV.bool true false) ([])))) (QC.leaf (AV.bool true false) ([])))):=by kernel_rfl
theorem QeW:QS prog 86 QOs:=by
 refine K5 QSs 0 func86 (by kernel_rfl) (by kernel_rfl) ?_
 rintro⟨a,⟨⟩⟩ hp;rw[QZC a];simp only[QLG,QC.den,AV.same,AV.sameL,and_true,true_and]at hp ⊢
 (repeat' (first|(refine aI ?_ ?_)|(intro _)))<;>simp_all [Edge.ok]
def QDU:Tab:=Qa QEm 86 QOs
theorem QSg:Qd QDU:=QSs.add QeW
def QK3:Q0×Unit->Bool×AV:=λ|(p,_)=>(true,.bool false p.ok)
def QKl:FC:=Kb (Kh QK3)
theorem QhI(p:Q0):KW (mkE prog QDU) (hnd (mkE prog QDU) 0) false f75 (Q3.enc ((p,()):Q0×Unit)) [] 0=QC.need (true) (QC.br (Qz p.length (1:Int) (10000:Int)) (QC.need (true) (QC.br (Qz p.aK (0:Int) (500:Int)) (QC.need (true) (QC.br (Qz p.oK (0:Int) (500:Int)) (QC.need (true) (QC.leaf (AV.bool false (p.dK.isIn (0:Int) (100:Int))) ([]))) (QC.leaf (AV.bool true false) ([])))) (QC.leaf (AV.bool true false) ([])))) (QC.leaf (AV.bool true false) ([]))):=by kernel_rfl
theorem Qdn:QS prog 75 QKl:=by
 refine K5 QSg 0 func75 (by kernel_rfl) (by kernel_rfl) ?_
 rintro⟨p,⟨⟩⟩ hp;rw[QhI p];simp only[QK3,QC.den,AV.same,AV.sameL,and_true,true_and]at hp ⊢
 (repeat' (first|(refine aI ?_ ?_)|(intro _)))<;>simp_all [Q0.ok]
def QEM:Tab:=Qa QDU 75 QKl
theorem QUA:Qd QEM:=QSg.add Qdn
def QON:Sp×Sp×Unit->Bool×AV:=λ|(s,(o,_))=>(decide (Sm s.lo/\Sm s.hi/\Sm o.lo/\Sm o.hi),Enc.enc (s.less o))
def QQe:FC:=Kb (Kh QON)
theorem QhD(s:Sp)(o:Sp):KW (mkE prog QEM) (hnd (mkE prog QEM) 0) false f123 (Q3.enc ((s,o,()):Sp×Sp×Unit)) [] 0=QC.leaf (AV.agg [vi (i64.wrap (s.lo-o.hi)),vi (i64.wrap (s.hi-o.lo))]) ([]):=by kernel_rfl
theorem Qec:QS prog 123 QQe:=by
 refine K5 QUA 0 func123 (by kernel_rfl) (by kernel_rfl) ?_
 rintro⟨s,o,⟨⟩⟩ hp;rw[QhD s o];simp only[QON,QC.den,AV.same,AV.sameL,and_true,true_and]at hp ⊢;have hp:=qdt hp;unfold Sm at hp;simp only[Sp.less,Enc.enc,AV.same,AV.sameL];rw[w64 (by omega) (by omega),w64 (by omega) (by omega)];simp
def QDT:Tab:=Qa QEM 123 QQe
theorem QUF:Qd QDT:=QUA.add Qec
def QL7:Sp×Sp×Unit->Bool×AV:=λ|(s,(o,_))=>(decide (Sm s.lo/\Sm s.hi/\Sm o.lo/\Sm o.hi),Enc.enc (s.plus o))
def QOJ:FC:=Kb (Kh QL7)
theorem QYx(s:Sp)(o:Sp):KW (mkE prog QDT) (hnd (mkE prog QDT) 0) false f124 (Q3.enc ((s,o,()):Sp×Sp×Unit)) [] 0=QC.leaf (AV.agg [vi (i64.wrap (s.lo+o.lo)),vi (i64.wrap (s.hi+o.hi))]) ([]):=by kernel_rfl
theorem QXS:QS prog 124 QOJ:=by
 refine K5 QUF 0 func124 (by kernel_rfl) (by kernel_rfl) ?_
 rintro⟨s,o,⟨⟩⟩ hp;rw[QYx s o];simp only[QL7,QC.den,AV.same,AV.sameL,and_true,true_and]at hp ⊢;have hp:=qdt hp;unfold Sm at hp;simp only[Sp.plus,Enc.enc,AV.same,AV.sameL];rw[w64 (by omega) (by omega),w64 (by omega) (by omega)];simp
def QDp:Tab:=Qa QDT 124 QOJ
theorem QPv:Qd QDp:=QUF.add QXS
def QJ8:Q4×Unit->Bool×AV:=λ|(c,_)=>(decide c.B,Enc.enc (JK c.p c.t c.h))
def QQ8:FC:=Kb (Kh QJ8)
theorem QfY(c:Q4):KW (mkE prog QDp) (hnd (mkE prog QDp) 0) false f208 (Q3.enc ((c,()):Q4×Unit)) [] 0=QC.need (decide (Sm c.t.at_.lo/\Sm c.t.at_.hi/\Sm c.h.at_.lo/\Sm c.h.at_.hi)) (QC.need (decide (Sm (c.t.at_.plus c.h.at_).lo/\Sm (c.t.at_.plus c.h.at_).hi/\Sm (i64.wrap ((0:Int)-c.p.length))/\Sm (i64.wrap ((0:Int)-c.p.length)))) (QC.leaf (AV.agg [vi ((c.t.at_.plus c.h.at_).plus (Sp.mk (i64.wrap ((0:Int)-c.p.length)) (i64.wrap ((0:Int)-c.p.length)))).lo,vi ((c.t.at_.plus c.h.at_).plus (Sp.mk (i64.wrap ((0:Int)-c.p.length)) (i64.wrap ((0:Int)-c.p.length)))).hi]) ([]))):=by kernel_rfl
theorem QfC:QS prog 208 QQ8:=by
 refine K5 QPv 0 func208 (by kernel_rfl) (by kernel_rfl) ?_
 rintro⟨c,⟨⟩⟩ hp;rw[QfY c];simp only[QJ8,QC.den,AV.same,AV.sameL,and_true,true_and]at hp ⊢;have hp:=qdt hp;obtain⟨h1,h2,h3⟩:=hp;unfold V8 at h1;unfold Vf at h2 h3;have e:i64.wrap (0-c.p.length) = -c.p.length:=by rw[w64 (by omega) (by omega)];omega
 rw[e];refine⟨qde (by unfold Sm;omega),qde (by unfold Sm Sp.plus;simp only;omega),?_⟩
 simp[JK,Sp.plus,Enc.enc,AV.same,AV.sameL]
def QDE:Tab:=Qa QDp 208 QQ8
theorem QMO:Qd QDE:=QPv.add QfC
def QSv:Q4×Unit->Bool×AV:=λ|(c,_)=>(decide c.B,Enc.enc (JJ c.t c.h))
def QSc:FC:=Kb (Kh QSv)
theorem Qge(c:Q4):KW (mkE prog QDE) (hnd (mkE prog QDE) 0) false f83 (Q3.enc ((c,()):Q4×Unit)) [] 0=QC.need (decide (Sm c.h.wide.lo/\Sm c.h.wide.hi/\Sm c.t.wide.lo/\Sm c.t.wide.hi)) (QC.leaf (AV.agg [vi (c.h.wide.less c.t.wide).lo,vi (c.h.wide.less c.t.wide).hi]) ([])):=by kernel_rfl
theorem QaY:QS prog 83 QSc:=by
 refine K5 QMO 0 func83 (by kernel_rfl) (by kernel_rfl) ?_
 rintro⟨c,⟨⟩⟩ hp;rw[Qge c];simp only[QSv,QC.den,AV.same,AV.sameL,and_true,true_and]at hp ⊢;have hp:=qdt hp;obtain⟨h1,h2,h3⟩:=hp;unfold V8 at h1;unfold Vf at h2 h3;refine⟨qde (by unfold Sm;omega),?_⟩
 simp[JJ,Sp.less,Enc.enc,AV.same,AV.sameL]
def QDq:Tab:=Qa QDE 83 QSc
theorem QQv:Qd QDq:=QMO.add QaY
def QPL:Q4×Unit->Bool×AV:=λ|(c,_)=>(decide c.B,Enc.enc (JG c.t c.h))
def QLt:FC:=Kb (Kh QPL)
theorem Qgw(c:Q4):KW (mkE prog QDq) (hnd (mkE prog QDq) 0) false f210 (Q3.enc ((c,()):Q4×Unit)) [] 0=QC.need (decide (Sm c.h.deep.lo/\Sm c.h.deep.hi/\Sm c.t.deep.lo/\Sm c.t.deep.hi)) (QC.leaf (AV.agg [vi (c.h.deep.less c.t.deep).lo,vi (c.h.deep.less c.t.deep).hi]) ([])):=by kernel_rfl
theorem Qe3:QS prog 210 QLt:=by
 refine K5 QQv 0 func210 (by kernel_rfl) (by kernel_rfl) ?_
 rintro⟨c,⟨⟩⟩ hp;rw[Qgw c];simp only[QPL,QC.den,AV.same,AV.sameL,and_true,true_and]at hp ⊢;have hp:=qdt hp;obtain⟨h1,h2,h3⟩:=hp;unfold V8 at h1;unfold Vf at h2 h3;refine⟨qde (by unfold Sm;omega),?_⟩
 simp[JG,Sp.less,Enc.enc,AV.same,AV.sameL]
def QDz:Tab:=Qa QDq 210 QLt
theorem QRI:Qd QDz:=QQv.add Qe3
def QKk:Q4×Unit->Bool×AV:=λ|(c,_)=>(decide c.B,.tup [.int false .i64 (-c.p.aK),.int false .i64 c.p.aK])
def QTl:FC:=Kb (Kh QKk)
theorem QYM(c:Q4):KW (mkE prog QDz) (hnd (mkE prog QDz) 0) false f207 (Q3.enc ((c,()):Q4×Unit)) [] 0=QC.leaf (AV.tup [vi (i64.wrap ((0:Int)-c.p.aK)),vi c.p.aK]) ([]):=by kernel_rfl
theorem QWs:QS prog 207 QTl:=by
 refine K5 QRI 0 func207 (by kernel_rfl) (by kernel_rfl) ?_
 rintro⟨c,⟨⟩⟩ hp;rw[QYM c];simp only[QKk,QC.den,AV.same,AV.sameL,and_true,true_and]at hp ⊢;have hp:=qdt hp;obtain⟨h1,h2,h3⟩:=hp;unfold V8 at h1;rw[w64 (by omega) (by omega)];omega
def QCp:Tab:=Qa QDz 207 QTl
theorem QMp:Qd QCp:=QRI.add QWs
def QTA:Q4×Unit->Bool×AV:=λ|(c,_)=>(decide c.B,.tup [.int false .i64 0,.int false .i64 c.p.oK])
def QOX:FC:=Kb (Kh QTA)
theorem QWn(c:Q4):KW (mkE prog QCp) (hnd (mkE prog QCp) 0) false f206 (Q3.enc ((c,()):Q4×Unit)) [] 0=QC.leaf (AV.tup [vj (0:Int),vi c.p.oK]) ([]):=by kernel_rfl
theorem Qgt:QS prog 206 QOX:=by
 refine K5 QMp 0 func206 (by kernel_rfl) (by kernel_rfl) ?_
 rintro⟨c,⟨⟩⟩ hp;rw[QWn c];simp only[QTA,QC.den,AV.same,AV.sameL,and_true,true_and]at hp ⊢
def QEs:Tab:=Qa QCp 206 QOX
theorem QRJ:Qd QEs:=QMp.add Qgt
def QRM:Q4×Unit->Bool×AV:=λ|(c,_)=>(decide c.B,.tup [.int false .i64 0,.int false .i64 c.p.oK])
def QNs:FC:=Kb (Kh QRM)
theorem QUv(c:Q4):KW (mkE prog QEs) (hnd (mkE prog QEs) 0) false f209 (Q3.enc ((c,()):Q4×Unit)) [] 0=QC.leaf (AV.tup [vj (0:Int),vi c.p.oK]) ([]):=by kernel_rfl
theorem QZV:QS prog 209 QNs:=by
 refine K5 QRJ 0 func209 (by kernel_rfl) (by kernel_rfl) ?_
 rintro⟨c,⟨⟩⟩ hp;rw[QUv c];simp only[QRM,QC.den,AV.same,AV.sameL,and_true,true_and]at hp ⊢
def Wc:Tab:=Qa QEs 209 QNs
theorem QMc:Qd Wc:=QRJ.add QZV
theorem QE9{sl sh lo hi dh:Int}(h1 : -100000<=sl/\sl<=100000)(h2 : -100000<=sh/\sh<=100000)(h3 : -500<=lo/\lo<=500)(h4 : -500<=hi/\hi<=500)(h5:0<=dh/\dh<=100):
  (decide (i64.wrap (sl*i64.wrap (1000+dh))≥i64.wrap (1000*lo))=true->decide (i64.wrap (sh*i64.wrap (1000+dh))<=i64.wrap (1000*hi))=VN sl sh lo hi dh) /\
  (decide (i64.wrap (sl*i64.wrap (1000+dh))≥i64.wrap (1000*lo))=false->false=VN sl sh lo hi dh):=by
 obtain⟨m1,m2⟩:=QI4 (a:=sl) (m:=1000+dh) (by omega) (by omega) (by omega) (by omega)
 obtain⟨m3,m4⟩:=QI4 (a:=sh) (m:=1000+dh) (by omega) (by omega) (by omega) (by omega)
 rw[w64 (n:=1000+dh) (by omega) (by omega),w64 (n:=sl*_) (by omega) (by omega),w64 (n:=sh*_) (by omega) (by omega),w64 (n:=1000*lo) (by omega) (by omega),w64 (n:=1000*hi) (by omega) (by omega)]
 exact⟨λh=>QZK (qdt h),λh=>QXr (by have:=qdf h;omega)⟩
theorem QCa{sl sh lo hi dl:Int}(h1 : -100000<=sl/\sl<=100000)(h2 : -100000<=sh/\sh<=100000)(h3 : -500<=lo/\lo<=500)(h4 : -500<=hi/\hi<=500)(h5:0<=dl/\dl<=100):
  (decide (i64.wrap (1000*lo)<=i64.wrap (min (max 0 sl) sh*i64.wrap (1000+dl)))=true->decide (i64.wrap (min (max 0 sl) sh*i64.wrap (1000+dl))<=i64.wrap (1000*hi))=JO sl sh lo hi dl) /\
  (decide (i64.wrap (1000*lo)<=i64.wrap (min (max 0 sl) sh*i64.wrap (1000+dl)))=false->false=JO sl sh lo hi dl):=by
 obtain⟨m1,m2⟩:=QI4 (a:=min (max 0 sl) sh) (m:=1000+dl) (by omega) (by omega) (by omega) (by omega)
 rw[w64 (n:=1000+dl) (by omega) (by omega),w64 (n:=min (max 0 sl) sh*_) (by omega) (by omega),w64 (n:=1000*lo) (by omega) (by omega),w64 (n:=1000*hi) (by omega) (by omega)]
 exact⟨λh=>QfX (qdt h),λh=>QWp (by have:=qdf h;omega)⟩
theorem QT2:i64.wrap (1000*0)=0:=by decide
theorem QIS{sl sh hi dh:Int}(h1 : -100000<=sl/\sl<=100000)(h2 : -100000<=sh/\sh<=100000)(h4 : -500<=hi/\hi<=500)(h5:0<=dh/\dh<=100):
  (decide (i64.wrap (sl*i64.wrap (1000+dh))≥0)=true->decide (i64.wrap (sh*i64.wrap (1000+dh))<=i64.wrap (1000*hi))=VN sl sh 0 hi dh) /\
  (decide (i64.wrap (sl*i64.wrap (1000+dh))≥0)=false->false=VN sl sh 0 hi dh):=by
 have:=QE9 (lo:=0) h1 h2 (by omega) h4 h5
 rw[QT2]at this;exact this
theorem QI7{sl sh hi dl:Int}(h1 : -100000<=sl/\sl<=100000)(h2 : -100000<=sh/\sh<=100000)(h4 : -500<=hi/\hi<=500)(h5:0<=dl/\dl<=100):
  (decide (0<=i64.wrap (min (max 0 sl) sh*i64.wrap (1000+dl)))=true->decide (i64.wrap (min (max 0 sl) sh*i64.wrap (1000+dl))<=i64.wrap (1000*hi))=JO sl sh 0 hi dl) /\
  (decide (0<=i64.wrap (min (max 0 sl) sh*i64.wrap (1000+dl)))=false->false=JO sl sh 0 hi dl):=by
 have:=QCa (lo:=0) h1 h2 (by omega) h4 h5
 rw[QT2]at this;exact this
def QEZ:Q4×D×Unit->Bool×AV:=λ|(x,(d,_))=>(decide (x.B/\d.c.B),.bool false (VN d.by_.lo d.by_.hi d.lo d.hi x.p.dK.hi))
def QLm:FC:=Kb (Kh QEZ)
theorem QeC(x:Q4)(c:Q4):KW (mkE prog Wc) (hnd (mkE prog Wc) 0) false f85 (Q3.enc ((x,(D.off c),()):Q4×D×Unit)) [] 0=QC.need (decide c.B) (QC.need (decide c.B) (QC.br (decide (i64.wrap ((JK c.p c.t c.h).lo*i64.wrap ((1000:Int)+x.p.dK.hi))≥i64.wrap ((1000:Int) * -c.p.aK))) (QC.leaf (AV.bool false (decide (i64.wrap ((JK c.p c.t c.h).hi*i64.wrap ((1000:Int)+x.p.dK.hi))<=i64.wrap ((1000:Int)*c.p.aK)))) ([])) (QC.leaf (AV.bool true false) ([])))):=by kernel_rfl
theorem QYE(x:Q4)(c:Q4):KW (mkE prog Wc) (hnd (mkE prog Wc) 0) false f85 (Q3.enc ((x,(D.wide c),()):Q4×D×Unit)) [] 0=QC.need (decide c.B) (QC.need (decide c.B) (QC.br (decide (i64.wrap ((JJ c.t c.h).lo*i64.wrap ((1000:Int)+x.p.dK.hi))≥(0:Int))) (QC.leaf (AV.bool false (decide (i64.wrap ((JJ c.t c.h).hi*i64.wrap ((1000:Int)+x.p.dK.hi))<=i64.wrap ((1000:Int)*c.p.oK)))) ([])) (QC.leaf (AV.bool true false) ([])))):=by kernel_rfl
theorem QfD(x:Q4)(c:Q4):KW (mkE prog Wc) (hnd (mkE prog Wc) 0) false f85 (Q3.enc ((x,(D.deep c),()):Q4×D×Unit)) [] 0=QC.need (decide c.B) (QC.need (decide c.B) (QC.br (decide (i64.wrap ((JG c.t c.h).lo*i64.wrap ((1000:Int)+x.p.dK.hi))≥(0:Int))) (QC.leaf (AV.bool false (decide (i64.wrap ((JG c.t c.h).hi*i64.wrap ((1000:Int)+x.p.dK.hi))<=i64.wrap ((1000:Int)*c.p.oK)))) ([])) (QC.leaf (AV.bool true false) ([])))):=by kernel_rfl
theorem QgY:QS prog 85 QLm:=by
 refine K5 QMc 0 func85 (by kernel_rfl) (by kernel_rfl) ?_
 rintro⟨x,(c|c|c),⟨⟩⟩ hp
 .rw[QeC x c];simp only[QEZ,QC.den,AV.same,AV.sameL,and_true,true_and]at hp ⊢;have hq:=qdt hp;obtain⟨⟨hx,_⟩,hc⟩:=hq;refine⟨qde hc,qde hc,?_⟩;obtain⟨h1,h2,h3⟩:=hc;unfold V8 at h1 hx;unfold Vf at h2 h3;simp only[D.c]at h1 h2 h3
  first
   | (refine QE9 ?_ ?_ ?_ ?_ ?_<;>(try simp only[JK,JJ,JG])<;>omega)
   | (refine QIS ?_ ?_ ?_ ?_<;>(try simp only[JK,JJ,JG])<;>omega)
 .rw[QYE x c];simp only[QEZ,QC.den,AV.same,AV.sameL,and_true,true_and]at hp ⊢;have hq:=qdt hp;obtain⟨⟨hx,_⟩,hc⟩:=hq;refine⟨qde hc,qde hc,?_⟩;obtain⟨h1,h2,h3⟩:=hc;unfold V8 at h1 hx;unfold Vf at h2 h3;simp only[D.c]at h1 h2 h3
  first
   | (refine QE9 ?_ ?_ ?_ ?_ ?_<;>(try simp only[JK,JJ,JG])<;>omega)
   | (refine QIS ?_ ?_ ?_ ?_<;>(try simp only[JK,JJ,JG])<;>omega)
 .rw[QfD x c];simp only[QEZ,QC.den,AV.same,AV.sameL,and_true,true_and]at hp ⊢;have hq:=qdt hp;obtain⟨⟨hx,_⟩,hc⟩:=hq;refine⟨qde hc,qde hc,?_⟩;obtain⟨h1,h2,h3⟩:=hc;unfold V8 at h1 hx;unfold Vf at h2 h3;simp only[D.c]at h1 h2 h3
  first
   | (refine QE9 ?_ ?_ ?_ ?_ ?_<;>(try simp only[JK,JJ,JG])<;>omega)
   | (refine QIS ?_ ?_ ?_ ?_<;>(try simp only[JK,JJ,JG])<;>omega)
def Wr:Tab:=Qa Wc 85 QLm
theorem QLQ:Qd Wr:=QMc.add QgY
def QFN:Q4×D×Unit->Bool×AV:=λ|(x,(d,_))=>(decide (x.B/\d.c.B),.bool false (JO d.by_.lo d.by_.hi d.lo d.hi x.p.dK.lo))
def QRm:FC:=Kb (Kh QFN)
theorem QWx(x:Q4)(c:Q4):KW (mkE prog Wr) (hnd (mkE prog Wr) 0) false f148 (Q3.enc ((x,(D.off c),()):Q4×D×Unit)) [] 0=QC.need (decide c.B) (QC.need (decide c.B) (QC.br (decide (i64.wrap ((1000:Int) * -c.p.aK)<=i64.wrap (min (max (0:Int) (JK c.p c.t c.h).lo) (JK c.p c.t c.h).hi*i64.wrap ((1000:Int)+x.p.dK.lo)))) (QC.leaf (AV.bool false (decide (i64.wrap (min (max (0:Int) (JK c.p c.t c.h).lo) (JK c.p c.t c.h).hi*i64.wrap ((1000:Int)+x.p.dK.lo))<=i64.wrap ((1000:Int)*c.p.aK)))) ([])) (QC.leaf (AV.bool true false) ([])))):=by kernel_rfl
theorem Qbm(x:Q4)(c:Q4):KW (mkE prog Wr) (hnd (mkE prog Wr) 0) false f148 (Q3.enc ((x,(D.wide c),()):Q4×D×Unit)) [] 0=QC.need (decide c.B) (QC.need (decide c.B) (QC.br (decide ((0:Int)<=i64.wrap (min (max (0:Int) (JJ c.t c.h).lo) (JJ c.t c.h).hi*i64.wrap ((1000:Int)+x.p.dK.lo)))) (QC.leaf (AV.bool false (decide (i64.wrap (min (max (0:Int) (JJ c.t c.h).lo) (JJ c.t c.h).hi*i64.wrap ((1000:Int)+x.p.dK.lo))<=i64.wrap ((1000:Int)*c.p.oK)))) ([])) (QC.leaf (AV.bool true false) ([])))):=by kernel_rfl
theorem Qfh(x:Q4)(c:Q4):KW (mkE prog Wr) (hnd (mkE prog Wr) 0) false f148 (Q3.enc ((x,(D.deep c),()):Q4×D×Unit)) [] 0=QC.need (decide c.B) (QC.need (decide c.B) (QC.br (decide ((0:Int)<=i64.wrap (min (max (0:Int) (JG c.t c.h).lo) (JG c.t c.h).hi*i64.wrap ((1000:Int)+x.p.dK.lo)))) (QC.leaf (AV.bool false (decide (i64.wrap (min (max (0:Int) (JG c.t c.h).lo) (JG c.t c.h).hi*i64.wrap ((1000:Int)+x.p.dK.lo))<=i64.wrap ((1000:Int)*c.p.oK)))) ([])) (QC.leaf (AV.bool true false) ([])))):=by kernel_rfl
theorem QZi:QS prog 148 QRm:=by
 refine K5 QLQ 0 func148 (by kernel_rfl) (by kernel_rfl) ?_
 rintro⟨x,(c|c|c),⟨⟩⟩ hp
 .rw[QWx x c];simp only[QFN,QC.den,AV.same,AV.sameL,and_true,true_and]at hp ⊢;have hq:=qdt hp;obtain⟨⟨hx,_⟩,hc⟩:=hq;refine⟨qde hc,qde hc,?_⟩;obtain⟨h1,h2,h3⟩:=hc;unfold V8 at h1 hx;unfold Vf at h2 h3;simp only[D.c]at h1 h2 h3
  first
   | (refine QCa ?_ ?_ ?_ ?_ ?_<;>(try simp only[JK,JJ,JG])<;>omega)
   | (refine QI7 ?_ ?_ ?_ ?_<;>(try simp only[JK,JJ,JG])<;>omega)
 .rw[Qbm x c];simp only[QFN,QC.den,AV.same,AV.sameL,and_true,true_and]at hp ⊢;have hq:=qdt hp;obtain⟨⟨hx,_⟩,hc⟩:=hq;refine⟨qde hc,qde hc,?_⟩;obtain⟨h1,h2,h3⟩:=hc;unfold V8 at h1 hx;unfold Vf at h2 h3;simp only[D.c]at h1 h2 h3
  first
   | (refine QCa ?_ ?_ ?_ ?_ ?_<;>(try simp only[JK,JJ,JG])<;>omega)
   | (refine QI7 ?_ ?_ ?_ ?_<;>(try simp only[JK,JJ,JG])<;>omega)
 .rw[Qfh x c];simp only[QFN,QC.den,AV.same,AV.sameL,and_true,true_and]at hp ⊢;have hq:=qdt hp;obtain⟨⟨hx,_⟩,hc⟩:=hq;refine⟨qde hc,qde hc,?_⟩;obtain⟨h1,h2,h3⟩:=hc;unfold V8 at h1 hx;unfold Vf at h2 h3;simp only[D.c]at h1 h2 h3
  first
   | (refine QCa ?_ ?_ ?_ ?_ ?_<;>(try simp only[JK,JJ,JG])<;>omega)
   | (refine QI7 ?_ ?_ ?_ ?_<;>(try simp only[JK,JJ,JG])<;>omega)
def QCP:Tab:=Qa Wr 148 QRm
theorem QTs:Qd QCP:=QLQ.add QZi
def QKo:Q4×Unit->Bool×AV:=λ|(x,_)=>(decide x.B,vi (ZF x.p x.t x.h))
def QTx:FC:=Kb (Kh QKo)
theorem QWS(x:Q4):KW (mkE prog QCP) (hnd (mkE prog QCP) 14) false f129 (Q3.enc ((x,()):Q4×Unit)) [] 0 = .need (decide (x.B/\(D.off x).c.B)) (.br (!VN (D.off x).by_.lo (D.off x).by_.hi (D.off x).lo (D.off x).hi x.p.dK.hi) (.need (decide (x.B/\(D.off x).c.B)) (.br (!JO (D.off x).by_.lo (D.off x).by_.hi (D.off x).lo (D.off x).hi x.p.dK.lo) (.leaf (vj 0) ([])) (.need (decide (x.B/\(D.wide x).c.B)) (.br (!JO (D.wide x).by_.lo (D.wide x).by_.hi (D.wide x).lo (D.wide x).hi x.p.dK.lo) (.leaf (vj 0) ([])) (.need (decide (x.B/\(D.deep x).c.B)) (.br (!JO (D.deep x).by_.lo (D.deep x).by_.hi (D.deep x).lo (D.deep x).hi x.p.dK.lo) (.leaf (vj 0) ([])) (.leaf (vj 1) ([])))))))) (.need (decide (x.B/\(D.wide x).c.B)) (.br (!VN (D.wide x).by_.lo (D.wide x).by_.hi (D.wide x).lo (D.wide x).hi x.p.dK.hi) (.need (decide (x.B/\(D.off x).c.B)) (.br (!JO (D.off x).by_.lo (D.off x).by_.hi (D.off x).lo (D.off x).hi x.p.dK.lo) (.leaf (vj 0) ([])) (.need (decide (x.B/\(D.wide x).c.B)) (.br (!JO (D.wide x).by_.lo (D.wide x).by_.hi (D.wide x).lo (D.wide x).hi x.p.dK.lo) (.leaf (vj 0) ([])) (.need (decide (x.B/\(D.deep x).c.B)) (.br (!JO (D.deep x).by_.lo (D.deep x).by_.hi (D.deep x).lo (D.deep x).hi x.p.dK.lo) (.leaf (vj 0) ([])) (.leaf (vj 1) ([])))))))) (.need (decide (x.B/\(D.deep x).c.B)) (.br (!VN (D.deep x).by_.lo (D.deep x).by_.hi (D.deep x).lo (D.deep x).hi x.p.dK.hi) (.need (decide (x.B/\(D.off x).c.B)) (.br (!JO (D.off x).by_.lo (D.off x).by_.hi (D.off x).lo (D.off x).hi x.p.dK.lo) (.leaf (vj 0) ([])) (.need (decide (x.B/\(D.wide x).c.B)) (.br (!JO (D.wide x).by_.lo (D.wide x).by_.hi (D.wide x).lo (D.wide x).hi x.p.dK.lo) (.leaf (vj 0) ([])) (.need (decide (x.B/\(D.deep x).c.B)) (.br (!JO (D.deep x).by_.lo (D.deep x).by_.hi (D.deep x).lo (D.deep x).hi x.p.dK.lo) (.leaf (vj 0) ([])) (.leaf (vj 1) ([])))))))) (.leaf (vj 2) ([]))))))):=by kernel_rfl
theorem QZA:QS prog 129 QTx:=by
 refine K5 QTs 14 func129 (by kernel_rfl) (by kernel_rfl) ?_
 rintro⟨x,⟨⟩⟩ hp;rw[QWS x];simp only[QKo,QC.den,AV.same,AV.sameL,and_true,true_and]at hp ⊢;have hB:=qdt hp;have d1:decide (x.B/\(D.off x).c.B)=true:=qde ⟨hB,hB⟩;have d2:decide (x.B/\(D.wide x).c.B)=true:=qde ⟨hB,hB⟩;have d3:decide (x.B/\(D.deep x).c.B)=true:=qde ⟨hB,hB⟩;have a0:VN (D.off x).by_.lo (D.off x).by_.hi (D.off x).lo (D.off x).hi x.p.dK.hi=alw x.p x.t x.h 0:=rfl;have a1:VN (D.wide x).by_.lo (D.wide x).by_.hi (D.wide x).lo (D.wide x).hi x.p.dK.hi=alw x.p x.t x.h 1:=rfl
 have a2:VN (D.deep x).by_.lo (D.deep x).by_.hi (D.deep x).lo (D.deep x).hi x.p.dK.hi=alw x.p x.t x.h 2:=rfl;have b0:JO (D.off x).by_.lo (D.off x).by_.hi (D.off x).lo (D.off x).hi x.p.dK.lo=may x.p x.t x.h 0:=rfl;have b1:JO (D.wide x).by_.lo (D.wide x).by_.hi (D.wide x).lo (D.wide x).hi x.p.dK.lo=may x.p x.t x.h 1:=rfl;have b2:JO (D.deep x).by_.lo (D.deep x).by_.hi (D.deep x).lo (D.deep x).hi x.p.dK.lo=may x.p x.t x.h 2:=rfl;simp only[d1,d2,d3,a0,a1,a2,b0,b1,b2,QRS,true_and]
 cases alw x.p x.t x.h 0<;>cases alw x.p x.t x.h 1<;>cases alw x.p x.t x.h 2<;>cases may x.p x.t x.h 0<;>cases may x.p x.t x.h 1<;>cases may x.p x.t x.h 2<;>simp
def QET:Tab:=Qa QCP 129 QTx
theorem QQ7:Qd QET:=QTs.add QZA
theorem QV8{p:Q0}(h:p.ok=true):V8 p:=by rw[Q0.ok_iff]at h;unfold V8;omega
theorem QPM{e:Edge}(h:e.ok=true)(hk:e.kind=1∨e.kind=2):Vf e:=by rw[Edge.ok_iff]at h;unfold Vf;omega
def okP(p:Q0)(a b:Edge):Bool:=p.ok&&(a.ok&&b.ok)
instance : Enc Gap where
  enc x := .agg [.int false .i64 x.off.lo,.int false .i64 x.off.hi,.int false .i64 x.wide.lo,.int false .i64 x.wide.hi,.int false .i64 x.deep.lo,.int false .i64 x.deep.hi]
  dec | .agg [.int _ .i64 a0,.int _ .i64 a1,.int _ .i64 a2,.int _ .i64 a3,.int _ .i64 a4,.int _ .i64 a5] => some ⟨⟨a0,a1⟩,⟨a2,a3⟩,⟨a4,a5⟩⟩ | _ => none
  ok v x h := by
    split at h <;> (try (cases h; done))
    simp only[qsI]at h; subst h; exact⟨λ_=>rfl,rfl⟩
theorem QP5{p:Q0}{a b:Edge}(h1:p.ok=true)(h2:a.ok=true)(h3:b.ok=true)(ha:a.kind=1)(hb:b.kind=2):Q4.B ⟨p,a,b⟩:=⟨QV8 h1,QPM h2 (.inl ha),QPM h3 (.inr hb)⟩
def Edge.zero:Edge:=⟨0,⟨0,0⟩,⟨0,0⟩,⟨0,0⟩⟩
def QMb(s:Edge)(w:Sp)(n:Int):Prop:=Vf s/\(0<=w.lo/\w.lo<=100/\0<=w.hi/\w.hi<=100)/\0<=n/\n<=20000
instance (s : Edge) (w : Sp) (n : Int) : Decidable (QMb s w n) := by unfold QMb; infer_instance
def QKD:Q0×Edge×Edge×Unit->Bool×AV:=λ|(p,(a,(b,_)))=>(okP p a b,.int false .i64 (Yj p a b))
def QRr:FC:=Kb (Kh QKD)
theorem QZ1(p:Q0)(a:Edge)(b:Edge):KW (mkE prog QET) (hnd (mkE prog QET) 4) false f88 (Q3.enc ((p,a,b,()):Q0×Edge×Edge×Unit)) [] 0=QC.br (a.kind==(2:Int)) (QC.br (b.kind==(1:Int)) (QC.br (a.kind==(2:Int)) (QC.need (decide (Q4.mk p b a).B) (QC.leaf (vi (ZF p b a)) ([]))) (QC.leaf (vj (0:Int)) ([]))) (QC.leaf (vj (0:Int)) ([]))) (QC.br (a.kind==(1:Int)) (QC.br (b.kind==(2:Int)) (QC.need (decide (Q4.mk p a b).B) (QC.leaf (vi (ZF p a b)) ([]))) (QC.leaf (vj (0:Int)) ([]))) (QC.leaf (vj (0:Int)) ([]))):=by kernel_rfl
theorem QfV:QS prog 88 QRr:=by
 refine K5 QQ7 4 func88 (by kernel_rfl) (by kernel_rfl) ?_
 rintro⟨p,a,b,⟨⟩⟩ hp;rw[QZ1 p a b];simp only[QKD,QC.den,AV.same,AV.sameL,and_true,true_and]at hp ⊢;unfold okP at hp;simp only[qbA]at hp;obtain⟨h1,h2,h3⟩:=hp;unfold Yj;simp only[beq_iff_eq,beq_eq_false_iff_ne];refine⟨λha=>⟨λhb=>?_,λhb=>by rw[if_pos ha,if_neg hb]⟩,λha=>⟨λha1=>?_,λha1=>by rw[if_neg ha,if_neg (λh=>ha1 h.1)]⟩⟩
 .refine⟨λ_=>⟨qde (QP5 h1 h3 h2 hb ha),by rw[if_pos ha,if_pos hb]⟩,λh=>absurd ha h⟩
 .refine⟨λhb=>⟨qde (QP5 h1 h2 h3 ha1 hb),by rw[if_neg ha,if_pos ⟨ha1,hb⟩]⟩,λhb=>by rw[if_neg ha,if_neg (λh=>hb h.2)]⟩
def QFJ:Tab:=Qa QET 88 QRr
theorem QOO:Qd QFJ:=QQ7.add QfV
def QMd:Q0×Edge×Edge×Unit->Bool×AV:=λ|(p,(a,(b,_)))=>(true,.tup [.int false .i64 (JA p a b).1,.int false .i64 (JA p a b).2])
def QR7:FC:=Kb (Kh QMd)
theorem QWH(p:Q0)(a:Edge)(b:Edge):KW (mkE prog QFJ) (hnd (mkE prog QFJ) 14) false f39 (Q3.enc ((p,a,b,()):Q0×Edge×Edge×Unit)) [] 0=QC.need (true) (QC.br (!p.ok) (QC.leaf (AV.tup [vj (0:Int),vj (1:Int)]) ([])) (QC.need (true) (QC.br (!a.ok) (QC.leaf (AV.tup [vj (0:Int),vj (1:Int)]) ([])) (QC.need (true) (QC.br (!b.ok) (QC.leaf (AV.tup [vj (0:Int), vj (1:Int)]) ([])) (QC.need (okP p a b) (QC.leaf (AV.tup [vi (Yj p a b),vj (0:Int)]) ([])))))))):=by kernel_rfl
theorem Qdz:QS prog 39 QR7:=by
 refine K5 QOO 14 func39 (by kernel_rfl) (by kernel_rfl) ?_
 rintro⟨p,a,b,⟨⟩⟩ hp;rw[QWH p a b];simp only[QMd,QC.den,AV.same,AV.sameL,and_true,true_and]at hp ⊢;unfold JA okP;cases p.ok<;>cases a.ok<;>cases b.ok<;>simp
def QFM:Tab:=Qa QFJ 39 QR7
theorem QSz:Qd QFM:=QOO.add Qdz
