/- - -/
import Derived.Test.YtekbmehgcofnkaaGreatProg
import Derived.Test.YtekbmehgcofnkaaGreatVm
import Derived.Test.YtekbmehgcofnkaaGreatVn
set_option linter.all false
open Go.Proofs.Tryz
open Go.IntKind (i64)
set_option maxRecDepth 100000
namespace Go.Proofs.YtekbmehgcofnkaaGreat
open Go.SX
theorem QA8:prog.follows .mixedOrders=true:=by kernel_rfl
abbrev Tab:=FuncId->Option FC
def QE9:Tab:=λ_=>none
def Qc(C:Tab)(f:FuncId)(fc:FC):Tab:=λg=>match g==f with
 | true=>some fc
 | false=>C g
def Qf(C:Tab):Prop:=∀ f fc,C f=some fc->QS prog f fc
theorem Qf.add{C:Tab}(h:Qf C){f:FuncId}{fc:FC}(hf:QS prog f fc):Qf (Qc C f fc):=by
 intro g fc' e;unfold Qc at e;split at e
 .rename_i hg;simp only[qsI]at e;subst e;have:g=f:=by simpa using hg
  subst this;exact hf
 .exact h g fc' e
theorem QMy:Qf QE9:=λ_ _ h=>by cases h
instance : Enc Sp where
  enc x := .agg [.int false .i64 x.lo,.int false .i64 x.hi]
  dec | .agg [.int _ .i64 a0,.int _ .i64 a1] => some ⟨a0,a1⟩ | _ => none
  ok v x h := by
    split at h <;> (try (cases h; done))
    simp only[qsI]at h; subst h; exact⟨λ_=>rfl,rfl⟩
instance : Enc Edge where
  enc x := .agg [.int false .i64 x.kind,.int false .i64 x.at_.lo,.int false .i64 x.at_.hi,.int false .i64 x.wide.lo,.int false .i64 x.wide.hi,.int false .i64 x.deep.lo,.int false .i64 x.deep.hi]
  dec | .agg [.int _ .i64 a0,.int _ .i64 a1,.int _ .i64 a2,.int _ .i64 a3,.int _ .i64 a4,.int _ .i64 a5,.int _ .i64 a6] => some ⟨a0,⟨a1,a2⟩,⟨a3,a4⟩,⟨a5,a6⟩⟩ | _ => none
  ok v x h := by
    split at h <;> (try (cases h; done))
    simp only[qsI]at h; subst h; exact⟨λ_=>rfl,rfl⟩
instance : Enc Qx where
  enc x := .agg [.int false .i64 x.length,.int false .i64 x.aK,.int false .i64 x.oK,.int false .i64 x.dK.lo,.int false .i64 x.dK.hi]
  dec | .agg [.int _ .i64 a0,.int _ .i64 a1,.int _ .i64 a2,.int _ .i64 a3,.int _ .i64 a4] => some ⟨a0,a1,a2,⟨a3,a4⟩⟩ | _ => none
  ok v x h := by
    split at h <;> (try (cases h; done))
    simp only[qsI]at h; subst h; exact⟨λ_=>rfl,rfl⟩
structure KB where
 p:Qx
 t:Edge
 h:Edge
inductive D where
 | off (c:KB)
 | wide (c:KB)
 | deep (c:KB)
instance : Enc KB where
  enc x := .agg [.int false .i64 x.p.length,.int false .i64 x.p.aK,.int false .i64 x.p.oK,.int false .i64 x.p.dK.lo,.int false .i64 x.p.dK.hi,
    .int false .i64 x.t.kind,.int false .i64 x.t.at_.lo,.int false .i64 x.t.at_.hi,.int false .i64 x.t.wide.lo,.int false .i64 x.t.wide.hi,.int false .i64 x.t.deep.lo,.int false .i64 x.t.deep.hi,
    .int false .i64 x.h.kind,.int false .i64 x.h.at_.lo,.int false .i64 x.h.at_.hi,.int false .i64 x.h.wide.lo,.int false .i64 x.h.wide.hi,.int false .i64 x.h.deep.lo,.int false .i64 x.h.deep.hi]
  dec | .agg [.int _ .i64 p0,.int _ .i64 p1,.int _ .i64 p2,.int _ .i64 p3,.int _ .i64 p4,
      .int _ .i64 a0,.int _ .i64 a1,.int _ .i64 a2,.int _ .i64 a3,.int _ .i64 a4,.int _ .i64 a5,.int _ .i64 a6,
      .int _ .i64 b0,.int _ .i64 b1,.int _ .i64 b2,.int _ .i64 b3,.int _ .i64 b4,.int _ .i64 b5,.int _ .i64 b6] =>
        some ⟨⟨p0,p1,p2,⟨p3,p4⟩⟩,⟨a0,⟨a1,a2⟩,⟨a3,a4⟩,⟨a5,a6⟩⟩,⟨b0,⟨b1,b2⟩,⟨b3,b4⟩,⟨b5,b6⟩⟩⟩
      | _ => none
  ok v x h := by
    split at h <;> (try (cases h; done))
    simp only[qsI]at h; subst h; exact⟨λ_=>rfl,rfl⟩
instance : Enc D where
  enc | .off c => .ifc 136 (Enc.enc c)
      | .wide c => .ifc 132 (Enc.enc c)
      | .deep c => .ifc 137 (Enc.enc c)
  dec | .ifc t v => match (Enc.dec v : Option KB)with
        | some c => if t = 136 then some (.off c)else if t = 132 then some (.wide c)else if t = 137 then some (.deep c)else none
        | none => none
      | _ => none
  ok v x h := by
    split at h <;> (try (cases h; done))
    split at h <;> (try (cases h; done))
    rename_i t v c hc;have h1 := Enc.ok _ c hc;split at h
    . rename_i e; simp only[qsI]at h; subst h e
      exact⟨λr=>by simp only[AV.den]; rw[h1.1 r],h1.2⟩
    . split at h
      . rename_i e; simp only[qsI]at h; subst h e
        exact⟨λr=>by simp only[AV.den]; rw[h1.1 r],h1.2⟩
      . split at h <;> (try (cases h; done))
        rename_i e; simp only[qsI]at h; subst h e;exact⟨λr=>by simp only[AV.den]; rw[h1.1 r],h1.2⟩
theorem w64{n:Int}(h1 : -9223372036854775808<=n)(h2:n<=9223372036854775807):i64.wrap n=n:=IntWalk.i64_in n ⟨h1,h2⟩
def Vb(e:Edge):Prop:=(0<=e.at_.lo/\e.at_.lo<=10000/\0<=e.at_.hi/\e.at_.hi<=10000)/\(0<=e.wide.lo/\e.wide.lo<=3000/\0<=e.wide.hi/\e.wide.hi<=3000)/\(0<=e.deep.lo/\e.deep.lo<=3000/\0<=e.deep.hi/\e.deep.hi<=3000)
def VQ(p:Qx):Prop:=(1<=p.length/\p.length<=10000)/\(0<=p.aK/\p.aK<=500)/\(0<=p.oK/\p.oK<=500)/\(0<=p.dK.lo/\p.dK.lo<=100)/\0<=p.dK.hi/\p.dK.hi<=100
def KB.B(c:KB):Prop:=VQ c.p/\Vb c.t/\Vb c.h
instance (e : Edge) : Decidable (Vb e) := by unfold Vb; infer_instance
instance (p : Qx) : Decidable (VQ p) := by unfold VQ; infer_instance
instance (c : KB) : Decidable c.B := by unfold KB.B; infer_instance
def D.by_:D->Sp
 | .off c=>Qq c.p c.t c.h
 | .wide c=>Qr c.t c.h
 | .deep c=>Qp c.t c.h
def D.lo:D->Int
 | .off c => -c.p.aK
 | _=>0
def D.hi:D->Int
 | .off c=>c.p.aK
 | .wide c=>c.p.oK
 | .deep c=>c.p.oK
def D.c:D->KB
 | .off c=>c
 | .wide c=>c
 | .deep c=>c
abbrev mkE(P:Program)(C:Tab):Env:=⟨P,C,vE P,false,λ_=>false,false,false,false⟩
theorem QP{C:Tab}(hC:Qf C):(mkE prog C).Sound:={ c:=hC,m:=QCL prog,mixed:=QA8 }
abbrev mkF(P:Program)(C:Tab):Env:=⟨P,C,vE P,false,λ_=>false,false,false,true⟩
theorem KS{C:Tab}(hC:Qf C):(mkF prog C).Sound:={ c:=hC,m:=QCL prog,mixed:=QA8 }
abbrev mkS(P:Program)(C:Tab):Env:=⟨P,C,vE P,true,λ_=>false,false,false,false⟩
theorem Zf{C:Tab}(hC:Qf C):(mkS prog C).Sound:={ c:=hC,m:=QCL prog,mixed:=QA8 }
def binds(fs:List FuncId):Op->Bool
 | .call ⟨.value (.func f),_,_⟩=>fs.contains f
 | .binOp .mul _ _ _ _=>true
 | _=>false
def Qn(fn:Func):Code:=fn.body.getD .skip
theorem K2{C:Tab}(hC:Qf C)(d:Nat){f:FuncId}{fn:Func}(hf:prog.funcs[f]? = some fn)(hb:fn.body=some (Qn fn))(hgo:J8 prog f=true){α:Type}[KL α]{F:α->Bool×AV}(hF:∀ x,(F x).1=true->(KY (mkE prog C) (hnd (mkE prog C) d) false fn (KL.enc x) [] 0).den λu _=>u.same (F x).2):QS prog f (Kj (Ko F)):=
 QKN (QP hC) hf hb hgo (λG _ hG=>Qz (QP hC) d G _ hG) hF
def QQI:Sp×Int×Int×Unit->Bool×AV:=λ|(s,(a,(b,_)))=>(true,.bool false (s.isIn a b))
def QQ7:FC:=Kj (Ko QQI)
theorem QbB(s:Sp)(a:Int)(b:Int):KY (mkE prog QE9) (hnd (mkE prog QE9) 0) false f77 (KL.enc ((s,a,b,()):Sp×Int×Int×Unit)) [] 0=QC.br (decide (a<=s.lo)) (QC.br (decide (s.lo<=s.hi)) (QC.leaf (AV.bool false (decide (s.hi<=b))) ([])) (QC.leaf (AV.bool true false) ([]))) (QC.leaf (AV.bool true false) ([])):=by kernel_rfl
theorem QfE:QS prog 77 QQ7:=by
 refine K2 QMy 0 func77 (by kernel_rfl) (by kernel_rfl) ?_
 rintro⟨s,a,b,⟨⟩⟩ hp;rw[QbB s a b];simp only[QQI,QC.den,AV.same,AV.sameL,and_true,true_and]at hp ⊢
 (repeat' (first|(refine aI ?_ ?_)|(intro _)))<;>simp_all [Sp.isIn]<;>omega
def QEV:Tab:=Qc QE9 77 QQ7
theorem QT4:Qf QEV:=QMy.add QfE
def QMS:Int×Int×Int×Unit->Bool×AV:=λ|(n,(a,(b,_)))=>(true,.bool false (Q1 n a b))
def QNm:FC:=Kj (Ko QMS)
theorem Qhz(n:Int)(a:Int)(b:Int):KY (mkE prog QEV) (hnd (mkE prog QEV) 0) false f87 (KL.enc ((n,a,b,()):Int×Int×Int×Unit)) [] 0=QC.br (decide (a<=n)) (QC.leaf (AV.bool false (decide (n<=b))) ([])) (QC.leaf (AV.bool true false) ([])):=by kernel_rfl
theorem QkC:QS prog 87 QNm:=by
 refine K2 QT4 0 func87 (by kernel_rfl) (by kernel_rfl) ?_
 rintro⟨n,a,b,⟨⟩⟩ hp;rw[Qhz n a b];simp only[QMS,QC.den,AV.same,AV.sameL,and_true,true_and]at hp ⊢
 (repeat' (first|(refine aI ?_ ?_)|(intro _)))<;>simp_all [Q1]<;>omega
def QFB:Tab:=Qc QEV 87 QNm
theorem QM9:Qf QFB:=QT4.add QkC
def QLZ:Edge×Unit->Bool×AV:=λ|(a,_)=>(true,.bool false a.ok)
def QTF:FC:=Kj (Ko QLZ)
theorem QkG(a:Edge):KY (mkE prog QFB) (hnd (mkE prog QFB) 0) false f86 (KL.enc ((a,()):Edge×Unit)) [] 0=QC.br (a.kind==(0:Int)) (QC.leaf (AV.bool true true) ([])) (QC.br (a.kind==(1:Int)) (QC.need (true) (QC.br (a.at_.isIn (0:Int) (10000:Int)) (QC.need (true) (QC.br (a.wide.isIn (1:Int) (3000:Int)) (QC.need (true) (QC.leaf (AV.bool false (a.deep.isIn (1:Int) (3000:Int))) ([]))) (QC.leaf (AV.bool true false) ([])))) (QC.leaf (AV.bool true false) ([])))) (QC.br (a.kind==(2:Int)) (QC.need (true) (QC.br (a.at_.isIn (0:Int) (10000:Int)) (QC.need (true) (QC.br (a.wide.isIn (1:Int) (3000:Int)) (QC.need (true) (QC.leaf (AV.bool false (a.deep.isIn (1:Int) (3000:Int))) ([]))) (QC.leaf (AV.bool true false) ([])))) (QC.leaf (AV.bool true false) ([])))) (QC.leaf (AV.bool true false) ([])))):=by kernel_rfl
theorem Qkk:QS prog 86 QTF:=by
 refine K2 QM9 0 func86 (by kernel_rfl) (by kernel_rfl) ?_
 rintro⟨a,⟨⟩⟩ hp;rw[QkG a];simp only[QLZ,QC.den,AV.same,AV.sameL,and_true,true_and]at hp ⊢
 (repeat' (first|(refine aI ?_ ?_)|(intro _)))<;>simp_all [Edge.ok]
def QDF:Tab:=Qc QFB 86 QTF
theorem QMw:Qf QDF:=QM9.add Qkk
def QQt:Qx×Unit->Bool×AV:=λ|(p,_)=>(true,.bool false p.ok)
def QVq:FC:=Kj (Ko QQt)
theorem QhU(p:Qx):KY (mkE prog QDF) (hnd (mkE prog QDF) 0) false f75 (KL.enc ((p,()):Qx×Unit)) [] 0=QC.need (true) (QC.br (Q1 p.length (1:Int) (10000:Int)) (QC.need (true) (QC.br (Q1 p.aK (0:Int) (500:Int)) (QC.need (true) (QC.br (Q1 p.oK (0:Int) (500:Int)) (QC.need (true) (QC.leaf (AV.bool false (p.dK.isIn (0:Int) (100:Int))) ([]))) (QC.leaf (AV.bool true false) ([])))) (QC.leaf (AV.bool true false) ([])))) (QC.leaf (AV.bool true false) ([]))):=by kernel_rfl
theorem QY9:QS prog 75 QVq:=by
 refine K2 QMw 0 func75 (by kernel_rfl) (by kernel_rfl) ?_
 rintro⟨p,⟨⟩⟩ hp;rw[QhU p];simp only[QQt,QC.den,AV.same,AV.sameL,and_true,true_and]at hp ⊢
 (repeat' (first|(refine aI ?_ ?_)|(intro _)))<;>simp_all [Qx.ok]
def QGi:Tab:=Qc QDF 75 QVq
theorem QTs:Qf QGi:=QMw.add QY9
def QVR:Sp×Sp×Unit->Bool×AV:=λ|(s,(o,_))=>(decide (Sm s.lo/\Sm s.hi/\Sm o.lo/\Sm o.hi),Enc.enc (s.less o))
def QSY:FC:=Kj (Ko QVR)
theorem QX5(s:Sp)(o:Sp):KY (mkE prog QGi) (hnd (mkE prog QGi) 0) false f123 (KL.enc ((s,o,()):Sp×Sp×Unit)) [] 0=QC.leaf (AV.agg [vi (i64.wrap (s.lo-o.hi)),vi (i64.wrap (s.hi-o.lo))]) ([]):=by kernel_rfl
theorem QkY:QS prog 123 QSY:=by
 refine K2 QTs 0 func123 (by kernel_rfl) (by kernel_rfl) ?_
 rintro⟨s,o,⟨⟩⟩ hp;rw[QX5 s o];simp only[QVR,QC.den,AV.same,AV.sameL,and_true,true_and]at hp ⊢;have hp:=qdt hp;unfold Sm at hp;simp only[Sp.less,Enc.enc,AV.same,AV.sameL];rw[w64 (by omega) (by omega),w64 (by omega) (by omega)];simp
def QF8:Tab:=Qc QGi 123 QSY
theorem QTa:Qf QF8:=QTs.add QkY
def QM6:Sp×Sp×Unit->Bool×AV:=λ|(s,(o,_))=>(decide (Sm s.lo/\Sm s.hi/\Sm o.lo/\Sm o.hi),Enc.enc (s.plus o))
def QO0:FC:=Kj (Ko QM6)
theorem Qbp(s:Sp)(o:Sp):KY (mkE prog QF8) (hnd (mkE prog QF8) 0) false f124 (KL.enc ((s,o,()):Sp×Sp×Unit)) [] 0=QC.leaf (AV.agg [vi (i64.wrap (s.lo+o.lo)),vi (i64.wrap (s.hi+o.hi))]) ([]):=by kernel_rfl
theorem QjC:QS prog 124 QO0:=by
 refine K2 QTa 0 func124 (by kernel_rfl) (by kernel_rfl) ?_
 rintro⟨s,o,⟨⟩⟩ hp;rw[Qbp s o];simp only[QM6,QC.den,AV.same,AV.sameL,and_true,true_and]at hp ⊢;have hp:=qdt hp;unfold Sm at hp;simp only[Sp.plus,Enc.enc,AV.same,AV.sameL];rw[w64 (by omega) (by omega),w64 (by omega) (by omega)];simp
def QD6:Tab:=Qc QF8 124 QO0
theorem QLi:Qf QD6:=QTa.add QjC
def QP9:KB×Unit->Bool×AV:=λ|(c,_)=>(decide c.B,Enc.enc (Qq c.p c.t c.h))
def QP1:FC:=Kj (Ko QP9)
theorem Qk7(c:KB):KY (mkE prog QD6) (hnd (mkE prog QD6) 0) false f208 (KL.enc ((c,()):KB×Unit)) [] 0=QC.need (decide (Sm c.t.at_.lo/\Sm c.t.at_.hi/\Sm c.h.at_.lo/\Sm c.h.at_.hi)) (QC.need (decide (Sm (c.t.at_.plus c.h.at_).lo/\Sm (c.t.at_.plus c.h.at_).hi/\Sm (i64.wrap ((0:Int)-c.p.length))/\Sm (i64.wrap ((0:Int)-c.p.length)))) (QC.leaf (AV.agg [vi ((c.t.at_.plus c.h.at_).plus (Sp.mk (i64.wrap ((0:Int)-c.p.length)) (i64.wrap ((0:Int)-c.p.length)))).lo,vi ((c.t.at_.plus c.h.at_).plus (Sp.mk (i64.wrap ((0:Int)-c.p.length)) (i64.wrap ((0:Int)-c.p.length)))).hi]) ([]))):=by kernel_rfl
theorem QYc:QS prog 208 QP1:=by
 refine K2 QLi 0 func208 (by kernel_rfl) (by kernel_rfl) ?_
 rintro⟨c,⟨⟩⟩ hp;rw[Qk7 c];simp only[QP9,QC.den,AV.same,AV.sameL,and_true,true_and]at hp ⊢;have hp:=qdt hp;obtain⟨h1,h2,h3⟩:=hp;unfold VQ at h1;unfold Vb at h2 h3;have e:i64.wrap (0-c.p.length) = -c.p.length:=by rw[w64 (by omega) (by omega)];omega
 rw[e];refine⟨qde (by unfold Sm;omega),qde (by unfold Sm Sp.plus;simp only;omega),?_⟩
 simp[Qq,Sp.plus,Enc.enc,AV.same,AV.sameL]
def QFO:Tab:=Qc QD6 208 QP1
theorem QSn:Qf QFO:=QLi.add QYc
def QN2:KB×Unit->Bool×AV:=λ|(c,_)=>(decide c.B,Enc.enc (Qr c.t c.h))
def QM8:FC:=Kj (Ko QN2)
theorem Qct(c:KB):KY (mkE prog QFO) (hnd (mkE prog QFO) 0) false f83 (KL.enc ((c,()):KB×Unit)) [] 0=QC.need (decide (Sm c.h.wide.lo/\Sm c.h.wide.hi/\Sm c.t.wide.lo/\Sm c.t.wide.hi)) (QC.leaf (AV.agg [vi (c.h.wide.less c.t.wide).lo,vi (c.h.wide.less c.t.wide).hi]) ([])):=by kernel_rfl
theorem Qet:QS prog 83 QM8:=by
 refine K2 QSn 0 func83 (by kernel_rfl) (by kernel_rfl) ?_
 rintro⟨c,⟨⟩⟩ hp;rw[Qct c];simp only[QN2,QC.den,AV.same,AV.sameL,and_true,true_and]at hp ⊢;have hp:=qdt hp;obtain⟨h1,h2,h3⟩:=hp;unfold VQ at h1;unfold Vb at h2 h3;refine⟨qde (by unfold Sm;omega),?_⟩
 simp[Qr,Sp.less,Enc.enc,AV.same,AV.sameL]
def QGe:Tab:=Qc QFO 83 QM8
theorem QOc:Qf QGe:=QSn.add Qet
def QUL:KB×Unit->Bool×AV:=λ|(c,_)=>(decide c.B,Enc.enc (Qp c.t c.h))
def QQj:FC:=Kj (Ko QUL)
theorem Qfl(c:KB):KY (mkE prog QGe) (hnd (mkE prog QGe) 0) false f210 (KL.enc ((c,()):KB×Unit)) [] 0=QC.need (decide (Sm c.h.deep.lo/\Sm c.h.deep.hi/\Sm c.t.deep.lo/\Sm c.t.deep.hi)) (QC.leaf (AV.agg [vi (c.h.deep.less c.t.deep).lo,vi (c.h.deep.less c.t.deep).hi]) ([])):=by kernel_rfl
theorem QWw:QS prog 210 QQj:=by
 refine K2 QOc 0 func210 (by kernel_rfl) (by kernel_rfl) ?_
 rintro⟨c,⟨⟩⟩ hp;rw[Qfl c];simp only[QUL,QC.den,AV.same,AV.sameL,and_true,true_and]at hp ⊢;have hp:=qdt hp;obtain⟨h1,h2,h3⟩:=hp;unfold VQ at h1;unfold Vb at h2 h3;refine⟨qde (by unfold Sm;omega),?_⟩
 simp[Qp,Sp.less,Enc.enc,AV.same,AV.sameL]
def QE1:Tab:=Qc QGe 210 QQj
theorem QWI:Qf QE1:=QOc.add QWw
def QUc:KB×Unit->Bool×AV:=λ|(c,_)=>(decide c.B,.tup [.int false .i64 (-c.p.aK),.int false .i64 c.p.aK])
def QQ0:FC:=Kj (Ko QUc)
theorem Qkv(c:KB):KY (mkE prog QE1) (hnd (mkE prog QE1) 0) false f207 (KL.enc ((c,()):KB×Unit)) [] 0=QC.leaf (AV.tup [vi (i64.wrap ((0:Int)-c.p.aK)),vi c.p.aK]) ([]):=by kernel_rfl
theorem QgA:QS prog 207 QQ0:=by
 refine K2 QWI 0 func207 (by kernel_rfl) (by kernel_rfl) ?_
 rintro⟨c,⟨⟩⟩ hp;rw[Qkv c];simp only[QUc,QC.den,AV.same,AV.sameL,and_true,true_and]at hp ⊢;have hp:=qdt hp;obtain⟨h1,h2,h3⟩:=hp;unfold VQ at h1;rw[w64 (by omega) (by omega)];omega
def QEc:Tab:=Qc QE1 207 QQ0
theorem QWD:Qf QEc:=QWI.add QgA
def QSz:KB×Unit->Bool×AV:=λ|(c,_)=>(decide c.B,.tup [.int false .i64 0,.int false .i64 c.p.oK])
def QLc:FC:=Kj (Ko QSz)
theorem Qk3(c:KB):KY (mkE prog QEc) (hnd (mkE prog QEc) 0) false f206 (KL.enc ((c,()):KB×Unit)) [] 0=QC.leaf (AV.tup [vj (0:Int),vi c.p.oK]) ([]):=by kernel_rfl
theorem Qch:QS prog 206 QLc:=by
 refine K2 QWD 0 func206 (by kernel_rfl) (by kernel_rfl) ?_
 rintro⟨c,⟨⟩⟩ hp;rw[Qk3 c];simp only[QSz,QC.den,AV.same,AV.sameL,and_true,true_and]at hp ⊢
def QGW:Tab:=Qc QEc 206 QLc
theorem QQ8:Qf QGW:=QWD.add Qch
def QV0:KB×Unit->Bool×AV:=λ|(c,_)=>(decide c.B,.tup [.int false .i64 0,.int false .i64 c.p.oK])
def QVH:FC:=Kj (Ko QV0)
theorem QbN(c:KB):KY (mkE prog QGW) (hnd (mkE prog QGW) 0) false f209 (KL.enc ((c,()):KB×Unit)) [] 0=QC.leaf (AV.tup [vj (0:Int),vi c.p.oK]) ([]):=by kernel_rfl
theorem QW6:QS prog 209 QVH:=by
 refine K2 QQ8 0 func209 (by kernel_rfl) (by kernel_rfl) ?_
 rintro⟨c,⟨⟩⟩ hp;rw[QbN c];simp only[QV0,QC.den,AV.same,AV.sameL,and_true,true_and]at hp ⊢
def qP:Tab:=Qc QGW 209 QVH
theorem QLu:Qf qP:=QQ8.add QW6
theorem QA7{sl sh lo hi dh:Int}(h1 : -100000<=sl/\sl<=100000)(h2 : -100000<=sh/\sh<=100000)(h3 : -500<=lo/\lo<=500)(h4 : -500<=hi/\hi<=500)(h5:0<=dh/\dh<=100):
  (decide (i64.wrap (sl*i64.wrap (1000+dh))≥i64.wrap (1000*lo))=true->decide (i64.wrap (sh*i64.wrap (1000+dh))<=i64.wrap (1000*hi))=Kx sl sh lo hi dh) /\
  (decide (i64.wrap (sl*i64.wrap (1000+dh))≥i64.wrap (1000*lo))=false->false=Kx sl sh lo hi dh):=by
 obtain⟨m1,m2⟩:=H3 (a:=sl) (m:=1000+dh) (by omega) (by omega) (by omega) (by omega)
 obtain⟨m3,m4⟩:=H3 (a:=sh) (m:=1000+dh) (by omega) (by omega) (by omega) (by omega)
 rw[w64 (n:=1000+dh) (by omega) (by omega),w64 (n:=sl*_) (by omega) (by omega),w64 (n:=sh*_) (by omega) (by omega),w64 (n:=1000*lo) (by omega) (by omega),w64 (n:=1000*hi) (by omega) (by omega)]
 exact⟨λh=>QjJ (qdt h),λh=>Qaj (by have:=qdf h;omega)⟩
theorem QFV{sl sh lo hi dl:Int}(h1 : -100000<=sl/\sl<=100000)(h2 : -100000<=sh/\sh<=100000)(h3 : -500<=lo/\lo<=500)(h4 : -500<=hi/\hi<=500)(h5:0<=dl/\dl<=100):
  (decide (i64.wrap (1000*lo)<=i64.wrap (min (max 0 sl) sh*i64.wrap (1000+dl)))=true->decide (i64.wrap (min (max 0 sl) sh*i64.wrap (1000+dl))<=i64.wrap (1000*hi))=Q4 sl sh lo hi dl) /\
  (decide (i64.wrap (1000*lo)<=i64.wrap (min (max 0 sl) sh*i64.wrap (1000+dl)))=false->false=Q4 sl sh lo hi dl):=by
 obtain⟨m1,m2⟩:=H3 (a:=min (max 0 sl) sh) (m:=1000+dl) (by omega) (by omega) (by omega) (by omega)
 rw[w64 (n:=1000+dl) (by omega) (by omega),w64 (n:=min (max 0 sl) sh*_) (by omega) (by omega),w64 (n:=1000*lo) (by omega) (by omega),w64 (n:=1000*hi) (by omega) (by omega)]
 exact⟨λh=>Qip (qdt h),λh=>QXI (by have:=qdf h;omega)⟩
theorem QMP:i64.wrap (1000*0)=0:=by decide
theorem QKQ{sl sh hi dh:Int}(h1 : -100000<=sl/\sl<=100000)(h2 : -100000<=sh/\sh<=100000)(h4 : -500<=hi/\hi<=500)(h5:0<=dh/\dh<=100):
  (decide (i64.wrap (sl*i64.wrap (1000+dh))≥0)=true->decide (i64.wrap (sh*i64.wrap (1000+dh))<=i64.wrap (1000*hi))=Kx sl sh 0 hi dh) /\
  (decide (i64.wrap (sl*i64.wrap (1000+dh))≥0)=false->false=Kx sl sh 0 hi dh):=by
 have:=QA7 (lo:=0) h1 h2 (by omega) h4 h5
 rw[QMP]at this;exact this
theorem QJx{sl sh hi dl:Int}(h1 : -100000<=sl/\sl<=100000)(h2 : -100000<=sh/\sh<=100000)(h4 : -500<=hi/\hi<=500)(h5:0<=dl/\dl<=100):
  (decide (0<=i64.wrap (min (max 0 sl) sh*i64.wrap (1000+dl)))=true->decide (i64.wrap (min (max 0 sl) sh*i64.wrap (1000+dl))<=i64.wrap (1000*hi))=Q4 sl sh 0 hi dl) /\
  (decide (0<=i64.wrap (min (max 0 sl) sh*i64.wrap (1000+dl)))=false->false=Q4 sl sh 0 hi dl):=by
 have:=QFV (lo:=0) h1 h2 (by omega) h4 h5
 rw[QMP]at this;exact this
def QGC:KB×D×Unit->Bool×AV:=λ|(x,(d,_))=>(decide (x.B/\d.c.B),.bool false (Kx d.by_.lo d.by_.hi d.lo d.hi x.p.dK.hi))
def QV1:FC:=Kj (Ko QGC)
theorem Qcm(x:KB)(c:KB):KY (mkE prog qP) (hnd (mkE prog qP) 0) false f85 (KL.enc ((x,(D.off c),()):KB×D×Unit)) [] 0=QC.need (decide c.B) (QC.need (decide c.B) (QC.br (decide (i64.wrap ((Qq c.p c.t c.h).lo*i64.wrap ((1000:Int)+x.p.dK.hi))≥i64.wrap ((1000:Int) * -c.p.aK))) (QC.leaf (AV.bool false (decide (i64.wrap ((Qq c.p c.t c.h).hi*i64.wrap ((1000:Int)+x.p.dK.hi))<=i64.wrap ((1000:Int)*c.p.aK)))) ([])) (QC.leaf (AV.bool true false) ([])))):=by kernel_rfl
theorem QZI(x:KB)(c:KB):KY (mkE prog qP) (hnd (mkE prog qP) 0) false f85 (KL.enc ((x,(D.wide c),()):KB×D×Unit)) [] 0=QC.need (decide c.B) (QC.need (decide c.B) (QC.br (decide (i64.wrap ((Qr c.t c.h).lo*i64.wrap ((1000:Int)+x.p.dK.hi))≥(0:Int))) (QC.leaf (AV.bool false (decide (i64.wrap ((Qr c.t c.h).hi*i64.wrap ((1000:Int)+x.p.dK.hi))<=i64.wrap ((1000:Int)*c.p.oK)))) ([])) (QC.leaf (AV.bool true false) ([])))):=by kernel_rfl
theorem QcL(x:KB)(c:KB):KY (mkE prog qP) (hnd (mkE prog qP) 0) false f85 (KL.enc ((x,(D.deep c),()):KB×D×Unit)) [] 0=QC.need (decide c.B) (QC.need (decide c.B) (QC.br (decide (i64.wrap ((Qp c.t c.h).lo*i64.wrap ((1000:Int)+x.p.dK.hi))≥(0:Int))) (QC.leaf (AV.bool false (decide (i64.wrap ((Qp c.t c.h).hi*i64.wrap ((1000:Int)+x.p.dK.hi))<=i64.wrap ((1000:Int)*c.p.oK)))) ([])) (QC.leaf (AV.bool true false) ([])))):=by kernel_rfl
theorem QeU:QS prog 85 QV1:=by
 refine K2 QLu 0 func85 (by kernel_rfl) (by kernel_rfl) ?_
 rintro⟨x,(c|c|c),⟨⟩⟩ hp
 .rw[Qcm x c];simp only[QGC,QC.den,AV.same,AV.sameL,and_true,true_and]at hp ⊢;have hq:=qdt hp;obtain⟨⟨hx,_⟩,hc⟩:=hq;refine⟨qde hc,qde hc,?_⟩;obtain⟨h1,h2,h3⟩:=hc;unfold VQ at h1 hx;unfold Vb at h2 h3;simp only[D.c]at h1 h2 h3
  first
   | (refine QA7 ?_ ?_ ?_ ?_ ?_<;>(try simp only[Qq,Qr,Qp])<;>omega)
   | (refine QKQ ?_ ?_ ?_ ?_<;>(try simp only[Qq,Qr,Qp])<;>omega)
 .rw[QZI x c];simp only[QGC,QC.den,AV.same,AV.sameL,and_true,true_and]at hp ⊢;have hq:=qdt hp;obtain⟨⟨hx,_⟩,hc⟩:=hq;refine⟨qde hc,qde hc,?_⟩;obtain⟨h1,h2,h3⟩:=hc;unfold VQ at h1 hx;unfold Vb at h2 h3;simp only[D.c]at h1 h2 h3
  first
   | (refine QA7 ?_ ?_ ?_ ?_ ?_<;>(try simp only[Qq,Qr,Qp])<;>omega)
   | (refine QKQ ?_ ?_ ?_ ?_<;>(try simp only[Qq,Qr,Qp])<;>omega)
 .rw[QcL x c];simp only[QGC,QC.den,AV.same,AV.sameL,and_true,true_and]at hp ⊢;have hq:=qdt hp;obtain⟨⟨hx,_⟩,hc⟩:=hq;refine⟨qde hc,qde hc,?_⟩;obtain⟨h1,h2,h3⟩:=hc;unfold VQ at h1 hx;unfold Vb at h2 h3;simp only[D.c]at h1 h2 h3
  first
   | (refine QA7 ?_ ?_ ?_ ?_ ?_<;>(try simp only[Qq,Qr,Qp])<;>omega)
   | (refine QKQ ?_ ?_ ?_ ?_<;>(try simp only[Qq,Qr,Qp])<;>omega)
def qy:Tab:=Qc qP 85 QV1
theorem QPW:Qf qy:=QLu.add QeU
def QGI:KB×D×Unit->Bool×AV:=λ|(x,(d,_))=>(decide (x.B/\d.c.B),.bool false (Q4 d.by_.lo d.by_.hi d.lo d.hi x.p.dK.lo))
def QPf:FC:=Kj (Ko QGI)
theorem QWf(x:KB)(c:KB):KY (mkE prog qy) (hnd (mkE prog qy) 0) false f148 (KL.enc ((x,(D.off c),()):KB×D×Unit)) [] 0=QC.need (decide c.B) (QC.need (decide c.B) (QC.br (decide (i64.wrap ((1000:Int) * -c.p.aK)<=i64.wrap (min (max (0:Int) (Qq c.p c.t c.h).lo) (Qq c.p c.t c.h).hi*i64.wrap ((1000:Int)+x.p.dK.lo)))) (QC.leaf (AV.bool false (decide (i64.wrap (min (max (0:Int) (Qq c.p c.t c.h).lo) (Qq c.p c.t c.h).hi*i64.wrap ((1000:Int)+x.p.dK.lo))<=i64.wrap ((1000:Int)*c.p.aK)))) ([])) (QC.leaf (AV.bool true false) ([])))):=by kernel_rfl
theorem QXz(x:KB)(c:KB):KY (mkE prog qy) (hnd (mkE prog qy) 0) false f148 (KL.enc ((x,(D.wide c),()):KB×D×Unit)) [] 0=QC.need (decide c.B) (QC.need (decide c.B) (QC.br (decide ((0:Int)<=i64.wrap (min (max (0:Int) (Qr c.t c.h).lo) (Qr c.t c.h).hi*i64.wrap ((1000:Int)+x.p.dK.lo)))) (QC.leaf (AV.bool false (decide (i64.wrap (min (max (0:Int) (Qr c.t c.h).lo) (Qr c.t c.h).hi*i64.wrap ((1000:Int)+x.p.dK.lo))<=i64.wrap ((1000:Int)*c.p.oK)))) ([])) (QC.leaf (AV.bool true false) ([])))):=by kernel_rfl
theorem QYM(x:KB)(c:KB):KY (mkE prog qy) (hnd (mkE prog qy) 0) false f148 (KL.enc ((x,(D.deep c),()):KB×D×Unit)) [] 0=QC.need (decide c.B) (QC.need (decide c.B) (QC.br (decide ((0:Int)<=i64.wrap (min (max (0:Int) (Qp c.t c.h).lo) (Qp c.t c.h).hi*i64.wrap ((1000:Int)+x.p.dK.lo)))) (QC.leaf (AV.bool false (decide (i64.wrap (min (max (0:Int) (Qp c.t c.h).lo) (Qp c.t c.h).hi*i64.wrap ((1000:Int)+x.p.dK.lo))<=i64.wrap ((1000:Int)*c.p.oK)))) ([])) (QC.leaf (AV.bool true false) ([])))):=by kernel_rfl
theorem QXa:QS prog 148 QPf:=by
 refine K2 QPW 0 func148 (by kernel_rfl) (by kernel_rfl) ?_
 rintro⟨x,(c|c|c),⟨⟩⟩ hp
 .rw[QWf x c];simp only[QGI,QC.den,AV.same,AV.sameL,and_true,true_and]at hp ⊢;have hq:=qdt hp;obtain⟨⟨hx,_⟩,hc⟩:=hq;refine⟨qde hc,qde hc,?_⟩;obtain⟨h1,h2,h3⟩:=hc;unfold VQ at h1 hx;unfold Vb at h2 h3;simp only[D.c]at h1 h2 h3
  first
   | (refine QFV ?_ ?_ ?_ ?_ ?_<;>(try simp only[Qq,Qr,Qp])<;>omega)
   | (refine QJx ?_ ?_ ?_ ?_<;>(try simp only[Qq,Qr,Qp])<;>omega)
 .rw[QXz x c];simp only[QGI,QC.den,AV.same,AV.sameL,and_true,true_and]at hp ⊢;have hq:=qdt hp;obtain⟨⟨hx,_⟩,hc⟩:=hq;refine⟨qde hc,qde hc,?_⟩;obtain⟨h1,h2,h3⟩:=hc;unfold VQ at h1 hx;unfold Vb at h2 h3;simp only[D.c]at h1 h2 h3
  first
   | (refine QFV ?_ ?_ ?_ ?_ ?_<;>(try simp only[Qq,Qr,Qp])<;>omega)
   | (refine QJx ?_ ?_ ?_ ?_<;>(try simp only[Qq,Qr,Qp])<;>omega)
 .rw[QYM x c];simp only[QGI,QC.den,AV.same,AV.sameL,and_true,true_and]at hp ⊢;have hq:=qdt hp;obtain⟨⟨hx,_⟩,hc⟩:=hq;refine⟨qde hc,qde hc,?_⟩;obtain⟨h1,h2,h3⟩:=hc;unfold VQ at h1 hx;unfold Vb at h2 h3;simp only[D.c]at h1 h2 h3
  first
   | (refine QFV ?_ ?_ ?_ ?_ ?_<;>(try simp only[Qq,Qr,Qp])<;>omega)
   | (refine QJx ?_ ?_ ?_ ?_<;>(try simp only[Qq,Qr,Qp])<;>omega)
def QF2:Tab:=Qc qy 148 QPf
theorem QWE:Qf QF2:=QPW.add QXa
def QMl:KB×Unit->Bool×AV:=λ|(x,_)=>(decide x.B,vi (ZT x.p x.t x.h))
def QTR:FC:=Kj (Ko QMl)
theorem QZG(x:KB):KY (mkE prog QF2) (hnd (mkE prog QF2) 14) false f129 (KL.enc ((x,()):KB×Unit)) [] 0 = .need (decide (x.B/\(D.off x).c.B)) (.br (!Kx (D.off x).by_.lo (D.off x).by_.hi (D.off x).lo (D.off x).hi x.p.dK.hi) (.need (decide (x.B/\(D.off x).c.B)) (.br (!Q4 (D.off x).by_.lo (D.off x).by_.hi (D.off x).lo (D.off x).hi x.p.dK.lo) (.leaf (vj 0) ([])) (.need (decide (x.B/\(D.wide x).c.B)) (.br (!Q4 (D.wide x).by_.lo (D.wide x).by_.hi (D.wide x).lo (D.wide x).hi x.p.dK.lo) (.leaf (vj 0) ([])) (.need (decide (x.B/\(D.deep x).c.B)) (.br (!Q4 (D.deep x).by_.lo (D.deep x).by_.hi (D.deep x).lo (D.deep x).hi x.p.dK.lo) (.leaf (vj 0) ([])) (.leaf (vj 1) ([])))))))) (.need (decide (x.B/\(D.wide x).c.B)) (.br (!Kx (D.wide x).by_.lo (D.wide x).by_.hi (D.wide x).lo (D.wide x).hi x.p.dK.hi) (.need (decide (x.B/\(D.off x).c.B)) (.br (!Q4 (D.off x).by_.lo (D.off x).by_.hi (D.off x).lo (D.off x).hi x.p.dK.lo) (.leaf (vj 0) ([])) (.need (decide (x.B/\(D.wide x).c.B)) (.br (!Q4 (D.wide x).by_.lo (D.wide x).by_.hi (D.wide x).lo (D.wide x).hi x.p.dK.lo) (.leaf (vj 0) ([])) (.need (decide (x.B/\(D.deep x).c.B)) (.br (!Q4 (D.deep x).by_.lo (D.deep x).by_.hi (D.deep x).lo (D.deep x).hi x.p.dK.lo) (.leaf (vj 0) ([])) (.leaf (vj 1) ([])))))))) (.need (decide (x.B/\(D.deep x).c.B)) (.br (!Kx (D.deep x).by_.lo (D.deep x).by_.hi (D.deep x).lo (D.deep x).hi x.p.dK.hi) (.need (decide (x.B/\(D.off x).c.B)) (.br (!Q4 (D.off x).by_.lo (D.off x).by_.hi (D.off x).lo (D.off x).hi x.p.dK.lo) (.leaf (vj 0) ([])) (.need (decide (x.B/\(D.wide x).c.B)) (.br (!Q4 (D.wide x).by_.lo (D.wide x).by_.hi (D.wide x).lo (D.wide x).hi x.p.dK.lo) (.leaf (vj 0) ([])) (.need (decide (x.B/\(D.deep x).c.B)) (.br (!Q4 (D.deep x).by_.lo (D.deep x).by_.hi (D.deep x).lo (D.deep x).hi x.p.dK.lo) (.leaf (vj 0) ([])) (.leaf (vj 1) ([])))))))) (.leaf (vj 2) ([]))))))):=by kernel_rfl
theorem QbC:QS prog 129 QTR:=by
 refine K2 QWE 14 func129 (by kernel_rfl) (by kernel_rfl) ?_
 rintro⟨x,⟨⟩⟩ hp;rw[QZG x];simp only[QMl,QC.den,AV.same,AV.sameL,and_true,true_and]at hp ⊢;have hB:=qdt hp;have d1:decide (x.B/\(D.off x).c.B)=true:=qde ⟨hB,hB⟩;have d2:decide (x.B/\(D.wide x).c.B)=true:=qde ⟨hB,hB⟩;have d3:decide (x.B/\(D.deep x).c.B)=true:=qde ⟨hB,hB⟩;have a0:Kx (D.off x).by_.lo (D.off x).by_.hi (D.off x).lo (D.off x).hi x.p.dK.hi=alw x.p x.t x.h 0:=rfl;have a1:Kx (D.wide x).by_.lo (D.wide x).by_.hi (D.wide x).lo (D.wide x).hi x.p.dK.hi=alw x.p x.t x.h 1:=rfl
 have a2:Kx (D.deep x).by_.lo (D.deep x).by_.hi (D.deep x).lo (D.deep x).hi x.p.dK.hi=alw x.p x.t x.h 2:=rfl;have b0:Q4 (D.off x).by_.lo (D.off x).by_.hi (D.off x).lo (D.off x).hi x.p.dK.lo=may x.p x.t x.h 0:=rfl;have b1:Q4 (D.wide x).by_.lo (D.wide x).by_.hi (D.wide x).lo (D.wide x).hi x.p.dK.lo=may x.p x.t x.h 1:=rfl;have b2:Q4 (D.deep x).by_.lo (D.deep x).by_.hi (D.deep x).lo (D.deep x).hi x.p.dK.lo=may x.p x.t x.h 2:=rfl;simp only[d1,d2,d3,a0,a1,a2,b0,b1,b2,QEB,true_and]
 cases alw x.p x.t x.h 0<;>cases alw x.p x.t x.h 1<;>cases alw x.p x.t x.h 2<;>cases may x.p x.t x.h 0<;>cases may x.p x.t x.h 1<;>cases may x.p x.t x.h 2<;>simp
def QFD:Tab:=Qc QF2 129 QTR
theorem QV6:Qf QFD:=QWE.add QbC
theorem QZm{p:Qx}(h:p.ok=true):VQ p:=by rw[Qx.ok_iff]at h;unfold VQ;omega
theorem QQu{e:Edge}(h:e.ok=true)(hk:e.kind=1∨e.kind=2):Vb e:=by rw[Edge.ok_iff]at h;unfold Vb;omega
def okP(p:Qx)(a b:Edge):Bool:=p.ok&&(a.ok&&b.ok)
instance : Enc Gap where
  enc x := .agg [.int false .i64 x.off.lo,.int false .i64 x.off.hi,.int false .i64 x.wide.lo,.int false .i64 x.wide.hi,.int false .i64 x.deep.lo,.int false .i64 x.deep.hi]
  dec | .agg [.int _ .i64 a0,.int _ .i64 a1,.int _ .i64 a2,.int _ .i64 a3,.int _ .i64 a4,.int _ .i64 a5] => some ⟨⟨a0,a1⟩,⟨a2,a3⟩,⟨a4,a5⟩⟩ | _ => none
  ok v x h := by
    split at h <;> (try (cases h; done))
    simp only[qsI]at h; subst h; exact⟨λ_=>rfl,rfl⟩
theorem QLK{p:Qx}{a b:Edge}(h1:p.ok=true)(h2:a.ok=true)(h3:b.ok=true)(ha:a.kind=1)(hb:b.kind=2):KB.B ⟨p,a,b⟩:=⟨QZm h1,QQu h2 (.inl ha),QQu h3 (.inr hb)⟩
def Edge.zero:Edge:=⟨0,⟨0,0⟩,⟨0,0⟩,⟨0,0⟩⟩
def QVU(s:Edge)(w:Sp)(n:Int):Prop:=Vb s/\(0<=w.lo/\w.lo<=100/\0<=w.hi/\w.hi<=100)/\0<=n/\n<=20000
instance (s : Edge) (w : Sp) (n : Int) : Decidable (QVU s w n) := by unfold QVU; infer_instance
def QQc:Qx×Edge×Edge×Unit->Bool×AV:=λ|(p,(a,(b,_)))=>(okP p a b,.int false .i64 (Y7 p a b))
def QO4:FC:=Kj (Ko QQc)
theorem QeA(p:Qx)(a:Edge)(b:Edge):KY (mkE prog QFD) (hnd (mkE prog QFD) 4) false f88 (KL.enc ((p,a,b,()):Qx×Edge×Edge×Unit)) [] 0=QC.br (a.kind==(2:Int)) (QC.br (b.kind==(1:Int)) (QC.br (a.kind==(2:Int)) (QC.need (decide (KB.mk p b a).B) (QC.leaf (vi (ZT p b a)) ([]))) (QC.leaf (vj (0:Int)) ([]))) (QC.leaf (vj (0:Int)) ([]))) (QC.br (a.kind==(1:Int)) (QC.br (b.kind==(2:Int)) (QC.need (decide (KB.mk p a b).B) (QC.leaf (vi (ZT p a b)) ([]))) (QC.leaf (vj (0:Int)) ([]))) (QC.leaf (vj (0:Int)) ([]))):=by kernel_rfl
theorem QeV:QS prog 88 QO4:=by
 refine K2 QV6 4 func88 (by kernel_rfl) (by kernel_rfl) ?_
 rintro⟨p,a,b,⟨⟩⟩ hp;rw[QeA p a b];simp only[QQc,QC.den,AV.same,AV.sameL,and_true,true_and]at hp ⊢;unfold okP at hp;simp only[qbA]at hp;obtain⟨h1,h2,h3⟩:=hp;unfold Y7;simp only[beq_iff_eq,beq_eq_false_iff_ne];refine⟨λha=>⟨λhb=>?_,λhb=>by rw[if_pos ha,if_neg hb]⟩,λha=>⟨λha1=>?_,λha1=>by rw[if_neg ha,if_neg (λh=>ha1 h.1)]⟩⟩
 .refine⟨λ_=>⟨qde (QLK h1 h3 h2 hb ha),by rw[if_pos ha,if_pos hb]⟩,λh=>absurd ha h⟩
 .refine⟨λhb=>⟨qde (QLK h1 h2 h3 ha1 hb),by rw[if_neg ha,if_pos ⟨ha1,hb⟩]⟩,λhb=>by rw[if_neg ha,if_neg (λh=>hb h.2)]⟩
def QDQ:Tab:=Qc QFD 88 QO4
theorem QQ3:Qf QDQ:=QV6.add QeV
def QQa:Qx×Edge×Edge×Unit->Bool×AV:=λ|(p,(a,(b,_)))=>(true,.tup [.int false .i64 (JN p a b).1,.int false .i64 (JN p a b).2])
def QPo:FC:=Kj (Ko QQa)
theorem Qi7(p:Qx)(a:Edge)(b:Edge):KY (mkE prog QDQ) (hnd (mkE prog QDQ) 14) false f39 (KL.enc ((p,a,b,()):Qx×Edge×Edge×Unit)) [] 0=QC.need (true) (QC.br (!p.ok) (QC.leaf (AV.tup [vj (0:Int),vj (1:Int)]) ([])) (QC.need (true) (QC.br (!a.ok) (QC.leaf (AV.tup [vj (0:Int),vj (1:Int)]) ([])) (QC.need (true) (QC.br (!b.ok) (QC.leaf (AV.tup [vj (0:Int), vj (1:Int)]) ([])) (QC.need (okP p a b) (QC.leaf (AV.tup [vi (Y7 p a b),vj (0:Int)]) ([])))))))):=by kernel_rfl
theorem QYk:QS prog 39 QPo:=by
 refine K2 QQ3 14 func39 (by kernel_rfl) (by kernel_rfl) ?_
 rintro⟨p,a,b,⟨⟩⟩ hp;rw[Qi7 p a b];simp only[QQa,QC.den,AV.same,AV.sameL,and_true,true_and]at hp ⊢;unfold JN okP;cases p.ok<;>cases a.ok<;>cases b.ok<;>simp
def QD4:Tab:=Qc QDQ 39 QPo
theorem QRq:Qf QD4:=QQ3.add QYk
