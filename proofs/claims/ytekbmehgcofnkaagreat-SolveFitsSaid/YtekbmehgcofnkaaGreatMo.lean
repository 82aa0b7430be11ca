/- - -/
import Derived.Test.YtekbmehgcofnkaaGreatProg
import Derived.Test.YtekbmehgcofnkaaGreatMm
import Derived.Test.YtekbmehgcofnkaaGreatMn
import Derived.KernelRfl
open Go.Proofs.Tryz
open Go.IntKind (i64)
set_option maxRecDepth 100000
namespace Go.Proofs.YtekbmehgcofnkaaGreat
open Go.SX
theorem QAR:prog.follows .mixedOrders=true:=by kernel_rfl
abbrev Tab:=FuncId->Option FC
def QDv:Tab:=λ_=>none
def Qa(C:Tab)(f:FuncId)(fc:FC):Tab:=λg=>match g==f with
 | true=>some fc
 | false=>C g
def Qc(C:Tab):Prop:=∀ f fc,C f=some fc->QR prog f fc
theorem Qc.add{C:Tab}(h:Qc C){f:FuncId}{fc:FC}(hf:QR prog f fc):Qc (Qa C f fc):=by
 intro g fc' e;unfold Qa at e;split at e
 .rename_i hg;simp only[qsI]at e;subst e;have:g=f:=by simpa using hg
  subst this;exact hf
 .exact h g fc' e
theorem QOX:Qc QDv:=λ_ _ h=>by cases h
instance : Enc Sp where
  enc x := .agg [.int false .i64 x.lo,.int false .i64 x.hi]
  dec | .agg [.int _ .i64 a0,.int _ .i64 a1] => some ⟨a0,a1⟩ | _ => none
  ok v x h := by
    split at h <;> (try (cases h; done))
    simp only[qsI]at h; subst h; exact⟨λ_=>rfl,rfl⟩
instance : Enc Edge where
  enc x := .agg [.int false .i64 x.kind,.int false .i64 x.at_.lo,.int false .i64 x.at_.hi,.int false .i64 x.wide.lo,.int false .i64 x.wide.hi,.int false .i64 x.deep.lo,.int false .i64 x.deep.hi]
  dec | .agg [.int _ .i64 a0,.int _ .i64 a1,.int _ .i64 a2,.int _ .i64 a3,.int _ .i64 a4,.int _ .i64 a5,.int _ .i64 a6] => some ⟨a0,⟨a1,a2⟩,⟨a3,a4⟩,⟨a5,a6⟩⟩ | _ => none
  ok v x h := by
    split at h <;> (try (cases h; done))
    simp only[qsI]at h; subst h; exact⟨λ_=>rfl,rfl⟩
instance : Enc Qy where
  enc x := .agg [.int false .i64 x.length,.int false .i64 x.aK,.int false .i64 x.oK,.int false .i64 x.dK.lo,.int false .i64 x.dK.hi]
  dec | .agg [.int _ .i64 a0,.int _ .i64 a1,.int _ .i64 a2,.int _ .i64 a3,.int _ .i64 a4] => some ⟨a0,a1,a2,⟨a3,a4⟩⟩ | _ => none
  ok v x h := by
    split at h <;> (try (cases h; done))
    simp only[qsI]at h; subst h; exact⟨λ_=>rfl,rfl⟩
structure Q8 where
 p:Qy
 t:Edge
 h:Edge
inductive D where
 | off (c:Q8)
 | wide (c:Q8)
 | deep (c:Q8)
instance : Enc Q8 where
  enc x := .agg [.int false .i64 x.p.length,.int false .i64 x.p.aK,.int false .i64 x.p.oK,.int false .i64 x.p.dK.lo,.int false .i64 x.p.dK.hi,
    .int false .i64 x.t.kind,.int false .i64 x.t.at_.lo,.int false .i64 x.t.at_.hi,.int false .i64 x.t.wide.lo,.int false .i64 x.t.wide.hi,.int false .i64 x.t.deep.lo,.int false .i64 x.t.deep.hi,
    .int false .i64 x.h.kind,.int false .i64 x.h.at_.lo,.int false .i64 x.h.at_.hi,.int false .i64 x.h.wide.lo,.int false .i64 x.h.wide.hi,.int false .i64 x.h.deep.lo,.int false .i64 x.h.deep.hi]
  dec | .agg [.int _ .i64 p0,.int _ .i64 p1,.int _ .i64 p2,.int _ .i64 p3,.int _ .i64 p4,
      .int _ .i64 a0,.int _ .i64 a1,.int _ .i64 a2,.int _ .i64 a3,.int _ .i64 a4,.int _ .i64 a5,.int _ .i64 a6,
      .int _ .i64 b0,.int _ .i64 b1,.int _ .i64 b2,.int _ .i64 b3,.int _ .i64 b4,.int _ .i64 b5,.int _ .i64 b6] =>
        some ⟨⟨p0,p1,p2,⟨p3,p4⟩⟩,⟨a0,⟨a1,a2⟩,⟨a3,a4⟩,⟨a5,a6⟩⟩,⟨b0,⟨b1,b2⟩,⟨b3,b4⟩,⟨b5,b6⟩⟩⟩
      | _ => none
  ok v x h := by
    split at h <;> (try (cases h; done))
    simp only[qsI]at h; subst h; exact⟨λ_=>rfl,rfl⟩
instance : Enc D where
  enc | .off c => .ifc 136 (Enc.enc c)
      | .wide c => .ifc 132 (Enc.enc c)
      | .deep c => .ifc 137 (Enc.enc c)
  dec | .ifc t v => match (Enc.dec v : Option Q8)with
        | some c => if t = 136 then some (.off c)else if t = 132 then some (.wide c)else if t = 137 then some (.deep c)else none
        | none => none
      | _ => none
  ok v x h := by
    split at h <;> (try (cases h; done))
    split at h <;> (try (cases h; done))
    rename_i t v c hc;have h1 := Enc.ok _ c hc;split at h
    . rename_i e; simp only[qsI]at h; subst h e
      exact⟨λr=>by simp only[AV.den]; rw[h1.1 r],h1.2⟩
    . split at h
      . rename_i e; simp only[qsI]at h; subst h e
        exact⟨λr=>by simp only[AV.den]; rw[h1.1 r],h1.2⟩
      . split at h <;> (try (cases h; done))
        rename_i e; simp only[qsI]at h; subst h e;exact⟨λr=>by simp only[AV.den]; rw[h1.1 r],h1.2⟩
theorem w64{n:Int}(h1 : -9223372036854775808<=n)(h2:n<=9223372036854775807):i64.wrap n=n:=IntWalk.i64_in n ⟨h1,h2⟩
def VH(e:Edge):Prop:=(0<=e.at_.lo/\e.at_.lo<=10000/\0<=e.at_.hi/\e.at_.hi<=10000)/\(0<=e.wide.lo/\e.wide.lo<=3000/\0<=e.wide.hi/\e.wide.hi<=3000)/\(0<=e.deep.lo/\e.deep.lo<=3000/\0<=e.deep.hi/\e.deep.hi<=3000)
def VL(p:Qy):Prop:=(1<=p.length/\p.length<=10000)/\(0<=p.aK/\p.aK<=500)/\(0<=p.oK/\p.oK<=500)/\(0<=p.dK.lo/\p.dK.lo<=100)/\0<=p.dK.hi/\p.dK.hi<=100
def Q8.B(c:Q8):Prop:=VL c.p/\VH c.t/\VH c.h
instance (e : Edge) : Decidable (VH e) := by unfold VH; infer_instance
instance (p : Qy) : Decidable (VL p) := by unfold VL; infer_instance
instance (c : Q8) : Decidable c.B := by unfold Q8.B; infer_instance
def D.by_:D->Sp
 | .off c=>Qo c.p c.t c.h
 | .wide c=>Qn c.t c.h
 | .deep c=>Qm c.t c.h
def D.lo:D->Int
 | .off c => -c.p.aK
 | _=>0
def D.hi:D->Int
 | .off c=>c.p.aK
 | .wide c=>c.p.oK
 | .deep c=>c.p.oK
def D.c:D->Q8
 | .off c=>c
 | .wide c=>c
 | .deep c=>c
abbrev mkE(P:Program)(C:Tab):Env:=⟨P,C,jJ P,false,λ_=>false,false,false,false⟩
theorem QO{C:Tab}(hC:Qc C):(mkE prog C).Sound:={ c:=hC,m:=QAV prog,mixed:=QAR }
abbrev mkF(P:Program)(C:Tab):Env:=⟨P,C,jJ P,false,λ_=>false,false,false,true⟩
theorem KF{C:Tab}(hC:Qc C):(mkF prog C).Sound:={ c:=hC,m:=QAV prog,mixed:=QAR }
abbrev mkS(P:Program)(C:Tab):Env:=⟨P,C,jJ P,true,λ_=>false,false,false,false⟩
theorem QCo{C:Tab}(hC:Qc C):(mkS prog C).Sound:={ c:=hC,m:=QAV prog,mixed:=QAR }
def binds(fs:List FuncId):Op->Bool
 | .call ⟨.value (.func f),_,_⟩=>fs.contains f
 | .binOp .mul _ _ _ _=>true
 | _=>false
def Qk(fn:Func):Code:=fn.body.getD .skip
theorem K0{C:Tab}(hC:Qc C)(d:Nat){f:FuncId}{fn:Func}(hf:prog.funcs[f]? = some fn)(hb:fn.body=some (Qk fn))(hgo:Jx prog f=true){α:Type}[KG α]{F:α->Bool×AV}(hF:∀ x,(F x).1=true->(KR (mkE prog C) (hnd (mkE prog C) d) false fn (KG.enc x) [] 0).den λu _=>u.same (F x).2):QR prog f (Kj (Kl F)):=
 QJK (QO hC) hf hb hgo (λG _ hG=>Qv (QO hC) d G _ hG) hF
def QPP:Sp×Int×Int×Unit->Bool×AV:=λ|(s,(a,(b,_)))=>(true,.bool false (s.isIn a b))
def QTI:FC:=Kj (Kl QPP)
theorem QgH(s:Sp)(a:Int)(b:Int):KR (mkE prog QDv) (hnd (mkE prog QDv) 0) false f77 (KG.enc ((s,a,b,()):Sp×Int×Int×Unit)) [] 0=QC.br (decide (a<=s.lo)) (QC.br (decide (s.lo<=s.hi)) (QC.leaf (AV.bool false (decide (s.hi<=b))) ([])) (QC.leaf (AV.bool true false) ([]))) (QC.leaf (AV.bool true false) ([])):=by kernel_rfl
theorem Qit:QR prog 77 QTI:=by
 refine K0 QOX 0 func77 (by kernel_rfl) (by kernel_rfl) ?_
 rintro⟨s,a,b,⟨⟩⟩ hp;rw[QgH s a b];simp only[QPP,QC.den,AV.same,AV.sameL,and_true,true_and]at hp ⊢
 (repeat' (first|(refine aI ?_ ?_)|(intro _)))<;>simp_all [Sp.isIn]<;>omega
def QDw:Tab:=Qa QDv 77 QTI
theorem QTn:Qc QDw:=QOX.add Qit
def QSz:Int×Int×Int×Unit->Bool×AV:=λ|(n,(a,(b,_)))=>(true,.bool false (Qz n a b))
def QRC:FC:=Kj (Kl QSz)
theorem Qil(n:Int)(a:Int)(b:Int):KR (mkE prog QDw) (hnd (mkE prog QDw) 0) false f87 (KG.enc ((n,a,b,()):Int×Int×Int×Unit)) [] 0=QC.br (decide (a<=n)) (QC.leaf (AV.bool false (decide (n<=b))) ([])) (QC.leaf (AV.bool true false) ([])):=by kernel_rfl
theorem QYa:QR prog 87 QRC:=by
 refine K0 QTn 0 func87 (by kernel_rfl) (by kernel_rfl) ?_
 rintro⟨n,a,b,⟨⟩⟩ hp;rw[Qil n a b];simp only[QSz,QC.den,AV.same,AV.sameL,and_true,true_and]at hp ⊢
 (repeat' (first|(refine aI ?_ ?_)|(intro _)))<;>simp_all [Qz]<;>omega
def QFj:Tab:=Qa QDw 87 QRC
theorem QSy:Qc QFj:=QTn.add QYa
def QRK:Edge×Unit->Bool×AV:=λ|(a,_)=>(true,.bool false a.ok)
def QSh:FC:=Kj (Kl QRK)
theorem Qh2(a:Edge):KR (mkE prog QFj) (hnd (mkE prog QFj) 0) false f86 (KG.enc ((a,()):Edge×Unit)) [] 0=QC.br (a.kind==(0:Int)) (QC.leaf (AV.bool true true) ([])) (QC.br (a.kind==(1:Int)) (QC.need (true) (QC.br (a.at_.isIn (0:Int) (10000:Int)) (QC.need (true) (QC.br (a.wide.isIn (1:Int) (3000:Int)) (QC.need (true) (QC.leaf (AV.bool false (a.deep.isIn (1:Int) (3000:Int))) ([]))) (QC.leaf (AV.bool true false) ([])))) (QC.leaf (AV.bool true false) ([])))) (QC.br (a.kind==(2:Int)) (QC.need (true) (QC.br (a.at_.isIn (0:Int) (10000:Int)) (QC.need (true) (QC.br (a.wide.isIn (1:Int) (3000:Int)) (QC.need (true) (QC.leaf (AV.bool false (a.deep.isIn (1:Int) (3000:Int))) ([]))) (QC.leaf (AV.bool true false) ([])))) (QC.leaf (AV.bool true false) ([])))) (QC.leaf (AV.bool true false) ([])))):=by kernel_rfl
theorem QcA:QR prog 86 QSh:=by
 refine K0 QSy 0 func86 (by kernel_rfl) (by kernel_rfl) ?_
 rintro⟨a,⟨⟩⟩ hp;rw[Qh2 a];simp only[QRK,QC.den,AV.same,AV.sameL,and_true,true_and]at hp ⊢
 (repeat' (first|(refine aI ?_ ?_)|(intro _)))<;>simp_all [Edge.ok]
def QFl:Tab:=Qa QFj 86 QSh
theorem QQc:Qc QFl:=QSy.add QcA
def QOV:Qy×Unit->Bool×AV:=λ|(p,_)=>(true,.bool false p.ok)
def QKp:FC:=Kj (Kl QOV)
theorem Qe9(p:Qy):KR (mkE prog QFl) (hnd (mkE prog QFl) 0) false f75 (KG.enc ((p,()):Qy×Unit)) [] 0=QC.need (true) (QC.br (Qz p.length (1:Int) (10000:Int)) (QC.need (true) (QC.br (Qz p.aK (0:Int) (500:Int)) (QC.need (true) (QC.br (Qz p.oK (0:Int) (500:Int)) (QC.need (true) (QC.leaf (AV.bool false (p.dK.isIn (0:Int) (100:Int))) ([]))) (QC.leaf (AV.bool true false) ([])))) (QC.leaf (AV.bool true false) ([])))) (QC.leaf (AV.bool true false) ([]))):=by kernel_rfl
theorem Qa0:QR prog 75 QKp:=by
 refine K0 QQc 0 func75 (by kernel_rfl) (by kernel_rfl) ?_
 rintro⟨p,⟨⟩⟩ hp;rw[Qe9 p];simp only[QOV,QC.den,AV.same,AV.sameL,and_true,true_and]at hp ⊢
 (repeat' (first|(refine aI ?_ ?_)|(intro _)))<;>simp_all [Qy.ok]
def QDA:Tab:=Qa QFl 75 QKp
theorem QPL:Qc QDA:=QQc.add Qa0
def QQd:Sp×Sp×Unit->Bool×AV:=λ|(s,(o,_))=>(decide (Sm s.lo/\Sm s.hi/\Sm o.lo/\Sm o.hi),Enc.enc (s.less o))
def QMu:FC:=Kj (Kl QQd)
theorem Qhp(s:Sp)(o:Sp):KR (mkE prog QDA) (hnd (mkE prog QDA) 0) false f123 (KG.enc ((s,o,()):Sp×Sp×Unit)) [] 0=QC.leaf (AV.agg [vi (i64.wrap (s.lo-o.hi)),vi (i64.wrap (s.hi-o.lo))]) ([]):=by kernel_rfl
theorem QbK:QR prog 123 QMu:=by
 refine K0 QPL 0 func123 (by kernel_rfl) (by kernel_rfl) ?_
 rintro⟨s,o,⟨⟩⟩ hp;rw[Qhp s o];simp only[QQd,QC.den,AV.same,AV.sameL,and_true,true_and]at hp ⊢;have hp:=qdt hp;unfold Sm at hp;simp only[Sp.less,Enc.enc,AV.same,AV.sameL];rw[w64 (by omega) (by omega),w64 (by omega) (by omega)];simp
def QFL:Tab:=Qa QDA 123 QMu
theorem QSP:Qc QFL:=QPL.add QbK
def QUl:Sp×Sp×Unit->Bool×AV:=λ|(s,(o,_))=>(decide (Sm s.lo/\Sm s.hi/\Sm o.lo/\Sm o.hi),Enc.enc (s.plus o))
def QOY:FC:=Kj (Kl QUl)
theorem QYP(s:Sp)(o:Sp):KR (mkE prog QFL) (hnd (mkE prog QFL) 0) false f124 (KG.enc ((s,o,()):Sp×Sp×Unit)) [] 0=QC.leaf (AV.agg [vi (i64.wrap (s.lo+o.lo)),vi (i64.wrap (s.hi+o.hi))]) ([]):=by kernel_rfl
theorem QiN:QR prog 124 QOY:=by
 refine K0 QSP 0 func124 (by kernel_rfl) (by kernel_rfl) ?_
 rintro⟨s,o,⟨⟩⟩ hp;rw[QYP s o];simp only[QUl,QC.den,AV.same,AV.sameL,and_true,true_and]at hp ⊢;have hp:=qdt hp;unfold Sm at hp;simp only[Sp.plus,Enc.enc,AV.same,AV.sameL];rw[w64 (by omega) (by omega),w64 (by omega) (by omega)];simp
def QDj:Tab:=Qa QFL 124 QOY
theorem QTS:Qc QDj:=QSP.add QiN
def QLi:Q8×Unit->Bool×AV:=λ|(c,_)=>(decide c.B,Enc.enc (Qo c.p c.t c.h))
def QQ4:FC:=Kj (Kl QLi)
theorem Qjg(c:Q8):KR (mkE prog QDj) (hnd (mkE prog QDj) 0) false f208 (KG.enc ((c,()):Q8×Unit)) [] 0=QC.need (decide (Sm c.t.at_.lo/\Sm c.t.at_.hi/\Sm c.h.at_.lo/\Sm c.h.at_.hi)) (QC.need (decide (Sm (c.t.at_.plus c.h.at_).lo/\Sm (c.t.at_.plus c.h.at_).hi/\Sm (i64.wrap ((0:Int)-c.p.length))/\Sm (i64.wrap ((0:Int)-c.p.length)))) (QC.leaf (AV.agg [vi ((c.t.at_.plus c.h.at_).plus (Sp.mk (i64.wrap ((0:Int)-c.p.length)) (i64.wrap ((0:Int)-c.p.length)))).lo,vi ((c.t.at_.plus c.h.at_).plus (Sp.mk (i64.wrap ((0:Int)-c.p.length)) (i64.wrap ((0:Int)-c.p.length)))).hi]) ([]))):=by kernel_rfl
theorem QVK:QR prog 208 QQ4:=by
 refine K0 QTS 0 func208 (by kernel_rfl) (by kernel_rfl) ?_
 rintro⟨c,⟨⟩⟩ hp;rw[Qjg c];simp only[QLi,QC.den,AV.same,AV.sameL,and_true,true_and]at hp ⊢;have hp:=qdt hp;obtain⟨h1,h2,h3⟩:=hp;unfold VL at h1;unfold VH at h2 h3;have e:i64.wrap (0-c.p.length) = -c.p.length:=by rw[w64 (by omega) (by omega)];omega
 rw[e];refine⟨qde (by unfold Sm;omega),qde (by unfold Sm Sp.plus;simp only;omega),?_⟩
 simp[Qo,Sp.plus,Enc.enc,AV.same,AV.sameL]
def QE6:Tab:=Qa QDj 208 QQ4
theorem QQZ:Qc QE6:=QTS.add QVK
def QNu:Q8×Unit->Bool×AV:=λ|(c,_)=>(decide c.B,Enc.enc (Qn c.t c.h))
def QQ5:FC:=Kj (Kl QNu)
theorem QWK(c:Q8):KR (mkE prog QE6) (hnd (mkE prog QE6) 0) false f83 (KG.enc ((c,()):Q8×Unit)) [] 0=QC.need (decide (Sm c.h.wide.lo/\Sm c.h.wide.hi/\Sm c.t.wide.lo/\Sm c.t.wide.hi)) (QC.leaf (AV.agg [vi (c.h.wide.less c.t.wide).lo,vi (c.h.wide.less c.t.wide).hi]) ([])):=by kernel_rfl
theorem QhJ:QR prog 83 QQ5:=by
 refine K0 QQZ 0 func83 (by kernel_rfl) (by kernel_rfl) ?_
 rintro⟨c,⟨⟩⟩ hp;rw[QWK c];simp only[QNu,QC.den,AV.same,AV.sameL,and_true,true_and]at hp ⊢;have hp:=qdt hp;obtain⟨h1,h2,h3⟩:=hp;unfold VL at h1;unfold VH at h2 h3;refine⟨qde (by unfold Sm;omega),?_⟩
 simp[Qn,Sp.less,Enc.enc,AV.same,AV.sameL]
def QDo:Tab:=Qa QE6 83 QQ5
theorem QKw:Qc QDo:=QQZ.add QhJ
def QSF:Q8×Unit->Bool×AV:=λ|(c,_)=>(decide c.B,Enc.enc (Qm c.t c.h))
def QRb:FC:=Kj (Kl QSF)
theorem QXY(c:Q8):KR (mkE prog QDo) (hnd (mkE prog QDo) 0) false f210 (KG.enc ((c,()):Q8×Unit)) [] 0=QC.need (decide (Sm c.h.deep.lo/\Sm c.h.deep.hi/\Sm c.t.deep.lo/\Sm c.t.deep.hi)) (QC.leaf (AV.agg [vi (c.h.deep.less c.t.deep).lo,vi (c.h.deep.less c.t.deep).hi]) ([])):=by kernel_rfl
theorem QX8:QR prog 210 QRb:=by
 refine K0 QKw 0 func210 (by kernel_rfl) (by kernel_rfl) ?_
 rintro⟨c,⟨⟩⟩ hp;rw[QXY c];simp only[QSF,QC.den,AV.same,AV.sameL,and_true,true_and]at hp ⊢;have hp:=qdt hp;obtain⟨h1,h2,h3⟩:=hp;unfold VL at h1;unfold VH at h2 h3;refine⟨qde (by unfold Sm;omega),?_⟩
 simp[Qm,Sp.less,Enc.enc,AV.same,AV.sameL]
def QDh:Tab:=Qa QDo 210 QRb
theorem QO0:Qc QDh:=QKw.add QX8
def QUt:Q8×Unit->Bool×AV:=λ|(c,_)=>(decide c.B,.tup [.int false .i64 (-c.p.aK),.int false .i64 c.p.aK])
def QNy:FC:=Kj (Kl QUt)
theorem QWI(c:Q8):KR (mkE prog QDh) (hnd (mkE prog QDh) 0) false f207 (KG.enc ((c,()):Q8×Unit)) [] 0=QC.leaf (AV.tup [vi (i64.wrap ((0:Int)-c.p.aK)),vi c.p.aK]) ([]):=by kernel_rfl
theorem QfY:QR prog 207 QNy:=by
 refine K0 QO0 0 func207 (by kernel_rfl) (by kernel_rfl) ?_
 rintro⟨c,⟨⟩⟩ hp;rw[QWI c];simp only[QUt,QC.den,AV.same,AV.sameL,and_true,true_and]at hp ⊢;have hp:=qdt hp;obtain⟨h1,h2,h3⟩:=hp;unfold VL at h1;rw[w64 (by omega) (by omega)];omega
def QC8:Tab:=Qa QDh 207 QNy
theorem QKV:Qc QC8:=QO0.add QfY
def QUL:Q8×Unit->Bool×AV:=λ|(c,_)=>(decide c.B,.tup [.int false .i64 0,.int false .i64 c.p.oK])
def QMo:FC:=Kj (Kl QUL)
theorem QiR(c:Q8):KR (mkE prog QC8) (hnd (mkE prog QC8) 0) false f206 (KG.enc ((c,()):Q8×Unit)) [] 0=QC.leaf (AV.tup [vj (0:Int),vi c.p.oK]) ([]):=by kernel_rfl
theorem QcV:QR prog 206 QMo:=by
 refine K0 QKV 0 func206 (by kernel_rfl) (by kernel_rfl) ?_
 rintro⟨c,⟨⟩⟩ hp;rw[QiR c];simp only[QUL,QC.den,AV.same,AV.sameL,and_true,true_and]at hp ⊢
def QD6:Tab:=Qa QC8 206 QMo
theorem QRx:Qc QD6:=QKV.add QcV
def QQ3:Q8×Unit->Bool×AV:=λ|(c,_)=>(decide c.B,.tup [.int false .i64 0,.int false .i64 c.p.oK])
def QTm:FC:=Kj (Kl QQ3)
theorem Qf8(c:Q8):KR (mkE prog QD6) (hnd (mkE prog QD6) 0) false f209 (KG.enc ((c,()):Q8×Unit)) [] 0=QC.leaf (AV.tup [vj (0:Int),vi c.p.oK]) ([]):=by kernel_rfl
theorem QeP:QR prog 209 QTm:=by
 refine K0 QRx 0 func209 (by kernel_rfl) (by kernel_rfl) ?_
 rintro⟨c,⟨⟩⟩ hp;rw[Qf8 c];simp only[QQ3,QC.den,AV.same,AV.sameL,and_true,true_and]at hp ⊢
def Wr:Tab:=Qa QD6 209 QTm
theorem QKs:Qc Wr:=QRx.add QeP
theorem QAh{sl sh lo hi dh:Int}(h1 : -100000<=sl/\sl<=100000)(h2 : -100000<=sh/\sh<=100000)(h3 : -500<=lo/\lo<=500)(h4 : -500<=hi/\hi<=500)(h5:0<=dh/\dh<=100):
  (decide (i64.wrap (sl*i64.wrap (1000+dh))≥i64.wrap (1000*lo))=true->decide (i64.wrap (sh*i64.wrap (1000+dh))<=i64.wrap (1000*hi))=Kw sl sh lo hi dh) /\
  (decide (i64.wrap (sl*i64.wrap (1000+dh))≥i64.wrap (1000*lo))=false->false=Kw sl sh lo hi dh):=by
 obtain⟨m1,m2⟩:=QHv (a:=sl) (m:=1000+dh) (by omega) (by omega) (by omega) (by omega)
 obtain⟨m3,m4⟩:=QHv (a:=sh) (m:=1000+dh) (by omega) (by omega) (by omega) (by omega)
 rw[w64 (n:=1000+dh) (by omega) (by omega),w64 (n:=sl*_) (by omega) (by omega),w64 (n:=sh*_) (by omega) (by omega),w64 (n:=1000*lo) (by omega) (by omega),w64 (n:=1000*hi) (by omega) (by omega)]
 exact⟨λh=>Qf9 (qdt h),λh=>QVX (by have:=qdf h;omega)⟩
theorem QCX{sl sh lo hi dl:Int}(h1 : -100000<=sl/\sl<=100000)(h2 : -100000<=sh/\sh<=100000)(h3 : -500<=lo/\lo<=500)(h4 : -500<=hi/\hi<=500)(h5:0<=dl/\dl<=100):
  (decide (i64.wrap (1000*lo)<=i64.wrap (min (max 0 sl) sh*i64.wrap (1000+dl)))=true->decide (i64.wrap (min (max 0 sl) sh*i64.wrap (1000+dl))<=i64.wrap (1000*hi))=Q2 sl sh lo hi dl) /\
  (decide (i64.wrap (1000*lo)<=i64.wrap (min (max 0 sl) sh*i64.wrap (1000+dl)))=false->false=Q2 sl sh lo hi dl):=by
 obtain⟨m1,m2⟩:=QHv (a:=min (max 0 sl) sh) (m:=1000+dl) (by omega) (by omega) (by omega) (by omega)
 rw[w64 (n:=1000+dl) (by omega) (by omega),w64 (n:=min (max 0 sl) sh*_) (by omega) (by omega),w64 (n:=1000*lo) (by omega) (by omega),w64 (n:=1000*hi) (by omega) (by omega)]
 exact⟨λh=>Qiu (qdt h),λh=>Qcx (by have:=qdf h;omega)⟩
theorem QP7:i64.wrap (1000*0)=0:=by decide
theorem QJd{sl sh hi dh:Int}(h1 : -100000<=sl/\sl<=100000)(h2 : -100000<=sh/\sh<=100000)(h4 : -500<=hi/\hi<=500)(h5:0<=dh/\dh<=100):
  (decide (i64.wrap (sl*i64.wrap (1000+dh))≥0)=true->decide (i64.wrap (sh*i64.wrap (1000+dh))<=i64.wrap (1000*hi))=Kw sl sh 0 hi dh) /\
  (decide (i64.wrap (sl*i64.wrap (1000+dh))≥0)=false->false=Kw sl sh 0 hi dh):=by
 have:=QAh (lo:=0) h1 h2 (by omega) h4 h5
 rw[QP7]at this;exact this
theorem QHy{sl sh hi dl:Int}(h1 : -100000<=sl/\sl<=100000)(h2 : -100000<=sh/\sh<=100000)(h4 : -500<=hi/\hi<=500)(h5:0<=dl/\dl<=100):
  (decide (0<=i64.wrap (min (max 0 sl) sh*i64.wrap (1000+dl)))=true->decide (i64.wrap (min (max 0 sl) sh*i64.wrap (1000+dl))<=i64.wrap (1000*hi))=Q2 sl sh 0 hi dl) /\
  (decide (0<=i64.wrap (min (max 0 sl) sh*i64.wrap (1000+dl)))=false->false=Q2 sl sh 0 hi dl):=by
 have:=QCX (lo:=0) h1 h2 (by omega) h4 h5
 rw[QP7]at this;exact this
def QEo:Q8×D×Unit->Bool×AV:=λ|(x,(d,_))=>(decide (x.B/\d.c.B),.bool false (Kw d.by_.lo d.by_.hi d.lo d.hi x.p.dK.hi))
def QS4:FC:=Kj (Kl QEo)
theorem QiC(x:Q8)(c:Q8):KR (mkE prog Wr) (hnd (mkE prog Wr) 0) false f85 (KG.enc ((x,(D.off c),()):Q8×D×Unit)) [] 0=QC.need (decide c.B) (QC.need (decide c.B) (QC.br (decide (i64.wrap ((Qo c.p c.t c.h).lo*i64.wrap ((1000:Int)+x.p.dK.hi))≥i64.wrap ((1000:Int) * -c.p.aK))) (QC.leaf (AV.bool false (decide (i64.wrap ((Qo c.p c.t c.h).hi*i64.wrap ((1000:Int)+x.p.dK.hi))<=i64.wrap ((1000:Int)*c.p.aK)))) ([])) (QC.leaf (AV.bool true false) ([])))):=by kernel_rfl
theorem Qam(x:Q8)(c:Q8):KR (mkE prog Wr) (hnd (mkE prog Wr) 0) false f85 (KG.enc ((x,(D.wide c),()):Q8×D×Unit)) [] 0=QC.need (decide c.B) (QC.need (decide c.B) (QC.br (decide (i64.wrap ((Qn c.t c.h).lo*i64.wrap ((1000:Int)+x.p.dK.hi))≥(0:Int))) (QC.leaf (AV.bool false (decide (i64.wrap ((Qn c.t c.h).hi*i64.wrap ((1000:Int)+x.p.dK.hi))<=i64.wrap ((1000:Int)*c.p.oK)))) ([])) (QC.leaf (AV.bool true false) ([])))):=by kernel_rfl
theorem QhW(x:Q8)(c:Q8):KR (mkE prog Wr) (hnd (mkE prog Wr) 0) false f85 (KG.enc ((x,(D.deep c),()):Q8×D×Unit)) [] 0=QC.need (decide c.B) (QC.need (decide c.B) (QC.br (decide (i64.wrap ((Qm c.t c.h).lo*i64.wrap ((1000:Int)+x.p.dK.hi))≥(0:Int))) (QC.leaf (AV.bool false (decide (i64.wrap ((Qm c.t c.h).hi*i64.wrap ((1000:Int)+x.p.dK.hi))<=i64.wrap ((1000:Int)*c.p.oK)))) ([])) (QC.leaf (AV.bool true false) ([])))):=by kernel_rfl
theorem Qfv:QR prog 85 QS4:=by
 refine K0 QKs 0 func85 (by kernel_rfl) (by kernel_rfl) ?_
 rintro⟨x,(c|c|c),⟨⟩⟩ hp
 .rw[QiC x c];simp only[QEo,QC.den,AV.same,AV.sameL,and_true,true_and]at hp ⊢;have hq:=qdt hp;obtain⟨⟨hx,_⟩,hc⟩:=hq;refine⟨qde hc,qde hc,?_⟩;obtain⟨h1,h2,h3⟩:=hc;unfold VL at h1 hx;unfold VH at h2 h3;simp only[D.c]at h1 h2 h3
  first
   | (refine QAh ?_ ?_ ?_ ?_ ?_<;>(try simp only[Qo,Qn,Qm])<;>omega)
   | (refine QJd ?_ ?_ ?_ ?_<;>(try simp only[Qo,Qn,Qm])<;>omega)
 .rw[Qam x c];simp only[QEo,QC.den,AV.same,AV.sameL,and_true,true_and]at hp ⊢;have hq:=qdt hp;obtain⟨⟨hx,_⟩,hc⟩:=hq;refine⟨qde hc,qde hc,?_⟩;obtain⟨h1,h2,h3⟩:=hc;unfold VL at h1 hx;unfold VH at h2 h3;simp only[D.c]at h1 h2 h3
  first
   | (refine QAh ?_ ?_ ?_ ?_ ?_<;>(try simp only[Qo,Qn,Qm])<;>omega)
   | (refine QJd ?_ ?_ ?_ ?_<;>(try simp only[Qo,Qn,Qm])<;>omega)
 .rw[QhW x c];simp only[QEo,QC.den,AV.same,AV.sameL,and_true,true_and]at hp ⊢;have hq:=qdt hp;obtain⟨⟨hx,_⟩,hc⟩:=hq;refine⟨qde hc,qde hc,?_⟩;obtain⟨h1,h2,h3⟩:=hc;unfold VL at h1 hx;unfold VH at h2 h3;simp only[D.c]at h1 h2 h3
  first
   | (refine QAh ?_ ?_ ?_ ?_ ?_<;>(try simp only[Qo,Qn,Qm])<;>omega)
   | (refine QJd ?_ ?_ ?_ ?_<;>(try simp only[Qo,Qn,Qm])<;>omega)
def We:Tab:=Qa Wr 85 QS4
theorem QTO:Qc We:=QKs.add Qfv
def QEL:Q8×D×Unit->Bool×AV:=λ|(x,(d,_))=>(decide (x.B/\d.c.B),.bool false (Q2 d.by_.lo d.by_.hi d.lo d.hi x.p.dK.lo))
def QR2:FC:=Kj (Kl QEL)
theorem QfE(x:Q8)(c:Q8):KR (mkE prog We) (hnd (mkE prog We) 0) false f148 (KG.enc ((x,(D.off c),()):Q8×D×Unit)) [] 0=QC.need (decide c.B) (QC.need (decide c.B) (QC.br (decide (i64.wrap ((1000:Int) * -c.p.aK)<=i64.wrap (min (max (0:Int) (Qo c.p c.t c.h).lo) (Qo c.p c.t c.h).hi*i64.wrap ((1000:Int)+x.p.dK.lo)))) (QC.leaf (AV.bool false (decide (i64.wrap (min (max (0:Int) (Qo c.p c.t c.h).lo) (Qo c.p c.t c.h).hi*i64.wrap ((1000:Int)+x.p.dK.lo))<=i64.wrap ((1000:Int)*c.p.aK)))) ([])) (QC.leaf (AV.bool true false) ([])))):=by kernel_rfl
theorem QbE(x:Q8)(c:Q8):KR (mkE prog We) (hnd (mkE prog We) 0) false f148 (KG.enc ((x,(D.wide c),()):Q8×D×Unit)) [] 0=QC.need (decide c.B) (QC.need (decide c.B) (QC.br (decide ((0:Int)<=i64.wrap (min (max (0:Int) (Qn c.t c.h).lo) (Qn c.t c.h).hi*i64.wrap ((1000:Int)+x.p.dK.lo)))) (QC.leaf (AV.bool false (decide (i64.wrap (min (max (0:Int) (Qn c.t c.h).lo) (Qn c.t c.h).hi*i64.wrap ((1000:Int)+x.p.dK.lo))<=i64.wrap ((1000:Int)*c.p.oK)))) ([])) (QC.leaf (AV.bool true false) ([])))):=by kernel_rfl
theorem QfD(x:Q8)(c:Q8):KR (mkE prog We) (hnd (mkE prog We) 0) false f148 (KG.enc ((x,(D.deep c),()):Q8×D×Unit)) [] 0=QC.need (decide c.B) (QC.need (decide c.B) (QC.br (decide ((0:Int)<=i64.wrap (min (max (0:Int) (Qm c.t c.h).lo) (Qm c.t c.h).hi*i64.wrap ((1000:Int)+x.p.dK.lo)))) (QC.leaf (AV.bool false (decide (i64.wrap (min (max (0:Int) (Qm c.t c.h).lo) (Qm c.t c.h).hi*i64.wrap ((1000:Int)+x.p.dK.lo))<=i64.wrap ((1000:Int)*c.p.oK)))) ([])) (QC.leaf (AV.bool true false) ([])))):=by kernel_rfl
theorem QVI:QR prog 148 QR2:=by
 refine K0 QTO 0 func148 (by kernel_rfl) (by kernel_rfl) ?_
 rintro⟨x,(c|c|c),⟨⟩⟩ hp
 .rw[QfE x c];simp only[QEL,QC.den,AV.same,AV.sameL,and_true,true_and]at hp ⊢;have hq:=qdt hp;obtain⟨⟨hx,_⟩,hc⟩:=hq;refine⟨qde hc,qde hc,?_⟩;obtain⟨h1,h2,h3⟩:=hc;unfold VL at h1 hx;unfold VH at h2 h3;simp only[D.c]at h1 h2 h3
  first
   | (refine QCX ?_ ?_ ?_ ?_ ?_<;>(try simp only[Qo,Qn,Qm])<;>omega)
   | (refine QHy ?_ ?_ ?_ ?_<;>(try simp only[Qo,Qn,Qm])<;>omega)
 .rw[QbE x c];simp only[QEL,QC.den,AV.same,AV.sameL,and_true,true_and]at hp ⊢;have hq:=qdt hp;obtain⟨⟨hx,_⟩,hc⟩:=hq;refine⟨qde hc,qde hc,?_⟩;obtain⟨h1,h2,h3⟩:=hc;unfold VL at h1 hx;unfold VH at h2 h3;simp only[D.c]at h1 h2 h3
  first
   | (refine QCX ?_ ?_ ?_ ?_ ?_<;>(try simp only[Qo,Qn,Qm])<;>omega)
   | (refine QHy ?_ ?_ ?_ ?_<;>(try simp only[Qo,Qn,Qm])<;>omega)
 .rw[QfD x c];simp only[QEL,QC.den,AV.same,AV.sameL,and_true,true_and]at hp ⊢;have hq:=qdt hp;obtain⟨⟨hx,_⟩,hc⟩:=hq;refine⟨qde hc,qde hc,?_⟩;obtain⟨h1,h2,h3⟩:=hc;unfold VL at h1 hx;unfold VH at h2 h3;simp only[D.c]at h1 h2 h3
  first
   | (refine QCX ?_ ?_ ?_ ?_ ?_<;>(try simp only[Qo,Qn,Qm])<;>omega)
   | (refine QHy ?_ ?_ ?_ ?_<;>(try simp only[Qo,Qn,Qm])<;>omega)
def QFV:Tab:=Qa We 148 QR2
theorem QSa:Qc QFV:=QTO.add QVI
def QK9:Q8×Unit->Bool×AV:=λ|(x,_)=>(decide x.B,vi (XT x.p x.t x.h))
def QMb:FC:=Kj (Kl QK9)
theorem Qdv(x:Q8):KR (mkE prog QFV) (hnd (mkE prog QFV) 14) false f129 (KG.enc ((x,()):Q8×Unit)) [] 0 = .need (decide (x.B/\(D.off x).c.B)) (.br (!Kw (D.off x).by_.lo (D.off x).by_.hi (D.off x).lo (D.off x).hi x.p.dK.hi) (.need (decide (x.B/\(D.off x).c.B)) (.br (!Q2 (D.off x).by_.lo (D.off x).by_.hi (D.off x).lo (D.off x).hi x.p.dK.lo) (.leaf (vj 0) ([])) (.need (decide (x.B/\(D.wide x).c.B)) (.br (!Q2 (D.wide x).by_.lo (D.wide x).by_.hi (D.wide x).lo (D.wide x).hi x.p.dK.lo) (.leaf (vj 0) ([])) (.need (decide (x.B/\(D.deep x).c.B)) (.br (!Q2 (D.deep x).by_.lo (D.deep x).by_.hi (D.deep x).lo (D.deep x).hi x.p.dK.lo) (.leaf (vj 0) ([])) (.leaf (vj 1) ([])))))))) (.need (decide (x.B/\(D.wide x).c.B)) (.br (!Kw (D.wide x).by_.lo (D.wide x).by_.hi (D.wide x).lo (D.wide x).hi x.p.dK.hi) (.need (decide (x.B/\(D.off x).c.B)) (.br (!Q2 (D.off x).by_.lo (D.off x).by_.hi (D.off x).lo (D.off x).hi x.p.dK.lo) (.leaf (vj 0) ([])) (.need (decide (x.B/\(D.wide x).c.B)) (.br (!Q2 (D.wide x).by_.lo (D.wide x).by_.hi (D.wide x).lo (D.wide x).hi x.p.dK.lo) (.leaf (vj 0) ([])) (.need (decide (x.B/\(D.deep x).c.B)) (.br (!Q2 (D.deep x).by_.lo (D.deep x).by_.hi (D.deep x).lo (D.deep x).hi x.p.dK.lo) (.leaf (vj 0) ([])) (.leaf (vj 1) ([])))))))) (.need (decide (x.B/\(D.deep x).c.B)) (.br (!Kw (D.deep x).by_.lo (D.deep x).by_.hi (D.deep x).lo (D.deep x).hi x.p.dK.hi) (.need (decide (x.B/\(D.off x).c.B)) (.br (!Q2 (D.off x).by_.lo (D.off x).by_.hi (D.off x).lo (D.off x).hi x.p.dK.lo) (.leaf (vj 0) ([])) (.need (decide (x.B/\(D.wide x).c.B)) (.br (!Q2 (D.wide x).by_.lo (D.wide x).by_.hi (D.wide x).lo (D.wide x).hi x.p.dK.lo) (.leaf (vj 0) ([])) (.need (decide (x.B/\(D.deep x).c.B)) (.br (!Q2 (D.deep x).by_.lo (D.deep x).by_.hi (D.deep x).lo (D.deep x).hi x.p.dK.lo) (.leaf (vj 0) ([])) (.leaf (vj 1) ([])))))))) (.leaf (vj 2) ([]))))))):=by kernel_rfl
theorem Qgi:QR prog 129 QMb:=by
 refine K0 QSa 14 func129 (by kernel_rfl) (by kernel_rfl) ?_
 rintro⟨x,⟨⟩⟩ hp;rw[Qdv x];simp only[QK9,QC.den,AV.same,AV.sameL,and_true,true_and]at hp ⊢;have hB:=qdt hp;have d1:decide (x.B/\(D.off x).c.B)=true:=qde ⟨hB,hB⟩;have d2:decide (x.B/\(D.wide x).c.B)=true:=qde ⟨hB,hB⟩;have d3:decide (x.B/\(D.deep x).c.B)=true:=qde ⟨hB,hB⟩;have a0:Kw (D.off x).by_.lo (D.off x).by_.hi (D.off x).lo (D.off x).hi x.p.dK.hi=alw x.p x.t x.h 0:=rfl;have a1:Kw (D.wide x).by_.lo (D.wide x).by_.hi (D.wide x).lo (D.wide x).hi x.p.dK.hi=alw x.p x.t x.h 1:=rfl
 have a2:Kw (D.deep x).by_.lo (D.deep x).by_.hi (D.deep x).lo (D.deep x).hi x.p.dK.hi=alw x.p x.t x.h 2:=rfl;have b0:Q2 (D.off x).by_.lo (D.off x).by_.hi (D.off x).lo (D.off x).hi x.p.dK.lo=may x.p x.t x.h 0:=rfl;have b1:Q2 (D.wide x).by_.lo (D.wide x).by_.hi (D.wide x).lo (D.wide x).hi x.p.dK.lo=may x.p x.t x.h 1:=rfl;have b2:Q2 (D.deep x).by_.lo (D.deep x).by_.hi (D.deep x).lo (D.deep x).hi x.p.dK.lo=may x.p x.t x.h 2:=rfl;simp only[d1,d2,d3,a0,a1,a2,b0,b1,b2,QGy,true_and]
 cases alw x.p x.t x.h 0<;>cases alw x.p x.t x.h 1<;>cases alw x.p x.t x.h 2<;>cases may x.p x.t x.h 0<;>cases may x.p x.t x.h 1<;>cases may x.p x.t x.h 2<;>simp
def QDH:Tab:=Qa QFV 129 QMb
theorem QTJ:Qc QDH:=QSa.add Qgi
theorem QYq{p:Qy}(h:p.ok=true):VL p:=by rw[Qy.ok_iff]at h;unfold VL;omega
theorem QK7{e:Edge}(h:e.ok=true)(hk:e.kind=1∨e.kind=2):VH e:=by rw[Edge.ok_iff]at h;unfold VH;omega
def okP(p:Qy)(a b:Edge):Bool:=p.ok&&(a.ok&&b.ok)
instance : Enc Gap where
  enc x := .agg [.int false .i64 x.off.lo,.int false .i64 x.off.hi,.int false .i64 x.wide.lo,.int false .i64 x.wide.hi,.int false .i64 x.deep.lo,.int false .i64 x.deep.hi]
  dec | .agg [.int _ .i64 a0,.int _ .i64 a1,.int _ .i64 a2,.int _ .i64 a3,.int _ .i64 a4,.int _ .i64 a5] => some ⟨⟨a0,a1⟩,⟨a2,a3⟩,⟨a4,a5⟩⟩ | _ => none
  ok v x h := by
    split at h <;> (try (cases h; done))
    simp only[qsI]at h; subst h; exact⟨λ_=>rfl,rfl⟩
theorem QF7{p:Qy}{a b:Edge}(h1:p.ok=true)(h2:a.ok=true)(h3:b.ok=true)(ha:a.kind=1)(hb:b.kind=2):Q8.B ⟨p,a,b⟩:=⟨QYq h1,QK7 h2 (.inl ha),QK7 h3 (.inr hb)⟩
def Edge.zero:Edge:=⟨0,⟨0,0⟩,⟨0,0⟩,⟨0,0⟩⟩
def QO8(s:Edge)(w:Sp)(n:Int):Prop:=VH s/\(0<=w.lo/\w.lo<=100/\0<=w.hi/\w.hi<=100)/\0<=n/\n<=20000
instance (s : Edge) (w : Sp) (n : Int) : Decidable (QO8 s w n) := by unfold QO8; infer_instance
def QVD:Qy×Edge×Edge×Unit->Bool×AV:=λ|(p,(a,(b,_)))=>(okP p a b,.int false .i64 (XU p a b))
def QSE:FC:=Kj (Kl QVD)
theorem QYr(p:Qy)(a:Edge)(b:Edge):KR (mkE prog QDH) (hnd (mkE prog QDH) 4) false f88 (KG.enc ((p,a,b,()):Qy×Edge×Edge×Unit)) [] 0=QC.br (a.kind==(2:Int)) (QC.br (b.kind==(1:Int)) (QC.br (a.kind==(2:Int)) (QC.need (decide (Q8.mk p b a).B) (QC.leaf (vi (XT p b a)) ([]))) (QC.leaf (vj (0:Int)) ([]))) (QC.leaf (vj (0:Int)) ([]))) (QC.br (a.kind==(1:Int)) (QC.br (b.kind==(2:Int)) (QC.need (decide (Q8.mk p a b).B) (QC.leaf (vi (XT p a b)) ([]))) (QC.leaf (vj (0:Int)) ([]))) (QC.leaf (vj (0:Int)) ([]))):=by kernel_rfl
theorem Qc1:QR prog 88 QSE:=by
 refine K0 QTJ 4 func88 (by kernel_rfl) (by kernel_rfl) ?_
 rintro⟨p,a,b,⟨⟩⟩ hp;rw[QYr p a b];simp only[QVD,QC.den,AV.same,AV.sameL,and_true,true_and]at hp ⊢;unfold okP at hp;simp only[qbA]at hp;obtain⟨h1,h2,h3⟩:=hp;unfold XU;simp only[beq_iff_eq,beq_eq_false_iff_ne];refine⟨λha=>⟨λhb=>?_,λhb=>by rw[if_pos ha,if_neg hb]⟩,λha=>⟨λha1=>?_,λha1=>by rw[if_neg ha,if_neg (λh=>ha1 h.1)]⟩⟩
 .refine⟨λ_=>⟨qde (QF7 h1 h3 h2 hb ha),by rw[if_pos ha,if_pos hb]⟩,λh=>absurd ha h⟩
 .refine⟨λhb=>⟨qde (QF7 h1 h2 h3 ha1 hb),by rw[if_neg ha,if_pos ⟨ha1,hb⟩]⟩,λhb=>by rw[if_neg ha,if_neg (λh=>hb h.2)]⟩
def QFQ:Tab:=Qa QDH 88 QSE
theorem QNs:Qc QFQ:=QTJ.add Qc1
def QMg:Qy×Edge×Edge×Unit->Bool×AV:=λ|(p,(a,(b,_)))=>(true,.tup [.int false .i64 (Kq p a b).1,.int false .i64 (Kq p a b).2])
def QRX:FC:=Kj (Kl QMg)
theorem Qbq(p:Qy)(a:Edge)(b:Edge):KR (mkE prog QFQ) (hnd (mkE prog QFQ) 14) false f39 (KG.enc ((p,a,b,()):Qy×Edge×Edge×Unit)) [] 0=QC.need (true) (QC.br (!p.ok) (QC.leaf (AV.tup [vj (0:Int),vj (1:Int)]) ([])) (QC.need (true) (QC.br (!a.ok) (QC.leaf (AV.tup [vj (0:Int),vj (1:Int)]) ([])) (QC.need (true) (QC.br (!b.ok) (QC.leaf (AV.tup [vj (0:Int), vj (1:Int)]) ([])) (QC.need (okP p a b) (QC.leaf (AV.tup [vi (XU p a b),vj (0:Int)]) ([])))))))):=by kernel_rfl
theorem QXX:QR prog 39 QRX:=by
 refine K0 QNs 14 func39 (by kernel_rfl) (by kernel_rfl) ?_
 rintro⟨p,a,b,⟨⟩⟩ hp;rw[Qbq p a b];simp only[QMg,QC.den,AV.same,AV.sameL,and_true,true_and]at hp ⊢;unfold Kq okP;cases p.ok<;>cases a.ok<;>cases b.ok<;>simp
def QDM:Tab:=Qa QFQ 39 QRX
theorem QNN:Qc QDM:=QNs.add QXX
