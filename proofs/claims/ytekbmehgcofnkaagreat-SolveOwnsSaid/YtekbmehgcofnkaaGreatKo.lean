/- - -/
import Derived.Test.YtekbmehgcofnkaaGreatProg
import Derived.Test.YtekbmehgcofnkaaGreatKm
import Derived.Test.YtekbmehgcofnkaaGreatKn
import Derived.KernelRfl
set_option linter.all false
open Go.Proofs.Tryz
open Go.IntKind (i64)
set_option maxRecDepth 100000
namespace Go.Proofs.YtekbmehgcofnkaaGreat
open Go.SX
theorem QBN:prog.follows .mixedOrders=true:=by kernel_rfl
abbrev Tab:=FuncId->Option FC
def QDl:Tab:=λ_=>none
def Qa(C:Tab)(f:FuncId)(fc:FC):Tab:=λg=>match g==f with
 | true=>some fc
 | false=>C g
def Qc(C:Tab):Prop:=∀ f fc,C f=some fc->QR prog f fc
theorem Qc.add{C:Tab}(h:Qc C){f:FuncId}{fc:FC}(hf:QR prog f fc):Qc (Qa C f fc):=by
 intro g fc' e;unfold Qa at e;split at e
 .rename_i hg;simp only[qsI]at e;subst e;have:g=f:=by simpa using hg
  subst this;exact hf
 .exact h g fc' e
theorem QI2:Qc QDl:=λ_ _ h=>by cases h
instance : Enc Sp where
  enc x := .agg [.int false .i64 x.lo,.int false .i64 x.hi]
  dec | .agg [.int _ .i64 a0,.int _ .i64 a1] => some ⟨a0,a1⟩ | _ => none
  ok v x h := by
    split at h <;> (try (cases h; done))
    simp only[qsI]at h; subst h; exact⟨λ_=>rfl,rfl⟩
instance : Enc Edge where
  enc x := .agg [.int false .i64 x.kind,.int false .i64 x.at_.lo,.int false .i64 x.at_.hi,.int false .i64 x.wide.lo,.int false .i64 x.wide.hi,.int false .i64 x.deep.lo,.int false .i64 x.deep.hi]
  dec | .agg [.int _ .i64 a0,.int _ .i64 a1,.int _ .i64 a2,.int _ .i64 a3,.int _ .i64 a4,.int _ .i64 a5,.int _ .i64 a6] => some ⟨a0,⟨a1,a2⟩,⟨a3,a4⟩,⟨a5,a6⟩⟩ | _ => none
  ok v x h := by
    split at h <;> (try (cases h; done))
    simp only[qsI]at h; subst h; exact⟨λ_=>rfl,rfl⟩
instance : Enc Q1 where
  enc x := .agg [.int false .i64 x.length,.int false .i64 x.aK,.int false .i64 x.oK,.int false .i64 x.dK.lo,.int false .i64 x.dK.hi]
  dec | .agg [.int _ .i64 a0,.int _ .i64 a1,.int _ .i64 a2,.int _ .i64 a3,.int _ .i64 a4] => some ⟨a0,a1,a2,⟨a3,a4⟩⟩ | _ => none
  ok v x h := by
    split at h <;> (try (cases h; done))
    simp only[qsI]at h; subst h; exact⟨λ_=>rfl,rfl⟩
structure Q3 where
 p:Q1
 t:Edge
 h:Edge
inductive D where
 | off (c:Q3)
 | wide (c:Q3)
 | deep (c:Q3)
instance : Enc Q3 where
  enc x := .agg [.int false .i64 x.p.length,.int false .i64 x.p.aK,.int false .i64 x.p.oK,.int false .i64 x.p.dK.lo,.int false .i64 x.p.dK.hi,
    .int false .i64 x.t.kind,.int false .i64 x.t.at_.lo,.int false .i64 x.t.at_.hi,.int false .i64 x.t.wide.lo,.int false .i64 x.t.wide.hi,.int false .i64 x.t.deep.lo,.int false .i64 x.t.deep.hi,
    .int false .i64 x.h.kind,.int false .i64 x.h.at_.lo,.int false .i64 x.h.at_.hi,.int false .i64 x.h.wide.lo,.int false .i64 x.h.wide.hi,.int false .i64 x.h.deep.lo,.int false .i64 x.h.deep.hi]
  dec | .agg [.int _ .i64 p0,.int _ .i64 p1,.int _ .i64 p2,.int _ .i64 p3,.int _ .i64 p4,
      .int _ .i64 a0,.int _ .i64 a1,.int _ .i64 a2,.int _ .i64 a3,.int _ .i64 a4,.int _ .i64 a5,.int _ .i64 a6,
      .int _ .i64 b0,.int _ .i64 b1,.int _ .i64 b2,.int _ .i64 b3,.int _ .i64 b4,.int _ .i64 b5,.int _ .i64 b6] =>
        some ⟨⟨p0,p1,p2,⟨p3,p4⟩⟩,⟨a0,⟨a1,a2⟩,⟨a3,a4⟩,⟨a5,a6⟩⟩,⟨b0,⟨b1,b2⟩,⟨b3,b4⟩,⟨b5,b6⟩⟩⟩
      | _ => none
  ok v x h := by
    split at h <;> (try (cases h; done))
    simp only[qsI]at h; subst h; exact⟨λ_=>rfl,rfl⟩
instance : Enc D where
  enc | .off c => .ifc 136 (Enc.enc c)
      | .wide c => .ifc 132 (Enc.enc c)
      | .deep c => .ifc 137 (Enc.enc c)
  dec | .ifc t v => match (Enc.dec v : Option Q3)with
        | some c => if t = 136 then some (.off c)else if t = 132 then some (.wide c)else if t = 137 then some (.deep c)else none
        | none => none
      | _ => none
  ok v x h := by
    split at h <;> (try (cases h; done))
    split at h <;> (try (cases h; done))
    rename_i t v c hc;have h1 := Enc.ok _ c hc;split at h
    . rename_i e; simp only[qsI]at h; subst h e
      exact⟨λr=>by simp only[AV.den]; rw[h1.1 r],h1.2⟩
    . split at h
      . rename_i e; simp only[qsI]at h; subst h e
        exact⟨λr=>by simp only[AV.den]; rw[h1.1 r],h1.2⟩
      . split at h <;> (try (cases h; done))
        rename_i e; simp only[qsI]at h; subst h e;exact⟨λr=>by simp only[AV.den]; rw[h1.1 r],h1.2⟩
theorem w64{n:Int}(h1 : -9223372036854775808<=n)(h2:n<=9223372036854775807):i64.wrap n=n:=IntWalk.i64_in n ⟨h1,h2⟩
def Vc(e:Edge):Prop:=(0<=e.at_.lo/\e.at_.lo<=10000/\0<=e.at_.hi/\e.at_.hi<=10000)/\(0<=e.wide.lo/\e.wide.lo<=3000/\0<=e.wide.hi/\e.wide.hi<=3000)/\(0<=e.deep.lo/\e.deep.lo<=3000/\0<=e.deep.hi/\e.deep.hi<=3000)
def Vp(p:Q1):Prop:=(1<=p.length/\p.length<=10000)/\(0<=p.aK/\p.aK<=500)/\(0<=p.oK/\p.oK<=500)/\(0<=p.dK.lo/\p.dK.lo<=100)/\0<=p.dK.hi/\p.dK.hi<=100
def Q3.B(c:Q3):Prop:=Vp c.p/\Vc c.t/\Vc c.h
instance (e : Edge) : Decidable (Vc e) := by unfold Vc; infer_instance
instance (p : Q1) : Decidable (Vp p) := by unfold Vp; infer_instance
instance (c : Q3) : Decidable c.B := by unfold Q3.B; infer_instance
def D.by_:D->Sp
 | .off c=>JC c.p c.t c.h
 | .wide c=>JF c.t c.h
 | .deep c=>JB c.t c.h
def D.lo:D->Int
 | .off c => -c.p.aK
 | _=>0
def D.hi:D->Int
 | .off c=>c.p.aK
 | .wide c=>c.p.oK
 | .deep c=>c.p.oK
def D.c:D->Q3
 | .off c=>c
 | .wide c=>c
 | .deep c=>c
abbrev mkE(P:Program)(C:Tab):Env:=⟨P,C,jk P,false,λ_=>false,false,false,false⟩
theorem QN{C:Tab}(hC:Qc C):(mkE prog C).Sound:={ c:=hC,m:=QA1 prog,mixed:=QBN }
abbrev mkF(P:Program)(C:Tab):Env:=⟨P,C,jk P,false,λ_=>false,false,false,true⟩
theorem JJ{C:Tab}(hC:Qc C):(mkF prog C).Sound:={ c:=hC,m:=QA1 prog,mixed:=QBN }
abbrev mkS(P:Program)(C:Tab):Env:=⟨P,C,jk P,true,λ_=>false,false,false,false⟩
theorem zd{C:Tab}(hC:Qc C):(mkS prog C).Sound:={ c:=hC,m:=QA1 prog,mixed:=QBN }
def binds(fs:List FuncId):Op->Bool
 | .call ⟨.value (.func f),_,_⟩=>fs.contains f
 | .binOp .mul _ _ _ _=>true
 | _=>false
def Qk(fn:Func):Code:=fn.body.getD .skip
theorem Kz{C:Tab}(hC:Qc C)(d:Nat){f:FuncId}{fn:Func}(hf:prog.funcs[f]? = some fn)(hb:fn.body=some (Qk fn))(hgo:Jl prog f=true){α:Type}[KA α]{F:α->Bool×AV}(hF:∀ x,(F x).1=true->(KY (mkE prog C) (hnd (mkE prog C) d) false fn (KA.enc x) [] 0).den λu _=>u.same (F x).2):QR prog f (Kk (Ko F)):=
 QPt (QN hC) hf hb hgo (λG _ hG=>Qu (QN hC) d G _ hG) hF
def QI1:Sp×Int×Int×Unit->Bool×AV:=λ|(s,(a,(b,_)))=>(true,.bool false (s.isIn a b))
def QMO:FC:=Kk (Ko QI1)
theorem Qdl(s:Sp)(a:Int)(b:Int):KY (mkE prog QDl) (hnd (mkE prog QDl) 0) false f77 (KA.enc ((s,a,b,()):Sp×Int×Int×Unit)) [] 0=QC.br (decide (a<=s.lo)) (QC.br (decide (s.lo<=s.hi)) (QC.leaf (AV.bool false (decide (s.hi<=b))) ([])) (QC.leaf (AV.bool true false) ([]))) (QC.leaf (AV.bool true false) ([])):=by kernel_rfl
theorem Qdn:QR prog 77 QMO:=by
 refine Kz QI2 0 func77 (by kernel_rfl) (by kernel_rfl) ?_
 rintro⟨s,a,b,⟨⟩⟩ hp;rw[Qdl s a b];simp only[QI1,QC.den,AV.same,AV.sameL,and_true,true_and]at hp ⊢
 (repeat' (first|(refine aI ?_ ?_)|(intro _)))<;>simp_all [Sp.isIn]<;>omega
def QCB:Tab:=Qa QDl 77 QMO
theorem QMF:Qc QCB:=QI2.add Qdn
def QQm:Int×Int×Int×Unit->Bool×AV:=λ|(n,(a,(b,_)))=>(true,.bool false (Qy n a b))
def QRB:FC:=Kk (Ko QQm)
theorem QXT(n:Int)(a:Int)(b:Int):KY (mkE prog QCB) (hnd (mkE prog QCB) 0) false f87 (KA.enc ((n,a,b,()):Int×Int×Int×Unit)) [] 0=QC.br (decide (a<=n)) (QC.leaf (AV.bool false (decide (n<=b))) ([])) (QC.leaf (AV.bool true false) ([])):=by kernel_rfl
theorem QdB:QR prog 87 QRB:=by
 refine Kz QMF 0 func87 (by kernel_rfl) (by kernel_rfl) ?_
 rintro⟨n,a,b,⟨⟩⟩ hp;rw[QXT n a b];simp only[QQm,QC.den,AV.same,AV.sameL,and_true,true_and]at hp ⊢
 (repeat' (first|(refine aI ?_ ?_)|(intro _)))<;>simp_all [Qy]<;>omega
def QEV:Tab:=Qa QCB 87 QRB
theorem QOY:Qc QEV:=QMF.add QdB
def QJw:Edge×Unit->Bool×AV:=λ|(a,_)=>(true,.bool false a.ok)
def QJ0:FC:=Kk (Ko QJw)
theorem QVD(a:Edge):KY (mkE prog QEV) (hnd (mkE prog QEV) 0) false f86 (KA.enc ((a,()):Edge×Unit)) [] 0=QC.br (a.kind==(0:Int)) (QC.leaf (AV.bool true true) ([])) (QC.br (a.kind==(1:Int)) (QC.need (true) (QC.br (a.at_.isIn (0:Int) (10000:Int)) (QC.need (true) (QC.br (a.wide.isIn (1:Int) (3000:Int)) (QC.need (true) (QC.leaf (AV.bool false (a.deep.isIn (1:Int) (3000:Int))) ([]))) (QC.leaf (AV.bool true false) ([])))) (QC.leaf (AV.bool true false) ([])))) (QC.br (a.kind==(2:Int)) (QC.need (true) (QC.br (a.at_.isIn (0:Int) (10000:Int)) (QC.need (true) (QC.br (a.wide.isIn (1:Int) (3000:Int)) (QC.need (true) (QC.leaf (AV.bool false (a.deep.isIn (1:Int) (3000:Int))) ([]))) (QC.leaf (AV.bool true false) ([])))) (QC.leaf (AV.bool true false) ([])))) (QC.leaf (AV.bool true false) ([])))):=by kernel_rfl
theorem QVY:QR prog 86 QJ0:=by
 refine Kz QOY 0 func86 (by kernel_rfl) (by kernel_rfl) ?_
 rintro⟨a,⟨⟩⟩ hp;rw[QVD a];simp only[QJw,QC.den,AV.same,AV.sameL,and_true,true_and]at hp ⊢
 (repeat' (first|(refine aI ?_ ?_)|(intro _)))<;>simp_all [Edge.ok]
def QBp:Tab:=Qa QEV 86 QJ0
theorem QOB:Qc QBp:=QOY.add QVY
def QNj:Q1×Unit->Bool×AV:=λ|(p,_)=>(true,.bool false p.ok)
def QKX:FC:=Kk (Ko QNj)
theorem QX1(p:Q1):KY (mkE prog QBp) (hnd (mkE prog QBp) 0) false f75 (KA.enc ((p,()):Q1×Unit)) [] 0=QC.need (true) (QC.br (Qy p.length (1:Int) (10000:Int)) (QC.need (true) (QC.br (Qy p.aK (0:Int) (500:Int)) (QC.need (true) (QC.br (Qy p.oK (0:Int) (500:Int)) (QC.need (true) (QC.leaf (AV.bool false (p.dK.isIn (0:Int) (100:Int))) ([]))) (QC.leaf (AV.bool true false) ([])))) (QC.leaf (AV.bool true false) ([])))) (QC.leaf (AV.bool true false) ([]))):=by kernel_rfl
theorem QYj:QR prog 75 QKX:=by
 refine Kz QOB 0 func75 (by kernel_rfl) (by kernel_rfl) ?_
 rintro⟨p,⟨⟩⟩ hp;rw[QX1 p];simp only[QNj,QC.den,AV.same,AV.sameL,and_true,true_and]at hp ⊢
 (repeat' (first|(refine aI ?_ ?_)|(intro _)))<;>simp_all [Q1.ok]
def QBy:Tab:=Qa QBp 75 QKX
theorem QJF:Qc QBy:=QOB.add QYj
def QRn:Sp×Sp×Unit->Bool×AV:=λ|(s,(o,_))=>(decide (Sm s.lo/\Sm s.hi/\Sm o.lo/\Sm o.hi),Enc.enc (s.less o))
def QK1:FC:=Kk (Ko QRn)
theorem Qek(s:Sp)(o:Sp):KY (mkE prog QBy) (hnd (mkE prog QBy) 0) false f123 (KA.enc ((s,o,()):Sp×Sp×Unit)) [] 0=QC.leaf (AV.agg [vi (i64.wrap (s.lo-o.hi)),vi (i64.wrap (s.hi-o.lo))]) ([]):=by kernel_rfl
theorem QeM:QR prog 123 QK1:=by
 refine Kz QJF 0 func123 (by kernel_rfl) (by kernel_rfl) ?_
 rintro⟨s,o,⟨⟩⟩ hp;rw[Qek s o];simp only[QRn,QC.den,AV.same,AV.sameL,and_true,true_and]at hp ⊢;have hp:=qdt hp;unfold Sm at hp;simp only[Sp.less,Enc.enc,AV.same,AV.sameL];rw[w64 (by omega) (by omega),w64 (by omega) (by omega)];simp
def QCo:Tab:=Qa QBy 123 QK1
theorem QKi:Qc QCo:=QJF.add QeM
def QQv:Sp×Sp×Unit->Bool×AV:=λ|(s,(o,_))=>(decide (Sm s.lo/\Sm s.hi/\Sm o.lo/\Sm o.hi),Enc.enc (s.plus o))
def QQy:FC:=Kk (Ko QQv)
theorem QYX(s:Sp)(o:Sp):KY (mkE prog QCo) (hnd (mkE prog QCo) 0) false f124 (KA.enc ((s,o,()):Sp×Sp×Unit)) [] 0=QC.leaf (AV.agg [vi (i64.wrap (s.lo+o.lo)),vi (i64.wrap (s.hi+o.hi))]) ([]):=by kernel_rfl
theorem Qew:QR prog 124 QQy:=by
 refine Kz QKi 0 func124 (by kernel_rfl) (by kernel_rfl) ?_
 rintro⟨s,o,⟨⟩⟩ hp;rw[QYX s o];simp only[QQv,QC.den,AV.same,AV.sameL,and_true,true_and]at hp ⊢;have hp:=qdt hp;unfold Sm at hp;simp only[Sp.plus,Enc.enc,AV.same,AV.sameL];rw[w64 (by omega) (by omega),w64 (by omega) (by omega)];simp
def QDo:Tab:=Qa QCo 124 QQy
theorem QLH:Qc QDo:=QKi.add Qew
def QRy:Q3×Unit->Bool×AV:=λ|(c,_)=>(decide c.B,Enc.enc (JC c.p c.t c.h))
def QP4:FC:=Kk (Ko QRy)
theorem QaK(c:Q3):KY (mkE prog QDo) (hnd (mkE prog QDo) 0) false f208 (KA.enc ((c,()):Q3×Unit)) [] 0=QC.need (decide (Sm c.t.at_.lo/\Sm c.t.at_.hi/\Sm c.h.at_.lo/\Sm c.h.at_.hi)) (QC.need (decide (Sm (c.t.at_.plus c.h.at_).lo/\Sm (c.t.at_.plus c.h.at_).hi/\Sm (i64.wrap ((0:Int)-c.p.length))/\Sm (i64.wrap ((0:Int)-c.p.length)))) (QC.leaf (AV.agg [vi ((c.t.at_.plus c.h.at_).plus (Sp.mk (i64.wrap ((0:Int)-c.p.length)) (i64.wrap ((0:Int)-c.p.length)))).lo,vi ((c.t.at_.plus c.h.at_).plus (Sp.mk (i64.wrap ((0:Int)-c.p.length)) (i64.wrap ((0:Int)-c.p.length)))).hi]) ([]))):=by kernel_rfl
theorem QSo:QR prog 208 QP4:=by
 refine Kz QLH 0 func208 (by kernel_rfl) (by kernel_rfl) ?_
 rintro⟨c,⟨⟩⟩ hp;rw[QaK c];simp only[QRy,QC.den,AV.same,AV.sameL,and_true,true_and]at hp ⊢;have hp:=qdt hp;obtain⟨h1,h2,h3⟩:=hp;unfold Vp at h1;unfold Vc at h2 h3;have e:i64.wrap (0-c.p.length) = -c.p.length:=by rw[w64 (by omega) (by omega)];omega
 rw[e];refine⟨qde (by unfold Sm;omega),qde (by unfold Sm Sp.plus;simp only;omega),?_⟩
 simp[JC,Sp.plus,Enc.enc,AV.same,AV.sameL]
def QEg:Tab:=Qa QDo 208 QP4
theorem QRv:Qc QEg:=QLH.add QSo
def QPM:Q3×Unit->Bool×AV:=λ|(c,_)=>(decide c.B,Enc.enc (JF c.t c.h))
def QN2:FC:=Kk (Ko QPM)
theorem Qe4(c:Q3):KY (mkE prog QEg) (hnd (mkE prog QEg) 0) false f83 (KA.enc ((c,()):Q3×Unit)) [] 0=QC.need (decide (Sm c.h.wide.lo/\Sm c.h.wide.hi/\Sm c.t.wide.lo/\Sm c.t.wide.hi)) (QC.leaf (AV.agg [vi (c.h.wide.less c.t.wide).lo,vi (c.h.wide.less c.t.wide).hi]) ([])):=by kernel_rfl
theorem QYb:QR prog 83 QN2:=by
 refine Kz QRv 0 func83 (by kernel_rfl) (by kernel_rfl) ?_
 rintro⟨c,⟨⟩⟩ hp;rw[Qe4 c];simp only[QPM,QC.den,AV.same,AV.sameL,and_true,true_and]at hp ⊢;have hp:=qdt hp;obtain⟨h1,h2,h3⟩:=hp;unfold Vp at h1;unfold Vc at h2 h3;refine⟨qde (by unfold Sm;omega),?_⟩
 simp[JF,Sp.less,Enc.enc,AV.same,AV.sameL]
def QDY:Tab:=Qa QEg 83 QN2
theorem QJm:Qc QDY:=QRv.add QYb
def QJL:Q3×Unit->Bool×AV:=λ|(c,_)=>(decide c.B,Enc.enc (JB c.t c.h))
def QMM:FC:=Kk (Ko QJL)
theorem Qao(c:Q3):KY (mkE prog QDY) (hnd (mkE prog QDY) 0) false f210 (KA.enc ((c,()):Q3×Unit)) [] 0=QC.need (decide (Sm c.h.deep.lo/\Sm c.h.deep.hi/\Sm c.t.deep.lo/\Sm c.t.deep.hi)) (QC.leaf (AV.agg [vi (c.h.deep.less c.t.deep).lo,vi (c.h.deep.less c.t.deep).hi]) ([])):=by kernel_rfl
theorem Qdh:QR prog 210 QMM:=by
 refine Kz QJm 0 func210 (by kernel_rfl) (by kernel_rfl) ?_
 rintro⟨c,⟨⟩⟩ hp;rw[Qao c];simp only[QJL,QC.den,AV.same,AV.sameL,and_true,true_and]at hp ⊢;have hp:=qdt hp;obtain⟨h1,h2,h3⟩:=hp;unfold Vp at h1;unfold Vc at h2 h3;refine⟨qde (by unfold Sm;omega),?_⟩
 simp[JB,Sp.less,Enc.enc,AV.same,AV.sameL]
def QD9:Tab:=Qa QDY 210 QMM
theorem QQK:Qc QD9:=QJm.add Qdh
def QNo:Q3×Unit->Bool×AV:=λ|(c,_)=>(decide c.B,.tup [.int false .i64 (-c.p.aK),.int false .i64 c.p.aK])
def QK5:FC:=Kk (Ko QNo)
theorem QbC(c:Q3):KY (mkE prog QD9) (hnd (mkE prog QD9) 0) false f207 (KA.enc ((c,()):Q3×Unit)) [] 0=QC.leaf (AV.tup [vi (i64.wrap ((0:Int)-c.p.aK)),vi c.p.aK]) ([]):=by kernel_rfl
theorem QVp:QR prog 207 QK5:=by
 refine Kz QQK 0 func207 (by kernel_rfl) (by kernel_rfl) ?_
 rintro⟨c,⟨⟩⟩ hp;rw[QbC c];simp only[QNo,QC.den,AV.same,AV.sameL,and_true,true_and]at hp ⊢;have hp:=qdt hp;obtain⟨h1,h2,h3⟩:=hp;unfold Vp at h1;rw[w64 (by omega) (by omega)];omega
def QEf:Tab:=Qa QD9 207 QK5
theorem QJ4:Qc QEf:=QQK.add QVp
def QSC:Q3×Unit->Bool×AV:=λ|(c,_)=>(decide c.B,.tup [.int false .i64 0,.int false .i64 c.p.oK])
def QLC:FC:=Kk (Ko QSC)
theorem Qd5(c:Q3):KY (mkE prog QEf) (hnd (mkE prog QEf) 0) false f206 (KA.enc ((c,()):Q3×Unit)) [] 0=QC.leaf (AV.tup [vj (0:Int),vi c.p.oK]) ([]):=by kernel_rfl
theorem QXf:QR prog 206 QLC:=by
 refine Kz QJ4 0 func206 (by kernel_rfl) (by kernel_rfl) ?_
 rintro⟨c,⟨⟩⟩ hp;rw[Qd5 c];simp only[QSC,QC.den,AV.same,AV.sameL,and_true,true_and]at hp ⊢
def QCr:Tab:=Qa QEf 206 QLC
theorem QNg:Qc QCr:=QJ4.add QXf
def QR1:Q3×Unit->Bool×AV:=λ|(c,_)=>(decide c.B,.tup [.int false .i64 0,.int false .i64 c.p.oK])
def QRq:FC:=Kk (Ko QR1)
theorem QbD(c:Q3):KY (mkE prog QCr) (hnd (mkE prog QCr) 0) false f209 (KA.enc ((c,()):Q3×Unit)) [] 0=QC.leaf (AV.tup [vj (0:Int),vi c.p.oK]) ([]):=by kernel_rfl
theorem QZz:QR prog 209 QRq:=by
 refine Kz QNg 0 func209 (by kernel_rfl) (by kernel_rfl) ?_
 rintro⟨c,⟨⟩⟩ hp;rw[QbD c];simp only[QR1,QC.den,AV.same,AV.sameL,and_true,true_and]at hp ⊢
def qd:Tab:=Qa QCr 209 QRq
theorem QM5:Qc qd:=QNg.add QZz
theorem QEO{sl sh lo hi dh:Int}(h1 : -100000<=sl/\sl<=100000)(h2 : -100000<=sh/\sh<=100000)(h3 : -500<=lo/\lo<=500)(h4 : -500<=hi/\hi<=500)(h5:0<=dh/\dh<=100):
  (decide (i64.wrap (sl*i64.wrap (1000+dh))≥i64.wrap (1000*lo))=true->decide (i64.wrap (sh*i64.wrap (1000+dh))<=i64.wrap (1000*hi))=VB sl sh lo hi dh) /\
  (decide (i64.wrap (sl*i64.wrap (1000+dh))≥i64.wrap (1000*lo))=false->false=VB sl sh lo hi dh):=by
 obtain⟨m1,m2⟩:=QGI (a:=sl) (m:=1000+dh) (by omega) (by omega) (by omega) (by omega)
 obtain⟨m3,m4⟩:=QGI (a:=sh) (m:=1000+dh) (by omega) (by omega) (by omega) (by omega)
 rw[w64 (n:=1000+dh) (by omega) (by omega),w64 (n:=sl*_) (by omega) (by omega),w64 (n:=sh*_) (by omega) (by omega),w64 (n:=1000*lo) (by omega) (by omega),w64 (n:=1000*hi) (by omega) (by omega)]
 exact⟨λh=>Qbw (qdt h),λh=>QZv (by have:=qdf h;omega)⟩
theorem QC4{sl sh lo hi dl:Int}(h1 : -100000<=sl/\sl<=100000)(h2 : -100000<=sh/\sh<=100000)(h3 : -500<=lo/\lo<=500)(h4 : -500<=hi/\hi<=500)(h5:0<=dl/\dl<=100):
  (decide (i64.wrap (1000*lo)<=i64.wrap (min (max 0 sl) sh*i64.wrap (1000+dl)))=true->decide (i64.wrap (min (max 0 sl) sh*i64.wrap (1000+dl))<=i64.wrap (1000*hi))=JI sl sh lo hi dl) /\
  (decide (i64.wrap (1000*lo)<=i64.wrap (min (max 0 sl) sh*i64.wrap (1000+dl)))=false->false=JI sl sh lo hi dl):=by
 obtain⟨m1,m2⟩:=QGI (a:=min (max 0 sl) sh) (m:=1000+dl) (by omega) (by omega) (by omega) (by omega)
 rw[w64 (n:=1000+dl) (by omega) (by omega),w64 (n:=min (max 0 sl) sh*_) (by omega) (by omega),w64 (n:=1000*lo) (by omega) (by omega),w64 (n:=1000*hi) (by omega) (by omega)]
 exact⟨λh=>Qez (qdt h),λh=>QSr (by have:=qdf h;omega)⟩
theorem QQk:i64.wrap (1000*0)=0:=by decide
theorem QGs{sl sh hi dh:Int}(h1 : -100000<=sl/\sl<=100000)(h2 : -100000<=sh/\sh<=100000)(h4 : -500<=hi/\hi<=500)(h5:0<=dh/\dh<=100):
  (decide (i64.wrap (sl*i64.wrap (1000+dh))≥0)=true->decide (i64.wrap (sh*i64.wrap (1000+dh))<=i64.wrap (1000*hi))=VB sl sh 0 hi dh) /\
  (decide (i64.wrap (sl*i64.wrap (1000+dh))≥0)=false->false=VB sl sh 0 hi dh):=by
 have:=QEO (lo:=0) h1 h2 (by omega) h4 h5
 rw[QQk]at this;exact this
theorem QHG{sl sh hi dl:Int}(h1 : -100000<=sl/\sl<=100000)(h2 : -100000<=sh/\sh<=100000)(h4 : -500<=hi/\hi<=500)(h5:0<=dl/\dl<=100):
  (decide (0<=i64.wrap (min (max 0 sl) sh*i64.wrap (1000+dl)))=true->decide (i64.wrap (min (max 0 sl) sh*i64.wrap (1000+dl))<=i64.wrap (1000*hi))=JI sl sh 0 hi dl) /\
  (decide (0<=i64.wrap (min (max 0 sl) sh*i64.wrap (1000+dl)))=false->false=JI sl sh 0 hi dl):=by
 have:=QC4 (lo:=0) h1 h2 (by omega) h4 h5
 rw[QQk]at this;exact this
def QD8:Q3×D×Unit->Bool×AV:=λ|(x,(d,_))=>(decide (x.B/\d.c.B),.bool false (VB d.by_.lo d.by_.hi d.lo d.hi x.p.dK.hi))
def QQ6:FC:=Kk (Ko QD8)
theorem QTb(x:Q3)(c:Q3):KY (mkE prog qd) (hnd (mkE prog qd) 0) false f85 (KA.enc ((x,(D.off c),()):Q3×D×Unit)) [] 0=QC.need (decide c.B) (QC.need (decide c.B) (QC.br (decide (i64.wrap ((JC c.p c.t c.h).lo*i64.wrap ((1000:Int)+x.p.dK.hi))≥i64.wrap ((1000:Int) * -c.p.aK))) (QC.leaf (AV.bool false (decide (i64.wrap ((JC c.p c.t c.h).hi*i64.wrap ((1000:Int)+x.p.dK.hi))<=i64.wrap ((1000:Int)*c.p.aK)))) ([])) (QC.leaf (AV.bool true false) ([])))):=by kernel_rfl
theorem QcA(x:Q3)(c:Q3):KY (mkE prog qd) (hnd (mkE prog qd) 0) false f85 (KA.enc ((x,(D.wide c),()):Q3×D×Unit)) [] 0=QC.need (decide c.B) (QC.need (decide c.B) (QC.br (decide (i64.wrap ((JF c.t c.h).lo*i64.wrap ((1000:Int)+x.p.dK.hi))≥(0:Int))) (QC.leaf (AV.bool false (decide (i64.wrap ((JF c.t c.h).hi*i64.wrap ((1000:Int)+x.p.dK.hi))<=i64.wrap ((1000:Int)*c.p.oK)))) ([])) (QC.leaf (AV.bool true false) ([])))):=by kernel_rfl
theorem QZg(x:Q3)(c:Q3):KY (mkE prog qd) (hnd (mkE prog qd) 0) false f85 (KA.enc ((x,(D.deep c),()):Q3×D×Unit)) [] 0=QC.need (decide c.B) (QC.need (decide c.B) (QC.br (decide (i64.wrap ((JB c.t c.h).lo*i64.wrap ((1000:Int)+x.p.dK.hi))≥(0:Int))) (QC.leaf (AV.bool false (decide (i64.wrap ((JB c.t c.h).hi*i64.wrap ((1000:Int)+x.p.dK.hi))<=i64.wrap ((1000:Int)*c.p.oK)))) ([])) (QC.leaf (AV.bool true false) ([])))):=by kernel_rfl
theorem QXV:QR prog 85 QQ6:=by
 refine Kz QM5 0 func85 (by kernel_rfl) (by kernel_rfl) ?_
 rintro⟨x,(c|c|c),⟨⟩⟩ hp
 .rw[QTb x c];simp only[QD8,QC.den,AV.same,AV.sameL,and_true,true_and]at hp ⊢;have hq:=qdt hp;obtain⟨⟨hx,_⟩,hc⟩:=hq;refine⟨qde hc,qde hc,?_⟩;obtain⟨h1,h2,h3⟩:=hc;unfold Vp at h1 hx;unfold Vc at h2 h3;simp only[D.c]at h1 h2 h3
  first
   | (refine QEO ?_ ?_ ?_ ?_ ?_<;>(try simp only[JC,JF,JB])<;>omega)
   | (refine QGs ?_ ?_ ?_ ?_<;>(try simp only[JC,JF,JB])<;>omega)
 .rw[QcA x c];simp only[QD8,QC.den,AV.same,AV.sameL,and_true,true_and]at hp ⊢;have hq:=qdt hp;obtain⟨⟨hx,_⟩,hc⟩:=hq;refine⟨qde hc,qde hc,?_⟩;obtain⟨h1,h2,h3⟩:=hc;unfold Vp at h1 hx;unfold Vc at h2 h3;simp only[D.c]at h1 h2 h3
  first
   | (refine QEO ?_ ?_ ?_ ?_ ?_<;>(try simp only[JC,JF,JB])<;>omega)
   | (refine QGs ?_ ?_ ?_ ?_<;>(try simp only[JC,JF,JB])<;>omega)
 .rw[QZg x c];simp only[QD8,QC.den,AV.same,AV.sameL,and_true,true_and]at hp ⊢;have hq:=qdt hp;obtain⟨⟨hx,_⟩,hc⟩:=hq;refine⟨qde hc,qde hc,?_⟩;obtain⟨h1,h2,h3⟩:=hc;unfold Vp at h1 hx;unfold Vc at h2 h3;simp only[D.c]at h1 h2 h3
  first
   | (refine QEO ?_ ?_ ?_ ?_ ?_<;>(try simp only[JC,JF,JB])<;>omega)
   | (refine QGs ?_ ?_ ?_ ?_<;>(try simp only[JC,JF,JB])<;>omega)
def W3:Tab:=Qa qd 85 QQ6
theorem QPx:Qc W3:=QM5.add QXV
def QB6:Q3×D×Unit->Bool×AV:=λ|(x,(d,_))=>(decide (x.B/\d.c.B),.bool false (JI d.by_.lo d.by_.hi d.lo d.hi x.p.dK.lo))
def QLd:FC:=Kk (Ko QB6)
theorem QfN(x:Q3)(c:Q3):KY (mkE prog W3) (hnd (mkE prog W3) 0) false f148 (KA.enc ((x,(D.off c),()):Q3×D×Unit)) [] 0=QC.need (decide c.B) (QC.need (decide c.B) (QC.br (decide (i64.wrap ((1000:Int) * -c.p.aK)<=i64.wrap (min (max (0:Int) (JC c.p c.t c.h).lo) (JC c.p c.t c.h).hi*i64.wrap ((1000:Int)+x.p.dK.lo)))) (QC.leaf (AV.bool false (decide (i64.wrap (min (max (0:Int) (JC c.p c.t c.h).lo) (JC c.p c.t c.h).hi*i64.wrap ((1000:Int)+x.p.dK.lo))<=i64.wrap ((1000:Int)*c.p.aK)))) ([])) (QC.leaf (AV.bool true false) ([])))):=by kernel_rfl
theorem Qc6(x:Q3)(c:Q3):KY (mkE prog W3) (hnd (mkE prog W3) 0) false f148 (KA.enc ((x,(D.wide c),()):Q3×D×Unit)) [] 0=QC.need (decide c.B) (QC.need (decide c.B) (QC.br (decide ((0:Int)<=i64.wrap (min (max (0:Int) (JF c.t c.h).lo) (JF c.t c.h).hi*i64.wrap ((1000:Int)+x.p.dK.lo)))) (QC.leaf (AV.bool false (decide (i64.wrap (min (max (0:Int) (JF c.t c.h).lo) (JF c.t c.h).hi*i64.wrap ((1000:Int)+x.p.dK.lo))<=i64.wrap ((1000:Int)*c.p.oK)))) ([])) (QC.leaf (AV.bool true false) ([])))):=by kernel_rfl
theorem QdS(x:Q3)(c:Q3):KY (mkE prog W3) (hnd (mkE prog W3) 0) false f148 (KA.enc ((x,(D.deep c),()):Q3×D×Unit)) [] 0=QC.need (decide c.B) (QC.need (decide c.B) (QC.br (decide ((0:Int)<=i64.wrap (min (max (0:Int) (JB c.t c.h).lo) (JB c.t c.h).hi*i64.wrap ((1000:Int)+x.p.dK.lo)))) (QC.leaf (AV.bool false (decide (i64.wrap (min (max (0:Int) (JB c.t c.h).lo) (JB c.t c.h).hi*i64.wrap ((1000:Int)+x.p.dK.lo))<=i64.wrap ((1000:Int)*c.p.oK)))) ([])) (QC.leaf (AV.bool true false) ([])))):=by kernel_rfl
theorem QaT:QR prog 148 QLd:=by
 refine Kz QPx 0 func148 (by kernel_rfl) (by kernel_rfl) ?_
 rintro⟨x,(c|c|c),⟨⟩⟩ hp
 .rw[QfN x c];simp only[QB6,QC.den,AV.same,AV.sameL,and_true,true_and]at hp ⊢;have hq:=qdt hp;obtain⟨⟨hx,_⟩,hc⟩:=hq;refine⟨qde hc,qde hc,?_⟩;obtain⟨h1,h2,h3⟩:=hc;unfold Vp at h1 hx;unfold Vc at h2 h3;simp only[D.c]at h1 h2 h3
  first
   | (refine QC4 ?_ ?_ ?_ ?_ ?_<;>(try simp only[JC,JF,JB])<;>omega)
   | (refine QHG ?_ ?_ ?_ ?_<;>(try simp only[JC,JF,JB])<;>omega)
 .rw[Qc6 x c];simp only[QB6,QC.den,AV.same,AV.sameL,and_true,true_and]at hp ⊢;have hq:=qdt hp;obtain⟨⟨hx,_⟩,hc⟩:=hq;refine⟨qde hc,qde hc,?_⟩;obtain⟨h1,h2,h3⟩:=hc;unfold Vp at h1 hx;unfold Vc at h2 h3;simp only[D.c]at h1 h2 h3
  first
   | (refine QC4 ?_ ?_ ?_ ?_ ?_<;>(try simp only[JC,JF,JB])<;>omega)
   | (refine QHG ?_ ?_ ?_ ?_<;>(try simp only[JC,JF,JB])<;>omega)
 .rw[QdS x c];simp only[QB6,QC.den,AV.same,AV.sameL,and_true,true_and]at hp ⊢;have hq:=qdt hp;obtain⟨⟨hx,_⟩,hc⟩:=hq;refine⟨qde hc,qde hc,?_⟩;obtain⟨h1,h2,h3⟩:=hc;unfold Vp at h1 hx;unfold Vc at h2 h3;simp only[D.c]at h1 h2 h3
  first
   | (refine QC4 ?_ ?_ ?_ ?_ ?_<;>(try simp only[JC,JF,JB])<;>omega)
   | (refine QHG ?_ ?_ ?_ ?_<;>(try simp only[JC,JF,JB])<;>omega)
def QBi:Tab:=Qa W3 148 QLd
theorem QOC:Qc QBi:=QPx.add QaT
def QSE:Q3×Unit->Bool×AV:=λ|(x,_)=>(decide x.B,vi (vC x.p x.t x.h))
def QLL:FC:=Kk (Ko QSE)
theorem Qee(x:Q3):KY (mkE prog QBi) (hnd (mkE prog QBi) 14) false f129 (KA.enc ((x,()):Q3×Unit)) [] 0 = .need (decide (x.B/\(D.off x).c.B)) (.br (!VB (D.off x).by_.lo (D.off x).by_.hi (D.off x).lo (D.off x).hi x.p.dK.hi) (.need (decide (x.B/\(D.off x).c.B)) (.br (!JI (D.off x).by_.lo (D.off x).by_.hi (D.off x).lo (D.off x).hi x.p.dK.lo) (.leaf (vj 0) ([])) (.need (decide (x.B/\(D.wide x).c.B)) (.br (!JI (D.wide x).by_.lo (D.wide x).by_.hi (D.wide x).lo (D.wide x).hi x.p.dK.lo) (.leaf (vj 0) ([])) (.need (decide (x.B/\(D.deep x).c.B)) (.br (!JI (D.deep x).by_.lo (D.deep x).by_.hi (D.deep x).lo (D.deep x).hi x.p.dK.lo) (.leaf (vj 0) ([])) (.leaf (vj 1) ([])))))))) (.need (decide (x.B/\(D.wide x).c.B)) (.br (!VB (D.wide x).by_.lo (D.wide x).by_.hi (D.wide x).lo (D.wide x).hi x.p.dK.hi) (.need (decide (x.B/\(D.off x).c.B)) (.br (!JI (D.off x).by_.lo (D.off x).by_.hi (D.off x).lo (D.off x).hi x.p.dK.lo) (.leaf (vj 0) ([])) (.need (decide (x.B/\(D.wide x).c.B)) (.br (!JI (D.wide x).by_.lo (D.wide x).by_.hi (D.wide x).lo (D.wide x).hi x.p.dK.lo) (.leaf (vj 0) ([])) (.need (decide (x.B/\(D.deep x).c.B)) (.br (!JI (D.deep x).by_.lo (D.deep x).by_.hi (D.deep x).lo (D.deep x).hi x.p.dK.lo) (.leaf (vj 0) ([])) (.leaf (vj 1) ([])))))))) (.need (decide (x.B/\(D.deep x).c.B)) (.br (!VB (D.deep x).by_.lo (D.deep x).by_.hi (D.deep x).lo (D.deep x).hi x.p.dK.hi) (.need (decide (x.B/\(D.off x).c.B)) (.br (!JI (D.off x).by_.lo (D.off x).by_.hi (D.off x).lo (D.off x).hi x.p.dK.lo) (.leaf (vj 0) ([])) (.need (decide (x.B/\(D.wide x).c.B)) (.br (!JI (D.wide x).by_.lo (D.wide x).by_.hi (D.wide x).lo (D.wide x).hi x.p.dK.lo) (.leaf (vj 0) ([])) (.need (decide (x.B/\(D.deep x).c.B)) (.br (!JI (D.deep x).by_.lo (D.deep x).by_.hi (D.deep x).lo (D.deep x).hi x.p.dK.lo) (.leaf (vj 0) ([])) (.leaf (vj 1) ([])))))))) (.leaf (vj 2) ([]))))))):=by kernel_rfl
theorem QfJ:QR prog 129 QLL:=by
 refine Kz QOC 14 func129 (by kernel_rfl) (by kernel_rfl) ?_
 rintro⟨x,⟨⟩⟩ hp;rw[Qee x];simp only[QSE,QC.den,AV.same,AV.sameL,and_true,true_and]at hp ⊢;have hB:=qdt hp;have d1:decide (x.B/\(D.off x).c.B)=true:=qde ⟨hB,hB⟩;have d2:decide (x.B/\(D.wide x).c.B)=true:=qde ⟨hB,hB⟩;have d3:decide (x.B/\(D.deep x).c.B)=true:=qde ⟨hB,hB⟩;have a0:VB (D.off x).by_.lo (D.off x).by_.hi (D.off x).lo (D.off x).hi x.p.dK.hi=alw x.p x.t x.h 0:=rfl;have a1:VB (D.wide x).by_.lo (D.wide x).by_.hi (D.wide x).lo (D.wide x).hi x.p.dK.hi=alw x.p x.t x.h 1:=rfl
 have a2:VB (D.deep x).by_.lo (D.deep x).by_.hi (D.deep x).lo (D.deep x).hi x.p.dK.hi=alw x.p x.t x.h 2:=rfl;have b0:JI (D.off x).by_.lo (D.off x).by_.hi (D.off x).lo (D.off x).hi x.p.dK.lo=may x.p x.t x.h 0:=rfl;have b1:JI (D.wide x).by_.lo (D.wide x).by_.hi (D.wide x).lo (D.wide x).hi x.p.dK.lo=may x.p x.t x.h 1:=rfl;have b2:JI (D.deep x).by_.lo (D.deep x).by_.hi (D.deep x).lo (D.deep x).hi x.p.dK.lo=may x.p x.t x.h 2:=rfl;simp only[d1,d2,d3,a0,a1,a2,b0,b1,b2,Qd0,true_and]
 cases alw x.p x.t x.h 0<;>cases alw x.p x.t x.h 1<;>cases alw x.p x.t x.h 2<;>cases may x.p x.t x.h 0<;>cases may x.p x.t x.h 1<;>cases may x.p x.t x.h 2<;>simp
def QEQ:Tab:=Qa QBi 129 QLL
theorem QPw:Qc QEQ:=QOC.add QfJ
theorem QZy{p:Q1}(h:p.ok=true):Vp p:=by rw[Q1.ok_iff]at h;unfold Vp;omega
theorem QPV{e:Edge}(h:e.ok=true)(hk:e.kind=1∨e.kind=2):Vc e:=by rw[Edge.ok_iff]at h;unfold Vc;omega
def okP(p:Q1)(a b:Edge):Bool:=p.ok&&(a.ok&&b.ok)
instance : Enc Gap where
  enc x := .agg [.int false .i64 x.off.lo,.int false .i64 x.off.hi,.int false .i64 x.wide.lo,.int false .i64 x.wide.hi,.int false .i64 x.deep.lo,.int false .i64 x.deep.hi]
  dec | .agg [.int _ .i64 a0,.int _ .i64 a1,.int _ .i64 a2,.int _ .i64 a3,.int _ .i64 a4,.int _ .i64 a5] => some ⟨⟨a0,a1⟩,⟨a2,a3⟩,⟨a4,a5⟩⟩ | _ => none
  ok v x h := by
    split at h <;> (try (cases h; done))
    simp only[qsI]at h; subst h; exact⟨λ_=>rfl,rfl⟩
theorem QMd{p:Q1}{a b:Edge}(h1:p.ok=true)(h2:a.ok=true)(h3:b.ok=true)(ha:a.kind=1)(hb:b.kind=2):Q3.B ⟨p,a,b⟩:=⟨QZy h1,QPV h2 (.inl ha),QPV h3 (.inr hb)⟩
def Edge.zero:Edge:=⟨0,⟨0,0⟩,⟨0,0⟩,⟨0,0⟩⟩
def QO4(s:Edge)(w:Sp)(n:Int):Prop:=Vc s/\(0<=w.lo/\w.lo<=100/\0<=w.hi/\w.hi<=100)/\0<=n/\n<=20000
instance (s : Edge) (w : Sp) (n : Int) : Decidable (QO4 s w n) := by unfold QO4; infer_instance
def QN5:Q1×Edge×Edge×Unit->Bool×AV:=λ|(p,(a,(b,_)))=>(okP p a b,.int false .i64 (zn p a b))
def QKC:FC:=Kk (Ko QN5)
theorem Qem(p:Q1)(a:Edge)(b:Edge):KY (mkE prog QEQ) (hnd (mkE prog QEQ) 4) false f88 (KA.enc ((p,a,b,()):Q1×Edge×Edge×Unit)) [] 0=QC.br (a.kind==(2:Int)) (QC.br (b.kind==(1:Int)) (QC.br (a.kind==(2:Int)) (QC.need (decide (Q3.mk p b a).B) (QC.leaf (vi (vC p b a)) ([]))) (QC.leaf (vj (0:Int)) ([]))) (QC.leaf (vj (0:Int)) ([]))) (QC.br (a.kind==(1:Int)) (QC.br (b.kind==(2:Int)) (QC.need (decide (Q3.mk p a b).B) (QC.leaf (vi (vC p a b)) ([]))) (QC.leaf (vj (0:Int)) ([]))) (QC.leaf (vj (0:Int)) ([]))):=by kernel_rfl
theorem QYN:QR prog 88 QKC:=by
 refine Kz QPw 4 func88 (by kernel_rfl) (by kernel_rfl) ?_
 rintro⟨p,a,b,⟨⟩⟩ hp;rw[Qem p a b];simp only[QN5,QC.den,AV.same,AV.sameL,and_true,true_and]at hp ⊢;unfold okP at hp;simp only[qbA]at hp;obtain⟨h1,h2,h3⟩:=hp;unfold zn;simp only[beq_iff_eq,beq_eq_false_iff_ne];refine⟨λha=>⟨λhb=>?_,λhb=>by rw[if_pos ha,if_neg hb]⟩,λha=>⟨λha1=>?_,λha1=>by rw[if_neg ha,if_neg (λh=>ha1 h.1)]⟩⟩
 .refine⟨λ_=>⟨qde (QMd h1 h3 h2 hb ha),by rw[if_pos ha,if_pos hb]⟩,λh=>absurd ha h⟩
 .refine⟨λhb=>⟨qde (QMd h1 h2 h3 ha1 hb),by rw[if_neg ha,if_pos ⟨ha1,hb⟩]⟩,λhb=>by rw[if_neg ha,if_neg (λh=>hb h.2)]⟩
def QBu:Tab:=Qa QEQ 88 QKC
theorem QOz:Qc QBu:=QPw.add QYN
def QP1:Q1×Edge×Edge×Unit->Bool×AV:=λ|(p,(a,(b,_)))=>(true,.tup [.int false .i64 (Jo p a b).1,.int false .i64 (Jo p a b).2])
def QRE:FC:=Kk (Ko QP1)
theorem Qcd(p:Q1)(a:Edge)(b:Edge):KY (mkE prog QBu) (hnd (mkE prog QBu) 14) false f39 (KA.enc ((p,a,b,()):Q1×Edge×Edge×Unit)) [] 0=QC.need (true) (QC.br (!p.ok) (QC.leaf (AV.tup [vj (0:Int),vj (1:Int)]) ([])) (QC.need (true) (QC.br (!a.ok) (QC.leaf (AV.tup [vj (0:Int),vj (1:Int)]) ([])) (QC.need (true) (QC.br (!b.ok) (QC.leaf (AV.tup [vj (0:Int), vj (1:Int)]) ([])) (QC.need (okP p a b) (QC.leaf (AV.tup [vi (zn p a b),vj (0:Int)]) ([])))))))):=by kernel_rfl
theorem QcQ:QR prog 39 QRE:=by
 refine Kz QOz 14 func39 (by kernel_rfl) (by kernel_rfl) ?_
 rintro⟨p,a,b,⟨⟩⟩ hp;rw[Qcd p a b];simp only[QP1,QC.den,AV.same,AV.sameL,and_true,true_and]at hp ⊢;unfold Jo okP;cases p.ok<;>cases a.ok<;>cases b.ok<;>simp
def QCZ:Tab:=Qa QBu 39 QRE
theorem QSM:Qc QCZ:=QOz.add QcQ
