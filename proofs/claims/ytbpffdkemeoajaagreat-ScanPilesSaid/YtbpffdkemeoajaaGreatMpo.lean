/- - -/
import Derived.Test.YtbpffdkemeoajaaGreatProg
import Derived.Test.YtbpffdkemeoajaaGreatMpm
import Derived.Test.YtbpffdkemeoajaaGreatMpn
import Derived.KernelRfl
open Go.Proofs.Tryz
open Go.IntKind (i64)
set_option maxRecDepth 100000
namespace Go.Proofs.YtbpffdkemeoajaaGreat
open Go.SX
theorem HL:prog.follows .mixedOrders=true:=by kernel_rfl
abbrev Tab:=FuncId->Option FC
def QC6:Tab:=λ_=>none
def Qh(C:Tab)(f:FuncId)(fc:FC):Tab:=λg=>match g==f with
 | true=>some fc
 | false=>C g
def QZ(C:Tab):Prop:=∀ f fc,C f=some fc->QO prog f fc
theorem QZ.add{C:Tab}(h:QZ C){f:FuncId}{fc:FC}(hf:QO prog f fc):QZ (Qh C f fc):=by
 intro g fc' e;unfold Qh at e;split at e
 .rename_i hg;simp only[qsI]at e;subst e;have:g=f:=by simpa using hg
  subst this;exact hf
 .exact h g fc' e
theorem QOO:QZ QC6:=λ_ _ h=>by cases h
instance : Enc Sp where
  enc x := .agg [.int false .i64 x.lo,.int false .i64 x.hi]
  dec | .agg [.int _ .i64 a0,.int _ .i64 a1] => some ⟨a0,a1⟩ | _ => none
  ok v x h := by
    split at h <;> (try (cases h; done))
    simp only[qsI]at h; subst h; exact⟨λ_=>rfl,rfl⟩
instance : Enc Edge where
  enc x := .agg [.int false .i64 x.kind,.int false .i64 x.at_.lo,.int false .i64 x.at_.hi,.int false .i64 x.wide.lo,.int false .i64 x.wide.hi,.int false .i64 x.deep.lo,.int false .i64 x.deep.hi]
  dec | .agg [.int _ .i64 a0,.int _ .i64 a1,.int _ .i64 a2,.int _ .i64 a3,.int _ .i64 a4,.int _ .i64 a5,.int _ .i64 a6] => some ⟨a0,⟨a1,a2⟩,⟨a3,a4⟩,⟨a5,a6⟩⟩ | _ => none
  ok v x h := by
    split at h <;> (try (cases h; done))
    simp only[qsI]at h; subst h; exact⟨λ_=>rfl,rfl⟩
instance : Enc Qz where
  enc x := .agg [.int false .i64 x.length,.int false .i64 x.aK,.int false .i64 x.oK,.int false .i64 x.dK.lo,.int false .i64 x.dK.hi]
  dec | .agg [.int _ .i64 a0,.int _ .i64 a1,.int _ .i64 a2,.int _ .i64 a3,.int _ .i64 a4] => some ⟨a0,a1,a2,⟨a3,a4⟩⟩ | _ => none
  ok v x h := by
    split at h <;> (try (cases h; done))
    simp only[qsI]at h; subst h; exact⟨λ_=>rfl,rfl⟩
structure KA where
 p:Qz
 t:Edge
 h:Edge
inductive D where
 | off (c:KA)
 | wide (c:KA)
 | deep (c:KA)
instance : Enc KA where
  enc x := .agg [.int false .i64 x.p.length,.int false .i64 x.p.aK,.int false .i64 x.p.oK,.int false .i64 x.p.dK.lo,.int false .i64 x.p.dK.hi,
    .int false .i64 x.t.kind,.int false .i64 x.t.at_.lo,.int false .i64 x.t.at_.hi,.int false .i64 x.t.wide.lo,.int false .i64 x.t.wide.hi,.int false .i64 x.t.deep.lo,.int false .i64 x.t.deep.hi,
    .int false .i64 x.h.kind,.int false .i64 x.h.at_.lo,.int false .i64 x.h.at_.hi,.int false .i64 x.h.wide.lo,.int false .i64 x.h.wide.hi,.int false .i64 x.h.deep.lo,.int false .i64 x.h.deep.hi]
  dec | .agg [.int _ .i64 p0,.int _ .i64 p1,.int _ .i64 p2,.int _ .i64 p3,.int _ .i64 p4,
      .int _ .i64 a0,.int _ .i64 a1,.int _ .i64 a2,.int _ .i64 a3,.int _ .i64 a4,.int _ .i64 a5,.int _ .i64 a6,
      .int _ .i64 b0,.int _ .i64 b1,.int _ .i64 b2,.int _ .i64 b3,.int _ .i64 b4,.int _ .i64 b5,.int _ .i64 b6] =>
        some ⟨⟨p0,p1,p2,⟨p3,p4⟩⟩,⟨a0,⟨a1,a2⟩,⟨a3,a4⟩,⟨a5,a6⟩⟩,⟨b0,⟨b1,b2⟩,⟨b3,b4⟩,⟨b5,b6⟩⟩⟩
      | _ => none
  ok v x h := by
    split at h <;> (try (cases h; done))
    simp only[qsI]at h; subst h; exact⟨λ_=>rfl,rfl⟩
instance : Enc D where
  enc | .off c => .ifc 255 (Enc.enc c)
      | .wide c => .ifc 256 (Enc.enc c)
      | .deep c => .ifc 257 (Enc.enc c)
  dec | .ifc t v => match (Enc.dec v : Option KA)with
        | some c => if t = 255 then some (.off c)else if t = 256 then some (.wide c)else if t = 257 then some (.deep c)else none
        | none => none
      | _ => none
  ok v x h := by
    split at h <;> (try (cases h; done))
    split at h <;> (try (cases h; done))
    rename_i t v c hc;have h1 := Enc.ok _ c hc;split at h
    . rename_i e; simp only[qsI]at h; subst h e
      exact⟨λr=>by simp only[AV.den]; rw[h1.1 r],h1.2⟩
    . split at h
      . rename_i e; simp only[qsI]at h; subst h e
        exact⟨λr=>by simp only[AV.den]; rw[h1.1 r],h1.2⟩
      . split at h <;> (try (cases h; done))
        rename_i e; simp only[qsI]at h; subst h e;exact⟨λr=>by simp only[AV.den]; rw[h1.1 r],h1.2⟩
theorem w64{n:Int}(h1 : -9223372036854775808<=n)(h2:n<=9223372036854775807):i64.wrap n=n:=IntWalk.i64_in n ⟨h1,h2⟩
def VT(e:Edge):Prop:=(0<=e.at_.lo/\e.at_.lo<=10000/\0<=e.at_.hi/\e.at_.hi<=10000)/\(0<=e.wide.lo/\e.wide.lo<=3000/\0<=e.wide.hi/\e.wide.hi<=3000)/\(0<=e.deep.lo/\e.deep.lo<=3000/\0<=e.deep.hi/\e.deep.hi<=3000)
def Vc(p:Qz):Prop:=(1<=p.length/\p.length<=10000)/\(0<=p.aK/\p.aK<=500)/\(0<=p.oK/\p.oK<=500)/\(0<=p.dK.lo/\p.dK.lo<=100)/\0<=p.dK.hi/\p.dK.hi<=100
def KA.B(c:KA):Prop:=Vc c.p/\VT c.t/\VT c.h
instance (e : Edge) : Decidable (VT e) := by unfold VT; infer_instance
instance (p : Qz) : Decidable (Vc p) := by unfold Vc; infer_instance
instance (c : KA) : Decidable c.B := by unfold KA.B; infer_instance
def D.by_:D->Sp
 | .off c=>Qt c.p c.t c.h
 | .wide c=>Qr c.t c.h
 | .deep c=>Qq c.t c.h
def D.lo:D->Int
 | .off c => -c.p.aK
 | _=>0
def D.hi:D->Int
 | .off c=>c.p.aK
 | .wide c=>c.p.oK
 | .deep c=>c.p.oK
def D.c:D->KA
 | .off c=>c
 | .wide c=>c
 | .deep c=>c
abbrev mkE(P:Program)(C:Tab):Env:=⟨P,C,vJ P,false,λ_=>false,false,false,false⟩
theorem QL{C:Tab}(hC:QZ C):(mkE prog C).Sound:={ c:=hC,m:=QAn prog,mixed:=HL }
abbrev mkF(P:Program)(C:Tab):Env:=⟨P,C,vJ P,false,λ_=>false,false,false,true⟩
theorem Wk{C:Tab}(hC:QZ C):(mkF prog C).Sound:={ c:=hC,m:=QAn prog,mixed:=HL }
abbrev mkS(P:Program)(C:Tab):Env:=⟨P,C,vJ P,true,λ_=>false,false,false,false⟩
theorem Vq{C:Tab}(hC:QZ C):(mkS prog C).Sound:={ c:=hC,m:=QAn prog,mixed:=HL }
def binds(fs:List FuncId):Op->Bool
 | .call ⟨.value (.func f),_,_⟩=>fs.contains f
 | .binOp .mul _ _ _ _=>true
 | _=>false
def Qi(fn:Func):Code:=fn.body.getD .skip
theorem KZ{C:Tab}(hC:QZ C)(d:Nat){f:FuncId}{fn:Func}(hf:prog.funcs[f]? = some fn)(hb:fn.body=some (Qi fn))(hgo:VB prog f=true){α:Type}[Q3 α]{F:α->Bool×AV}(hF:∀ x,(F x).1=true->(KJ (mkE prog C) (hnd (mkE prog C) d) false fn (Q3.enc x) [] 0).den λu _=>u.same (F x).2):QO prog f (KM (KN F)):=
 QH8 (QL hC) hf hb hgo (λG _ hG=>Qw (QL hC) d G _ hG) hF
def QK1:Sp×Int×Int×Unit->Bool×AV:=λ|(s,(a,(b,_)))=>(true,.bool false (s.isIn a b))
def QNe:FC:=KM (KN QK1)
theorem QT0(s:Sp)(a:Int)(b:Int):KJ (mkE prog QC6) (hnd (mkE prog QC6) 0) false f131 (Q3.enc ((s,a,b,()):Sp×Int×Int×Unit)) [] 0=QE.br (decide (a<=s.lo)) (QE.br (decide (s.lo<=s.hi)) (QE.leaf (AV.bool false (decide (s.hi<=b))) ([])) (QE.leaf (AV.bool true false) ([]))) (QE.leaf (AV.bool true false) ([])):=by kernel_rfl
theorem Qd9:QO prog 131 QNe:=by
 refine KZ QOO 0 func131 (by kernel_rfl) (by kernel_rfl) ?_
 rintro⟨s,a,b,⟨⟩⟩ hp;rw[QT0 s a b];simp only[QK1,QE.den,AV.same,AV.sameL,and_true,true_and]at hp ⊢
 (repeat' (first|(refine aI ?_ ?_)|(intro _)))<;>simp_all [Sp.isIn]<;>omega
def QBn:Tab:=Qh QC6 131 QNe
theorem QMi:QZ QBn:=QOO.add Qd9
def QPD:Int×Int×Int×Unit->Bool×AV:=λ|(n,(a,(b,_)))=>(true,.bool false (Qe n a b))
def QP0:FC:=KM (KN QPD)
theorem QaR(n:Int)(a:Int)(b:Int):KJ (mkE prog QBn) (hnd (mkE prog QBn) 0) false f130 (Q3.enc ((n,a,b,()):Int×Int×Int×Unit)) [] 0=QE.br (decide (a<=n)) (QE.leaf (AV.bool false (decide (n<=b))) ([])) (QE.leaf (AV.bool true false) ([])):=by kernel_rfl
theorem QVN:QO prog 130 QP0:=by
 refine KZ QMi 0 func130 (by kernel_rfl) (by kernel_rfl) ?_
 rintro⟨n,a,b,⟨⟩⟩ hp;rw[QaR n a b];simp only[QPD,QE.den,AV.same,AV.sameL,and_true,true_and]at hp ⊢
 (repeat' (first|(refine aI ?_ ?_)|(intro _)))<;>simp_all [Qe]<;>omega
def QCg:Tab:=Qh QBn 130 QP0
theorem QN2:QZ QCg:=QMi.add QVN
def QQg:Edge×Unit->Bool×AV:=λ|(a,_)=>(true,.bool false a.ok)
def QKe:FC:=KM (KN QQg)
theorem QYn(a:Edge):KJ (mkE prog QCg) (hnd (mkE prog QCg) 0) false f134 (Q3.enc ((a,()):Edge×Unit)) [] 0=QE.br (a.kind==(0:Int)) (QE.leaf (AV.bool true true) ([])) (QE.br (a.kind==(1:Int)) (QE.need (true) (QE.br (a.at_.isIn (0:Int) (10000:Int)) (QE.need (true) (QE.br (a.wide.isIn (1:Int) (3000:Int)) (QE.need (true) (QE.leaf (AV.bool false (a.deep.isIn (1:Int) (3000:Int))) ([]))) (QE.leaf (AV.bool true false) ([])))) (QE.leaf (AV.bool true false) ([])))) (QE.br (a.kind==(2:Int)) (QE.need (true) (QE.br (a.at_.isIn (0:Int) (10000:Int)) (QE.need (true) (QE.br (a.wide.isIn (1:Int) (3000:Int)) (QE.need (true) (QE.leaf (AV.bool false (a.deep.isIn (1:Int) (3000:Int))) ([]))) (QE.leaf (AV.bool true false) ([])))) (QE.leaf (AV.bool true false) ([])))) (QE.leaf (AV.bool true false) ([])))):=by kernel_rfl
theorem QYZ:QO prog 134 QKe:=by
 refine KZ QN2 0 func134 (by kernel_rfl) (by kernel_rfl) ?_
 rintro⟨a,⟨⟩⟩ hp;rw[QYn a];simp only[QQg,QE.den,AV.same,AV.sameL,and_true,true_and]at hp ⊢
 (repeat' (first|(refine aI ?_ ?_)|(intro _)))<;>simp_all [Edge.ok]
def QDX:Tab:=Qh QCg 134 QKe
theorem QQ2:QZ QDX:=QN2.add QYZ
def QPX:Qz×Unit->Bool×AV:=λ|(p,_)=>(true,.bool false p.ok)
def QKx:FC:=KM (KN QPX)
theorem Qbo(p:Qz):KJ (mkE prog QDX) (hnd (mkE prog QDX) 0) false f101 (Q3.enc ((p,()):Qz×Unit)) [] 0=QE.need (true) (QE.br (Qe p.length (1:Int) (10000:Int)) (QE.need (true) (QE.br (Qe p.aK (0:Int) (500:Int)) (QE.need (true) (QE.br (Qe p.oK (0:Int) (500:Int)) (QE.need (true) (QE.leaf (AV.bool false (p.dK.isIn (0:Int) (100:Int))) ([]))) (QE.leaf (AV.bool true false) ([])))) (QE.leaf (AV.bool true false) ([])))) (QE.leaf (AV.bool true false) ([]))):=by kernel_rfl
theorem Qcq:QO prog 101 QKx:=by
 refine KZ QQ2 0 func101 (by kernel_rfl) (by kernel_rfl) ?_
 rintro⟨p,⟨⟩⟩ hp;rw[Qbo p];simp only[QPX,QE.den,AV.same,AV.sameL,and_true,true_and]at hp ⊢
 (repeat' (first|(refine aI ?_ ?_)|(intro _)))<;>simp_all [Qz.ok]
def QCt:Tab:=Qh QDX 101 QKx
theorem QO6:QZ QCt:=QQ2.add Qcq
def QR5:Sp×Sp×Unit->Bool×AV:=λ|(s,(o,_))=>(decide (Sm s.lo/\Sm s.hi/\Sm o.lo/\Sm o.hi),Enc.enc (s.less o))
def QK3:FC:=KM (KN QR5)
theorem QcJ(s:Sp)(o:Sp):KJ (mkE prog QCt) (hnd (mkE prog QCt) 0) false f193 (Q3.enc ((s,o,()):Sp×Sp×Unit)) [] 0=QE.leaf (AV.agg [vi (i64.wrap (s.lo-o.hi)),vi (i64.wrap (s.hi-o.lo))]) ([]):=by kernel_rfl
theorem QUy:QO prog 193 QK3:=by
 refine KZ QO6 0 func193 (by kernel_rfl) (by kernel_rfl) ?_
 rintro⟨s,o,⟨⟩⟩ hp;rw[QcJ s o];simp only[QR5,QE.den,AV.same,AV.sameL,and_true,true_and]at hp ⊢;have hp:=qdt hp;unfold Sm at hp;simp only[Sp.less,Enc.enc,AV.same,AV.sameL];rw[w64 (by omega) (by omega),w64 (by omega) (by omega)];simp
def QCm:Tab:=Qh QCt 193 QK3
theorem QLA:QZ QCm:=QO6.add QUy
def QM7:Sp×Sp×Unit->Bool×AV:=λ|(s,(o,_))=>(decide (Sm s.lo/\Sm s.hi/\Sm o.lo/\Sm o.hi),Enc.enc (s.plus o))
def QJk:FC:=KM (KN QM7)
theorem QTS(s:Sp)(o:Sp):KJ (mkE prog QCm) (hnd (mkE prog QCm) 0) false f190 (Q3.enc ((s,o,()):Sp×Sp×Unit)) [] 0=QE.leaf (AV.agg [vi (i64.wrap (s.lo+o.lo)),vi (i64.wrap (s.hi+o.hi))]) ([]):=by kernel_rfl
theorem QSw:QO prog 190 QJk:=by
 refine KZ QLA 0 func190 (by kernel_rfl) (by kernel_rfl) ?_
 rintro⟨s,o,⟨⟩⟩ hp;rw[QTS s o];simp only[QM7,QE.den,AV.same,AV.sameL,and_true,true_and]at hp ⊢;have hp:=qdt hp;unfold Sm at hp;simp only[Sp.plus,Enc.enc,AV.same,AV.sameL];rw[w64 (by omega) (by omega),w64 (by omega) (by omega)];simp
def QBH:Tab:=Qh QCm 190 QJk
theorem QQw:QZ QBH:=QLA.add QSw
def QSL:KA×Unit->Bool×AV:=λ|(c,_)=>(decide c.B,Enc.enc (Qt c.p c.t c.h))
def QP9:FC:=KM (KN QSL)
theorem QWE(c:KA):KJ (mkE prog QBH) (hnd (mkE prog QBH) 0) false f189 (Q3.enc ((c,()):KA×Unit)) [] 0=QE.need (decide (Sm c.t.at_.lo/\Sm c.t.at_.hi/\Sm c.h.at_.lo/\Sm c.h.at_.hi)) (QE.need (decide (Sm (c.t.at_.plus c.h.at_).lo/\Sm (c.t.at_.plus c.h.at_).hi/\Sm (i64.wrap ((0:Int)-c.p.length))/\Sm (i64.wrap ((0:Int)-c.p.length)))) (QE.leaf (AV.agg [vi ((c.t.at_.plus c.h.at_).plus (Sp.mk (i64.wrap ((0:Int)-c.p.length)) (i64.wrap ((0:Int)-c.p.length)))).lo,vi ((c.t.at_.plus c.h.at_).plus (Sp.mk (i64.wrap ((0:Int)-c.p.length)) (i64.wrap ((0:Int)-c.p.length)))).hi]) ([]))):=by kernel_rfl
theorem QgG:QO prog 189 QP9:=by
 refine KZ QQw 0 func189 (by kernel_rfl) (by kernel_rfl) ?_
 rintro⟨c,⟨⟩⟩ hp;rw[QWE c];simp only[QSL,QE.den,AV.same,AV.sameL,and_true,true_and]at hp ⊢;have hp:=qdt hp;obtain⟨h1,h2,h3⟩:=hp;unfold Vc at h1;unfold VT at h2 h3;have e:i64.wrap (0-c.p.length) = -c.p.length:=by rw[w64 (by omega) (by omega)];omega
 rw[e];refine⟨qde (by unfold Sm;omega),qde (by unfold Sm Sp.plus;simp only;omega),?_⟩
 simp[Qt,Sp.plus,Enc.enc,AV.same,AV.sameL]
def QEB:Tab:=Qh QBH 189 QP9
theorem QQB:QZ QEB:=QQw.add QgG
def QNw:KA×Unit->Bool×AV:=λ|(c,_)=>(decide c.B,Enc.enc (Qr c.t c.h))
def QPu:FC:=KM (KN QNw)
theorem QV4(c:KA):KJ (mkE prog QEB) (hnd (mkE prog QEB) 0) false f192 (Q3.enc ((c,()):KA×Unit)) [] 0=QE.need (decide (Sm c.h.wide.lo/\Sm c.h.wide.hi/\Sm c.t.wide.lo/\Sm c.t.wide.hi)) (QE.leaf (AV.agg [vi (c.h.wide.less c.t.wide).lo,vi (c.h.wide.less c.t.wide).hi]) ([])):=by kernel_rfl
theorem Qfz:QO prog 192 QPu:=by
 refine KZ QQB 0 func192 (by kernel_rfl) (by kernel_rfl) ?_
 rintro⟨c,⟨⟩⟩ hp;rw[QV4 c];simp only[QNw,QE.den,AV.same,AV.sameL,and_true,true_and]at hp ⊢;have hp:=qdt hp;obtain⟨h1,h2,h3⟩:=hp;unfold Vc at h1;unfold VT at h2 h3;refine⟨qde (by unfold Sm;omega),?_⟩
 simp[Qr,Sp.less,Enc.enc,AV.same,AV.sameL]
def QDA:Tab:=Qh QEB 192 QPu
theorem QJY:QZ QDA:=QQB.add Qfz
def QK5:KA×Unit->Bool×AV:=λ|(c,_)=>(decide c.B,Enc.enc (Qq c.t c.h))
def QKV:FC:=KM (KN QK5)
theorem QcO(c:KA):KJ (mkE prog QDA) (hnd (mkE prog QDA) 0) false f195 (Q3.enc ((c,()):KA×Unit)) [] 0=QE.need (decide (Sm c.h.deep.lo/\Sm c.h.deep.hi/\Sm c.t.deep.lo/\Sm c.t.deep.hi)) (QE.leaf (AV.agg [vi (c.h.deep.less c.t.deep).lo,vi (c.h.deep.less c.t.deep).hi]) ([])):=by kernel_rfl
theorem QaK:QO prog 195 QKV:=by
 refine KZ QJY 0 func195 (by kernel_rfl) (by kernel_rfl) ?_
 rintro⟨c,⟨⟩⟩ hp;rw[QcO c];simp only[QK5,QE.den,AV.same,AV.sameL,and_true,true_and]at hp ⊢;have hp:=qdt hp;obtain⟨h1,h2,h3⟩:=hp;unfold Vc at h1;unfold VT at h2 h3;refine⟨qde (by unfold Sm;omega),?_⟩
 simp[Qq,Sp.less,Enc.enc,AV.same,AV.sameL]
def QCJ:Tab:=Qh QDA 195 QKV
theorem QLa:QZ QCJ:=QJY.add QaK
def QKB:KA×Unit->Bool×AV:=λ|(c,_)=>(decide c.B,.tup [.int false .i64 (-c.p.aK),.int false .i64 c.p.aK])
def QQf:FC:=KM (KN QKB)
theorem QWN(c:KA):KJ (mkE prog QCJ) (hnd (mkE prog QCJ) 0) false f188 (Q3.enc ((c,()):KA×Unit)) [] 0=QE.leaf (AV.tup [vi (i64.wrap ((0:Int)-c.p.aK)),vi c.p.aK]) ([]):=by kernel_rfl
theorem QUA:QO prog 188 QQf:=by
 refine KZ QLa 0 func188 (by kernel_rfl) (by kernel_rfl) ?_
 rintro⟨c,⟨⟩⟩ hp;rw[QWN c];simp only[QKB,QE.den,AV.same,AV.sameL,and_true,true_and]at hp ⊢;have hp:=qdt hp;obtain⟨h1,h2,h3⟩:=hp;unfold Vc at h1;rw[w64 (by omega) (by omega)];omega
def QDx:Tab:=Qh QCJ 188 QQf
theorem QNh:QZ QDx:=QLa.add QUA
def QLK:KA×Unit->Bool×AV:=λ|(c,_)=>(decide c.B,.tup [.int false .i64 0,.int false .i64 c.p.oK])
def QRq:FC:=KM (KN QLK)
theorem QYN(c:KA):KJ (mkE prog QDx) (hnd (mkE prog QDx) 0) false f191 (Q3.enc ((c,()):KA×Unit)) [] 0=QE.leaf (AV.tup [vj (0:Int),vi c.p.oK]) ([]):=by kernel_rfl
theorem QdQ:QO prog 191 QRq:=by
 refine KZ QNh 0 func191 (by kernel_rfl) (by kernel_rfl) ?_
 rintro⟨c,⟨⟩⟩ hp;rw[QYN c];simp only[QLK,QE.den,AV.same,AV.sameL,and_true,true_and]at hp ⊢
def QBp:Tab:=Qh QDx 191 QRq
theorem QSM:QZ QBp:=QNh.add QdQ
def QNG:KA×Unit->Bool×AV:=λ|(c,_)=>(decide c.B,.tup [.int false .i64 0,.int false .i64 c.p.oK])
def QQQ:FC:=KM (KN QNG)
theorem QY2(c:KA):KJ (mkE prog QBp) (hnd (mkE prog QBp) 0) false f194 (Q3.enc ((c,()):KA×Unit)) [] 0=QE.leaf (AV.tup [vj (0:Int),vi c.p.oK]) ([]):=by kernel_rfl
theorem Qfc:QO prog 194 QQQ:=by
 refine KZ QSM 0 func194 (by kernel_rfl) (by kernel_rfl) ?_
 rintro⟨c,⟨⟩⟩ hp;rw[QY2 c];simp only[QNG,QE.den,AV.same,AV.sameL,and_true,true_and]at hp ⊢
def qM:Tab:=Qh QBp 194 QQQ
theorem QPW:QZ qM:=QSM.add Qfc
variable {sl sh hi:Int}
theorem H5{lo dh:Int}(h1 : -100000<=sl/\sl<=100000)(h2 : -100000<=sh/\sh<=100000)(h3 : -500<=lo/\lo<=500)(h4 : -500<=hi/\hi<=500)(h5:0<=dh/\dh<=100):
  (decide (i64.wrap (sl*i64.wrap (1000+dh))≥i64.wrap (1000*lo))=true->decide (i64.wrap (sh*i64.wrap (1000+dh))<=i64.wrap (1000*hi))=Kt sl sh lo hi dh) /\
  (decide (i64.wrap (sl*i64.wrap (1000+dh))≥i64.wrap (1000*lo))=false->false=Kt sl sh lo hi dh):=by
 obtain⟨m1,m2⟩:=QHO (a:=sl) (m:=1000+dh) (by omega) (by omega) (by omega) (by omega)
 obtain⟨m3,m4⟩:=QHO (a:=sh) (m:=1000+dh) (by omega) (by omega) (by omega) (by omega)
 rw[w64 (n:=1000+dh) (by omega) (by omega),w64 (n:=sl*_) (by omega) (by omega),w64 (n:=sh*_) (by omega) (by omega),w64 (n:=1000*lo) (by omega) (by omega),w64 (n:=1000*hi) (by omega) (by omega)]
 exact⟨λh=>QZ6 (qdt h),λh=>QeF (by have:=qdf h;omega)⟩
theorem QBv{lo dl:Int}(h1 : -100000<=sl/\sl<=100000)(h2 : -100000<=sh/\sh<=100000)(h3 : -500<=lo/\lo<=500)(h4 : -500<=hi/\hi<=500)(h5:0<=dl/\dl<=100):
  (decide (i64.wrap (1000*lo)<=i64.wrap (min (max 0 sl) sh*i64.wrap (1000+dl)))=true->decide (i64.wrap (min (max 0 sl) sh*i64.wrap (1000+dl))<=i64.wrap (1000*hi))=Q6 sl sh lo hi dl) /\
  (decide (i64.wrap (1000*lo)<=i64.wrap (min (max 0 sl) sh*i64.wrap (1000+dl)))=false->false=Q6 sl sh lo hi dl):=by
 obtain⟨m1,m2⟩:=QHO (a:=min (max 0 sl) sh) (m:=1000+dl) (by omega) (by omega) (by omega) (by omega)
 rw[w64 (n:=1000+dl) (by omega) (by omega),w64 (n:=min (max 0 sl) sh*_) (by omega) (by omega),w64 (n:=1000*lo) (by omega) (by omega),w64 (n:=1000*hi) (by omega) (by omega)]
 exact⟨λh=>QeD (qdt h),λh=>QX4 (by have:=qdf h;omega)⟩
theorem QPq:i64.wrap (1000*0)=0:=by decide
theorem QHc{dh:Int}(h1 : -100000<=sl/\sl<=100000)(h2 : -100000<=sh/\sh<=100000)(h4 : -500<=hi/\hi<=500)(h5:0<=dh/\dh<=100):
  (decide (i64.wrap (sl*i64.wrap (1000+dh))≥0)=true->decide (i64.wrap (sh*i64.wrap (1000+dh))<=i64.wrap (1000*hi))=Kt sl sh 0 hi dh) /\
  (decide (i64.wrap (sl*i64.wrap (1000+dh))≥0)=false->false=Kt sl sh 0 hi dh):=by
 have:=H5 (lo:=0) h1 h2 (by omega) h4 h5
 rw[QPq]at this;exact this
theorem QEp{dl:Int}(h1 : -100000<=sl/\sl<=100000)(h2 : -100000<=sh/\sh<=100000)(h4 : -500<=hi/\hi<=500)(h5:0<=dl/\dl<=100):
  (decide (0<=i64.wrap (min (max 0 sl) sh*i64.wrap (1000+dl)))=true->decide (i64.wrap (min (max 0 sl) sh*i64.wrap (1000+dl))<=i64.wrap (1000*hi))=Q6 sl sh 0 hi dl) /\
  (decide (0<=i64.wrap (min (max 0 sl) sh*i64.wrap (1000+dl)))=false->false=Q6 sl sh 0 hi dl):=by
 have:=QBv (lo:=0) h1 h2 (by omega) h4 h5
 rw[QPq]at this;exact this
def QBM:KA×D×Unit->Bool×AV:=λ|(x,(d,_))=>(decide (x.B/\d.c.B),.bool false (Kt d.by_.lo d.by_.hi d.lo d.hi x.p.dK.hi))
def QPN:FC:=KM (KN QBM)
theorem QbY(x:KA)(c:KA):KJ (mkE prog qM) (hnd (mkE prog qM) 0) false f155 (Q3.enc ((x,(D.off c),()):KA×D×Unit)) [] 0=QE.need (decide c.B) (QE.need (decide c.B) (QE.br (decide (i64.wrap ((Qt c.p c.t c.h).lo*i64.wrap ((1000:Int)+x.p.dK.hi))≥i64.wrap ((1000:Int) * -c.p.aK))) (QE.leaf (AV.bool false (decide (i64.wrap ((Qt c.p c.t c.h).hi*i64.wrap ((1000:Int)+x.p.dK.hi))<=i64.wrap ((1000:Int)*c.p.aK)))) ([])) (QE.leaf (AV.bool true false) ([])))):=by kernel_rfl
theorem Qgw(x:KA)(c:KA):KJ (mkE prog qM) (hnd (mkE prog qM) 0) false f155 (Q3.enc ((x,(D.wide c),()):KA×D×Unit)) [] 0=QE.need (decide c.B) (QE.need (decide c.B) (QE.br (decide (i64.wrap ((Qr c.t c.h).lo*i64.wrap ((1000:Int)+x.p.dK.hi))≥(0:Int))) (QE.leaf (AV.bool false (decide (i64.wrap ((Qr c.t c.h).hi*i64.wrap ((1000:Int)+x.p.dK.hi))<=i64.wrap ((1000:Int)*c.p.oK)))) ([])) (QE.leaf (AV.bool true false) ([])))):=by kernel_rfl
theorem QUp(x:KA)(c:KA):KJ (mkE prog qM) (hnd (mkE prog qM) 0) false f155 (Q3.enc ((x,(D.deep c),()):KA×D×Unit)) [] 0=QE.need (decide c.B) (QE.need (decide c.B) (QE.br (decide (i64.wrap ((Qq c.t c.h).lo*i64.wrap ((1000:Int)+x.p.dK.hi))≥(0:Int))) (QE.leaf (AV.bool false (decide (i64.wrap ((Qq c.t c.h).hi*i64.wrap ((1000:Int)+x.p.dK.hi))<=i64.wrap ((1000:Int)*c.p.oK)))) ([])) (QE.leaf (AV.bool true false) ([])))):=by kernel_rfl
theorem QXx:QO prog 155 QPN:=by
 refine KZ QPW 0 func155 (by kernel_rfl) (by kernel_rfl) ?_
 rintro⟨x,(c|c|c),⟨⟩⟩ hp
 .rw[QbY x c];simp only[QBM,QE.den,AV.same,AV.sameL,and_true,true_and]at hp ⊢;have hq:=qdt hp;obtain⟨⟨hx,_⟩,hc⟩:=hq;refine⟨qde hc,qde hc,?_⟩;obtain⟨h1,h2,h3⟩:=hc;unfold Vc at h1 hx;unfold VT at h2 h3;simp only[D.c]at h1 h2 h3
  first
   | (refine H5 ?_ ?_ ?_ ?_ ?_<;>(try simp only[Qt,Qr,Qq])<;>omega)
   | (refine QHc ?_ ?_ ?_ ?_<;>(try simp only[Qt,Qr,Qq])<;>omega)
 .rw[Qgw x c];simp only[QBM,QE.den,AV.same,AV.sameL,and_true,true_and]at hp ⊢;have hq:=qdt hp;obtain⟨⟨hx,_⟩,hc⟩:=hq;refine⟨qde hc,qde hc,?_⟩;obtain⟨h1,h2,h3⟩:=hc;unfold Vc at h1 hx;unfold VT at h2 h3;simp only[D.c]at h1 h2 h3
  first
   | (refine H5 ?_ ?_ ?_ ?_ ?_<;>(try simp only[Qt,Qr,Qq])<;>omega)
   | (refine QHc ?_ ?_ ?_ ?_<;>(try simp only[Qt,Qr,Qq])<;>omega)
 .rw[QUp x c];simp only[QBM,QE.den,AV.same,AV.sameL,and_true,true_and]at hp ⊢;have hq:=qdt hp;obtain⟨⟨hx,_⟩,hc⟩:=hq;refine⟨qde hc,qde hc,?_⟩;obtain⟨h1,h2,h3⟩:=hc;unfold Vc at h1 hx;unfold VT at h2 h3;simp only[D.c]at h1 h2 h3
  first
   | (refine H5 ?_ ?_ ?_ ?_ ?_<;>(try simp only[Qt,Qr,Qq])<;>omega)
   | (refine QHc ?_ ?_ ?_ ?_<;>(try simp only[Qt,Qr,Qq])<;>omega)
def qd:Tab:=Qh qM 155 QPN
theorem QSi:QZ qd:=QPW.add QXx
def QCu:KA×D×Unit->Bool×AV:=λ|(x,(d,_))=>(decide (x.B/\d.c.B),.bool false (Q6 d.by_.lo d.by_.hi d.lo d.hi x.p.dK.lo))
def QSs:FC:=KM (KN QCu)
theorem Qc4(x:KA)(c:KA):KJ (mkE prog qd) (hnd (mkE prog qd) 0) false f156 (Q3.enc ((x,(D.off c),()):KA×D×Unit)) [] 0=QE.need (decide c.B) (QE.need (decide c.B) (QE.br (decide (i64.wrap ((1000:Int) * -c.p.aK)<=i64.wrap (min (max (0:Int) (Qt c.p c.t c.h).lo) (Qt c.p c.t c.h).hi*i64.wrap ((1000:Int)+x.p.dK.lo)))) (QE.leaf (AV.bool false (decide (i64.wrap (min (max (0:Int) (Qt c.p c.t c.h).lo) (Qt c.p c.t c.h).hi*i64.wrap ((1000:Int)+x.p.dK.lo))<=i64.wrap ((1000:Int)*c.p.aK)))) ([])) (QE.leaf (AV.bool true false) ([])))):=by kernel_rfl
theorem QYO(x:KA)(c:KA):KJ (mkE prog qd) (hnd (mkE prog qd) 0) false f156 (Q3.enc ((x,(D.wide c),()):KA×D×Unit)) [] 0=QE.need (decide c.B) (QE.need (decide c.B) (QE.br (decide ((0:Int)<=i64.wrap (min (max (0:Int) (Qr c.t c.h).lo) (Qr c.t c.h).hi*i64.wrap ((1000:Int)+x.p.dK.lo)))) (QE.leaf (AV.bool false (decide (i64.wrap (min (max (0:Int) (Qr c.t c.h).lo) (Qr c.t c.h).hi*i64.wrap ((1000:Int)+x.p.dK.lo))<=i64.wrap ((1000:Int)*c.p.oK)))) ([])) (QE.leaf (AV.bool true false) ([])))):=by kernel_rfl
theorem Qas(x:KA)(c:KA):KJ (mkE prog qd) (hnd (mkE prog qd) 0) false f156 (Q3.enc ((x,(D.deep c),()):KA×D×Unit)) [] 0=QE.need (decide c.B) (QE.need (decide c.B) (QE.br (decide ((0:Int)<=i64.wrap (min (max (0:Int) (Qq c.t c.h).lo) (Qq c.t c.h).hi*i64.wrap ((1000:Int)+x.p.dK.lo)))) (QE.leaf (AV.bool false (decide (i64.wrap (min (max (0:Int) (Qq c.t c.h).lo) (Qq c.t c.h).hi*i64.wrap ((1000:Int)+x.p.dK.lo))<=i64.wrap ((1000:Int)*c.p.oK)))) ([])) (QE.leaf (AV.bool true false) ([])))):=by kernel_rfl
theorem QZf:QO prog 156 QSs:=by
 refine KZ QSi 0 func156 (by kernel_rfl) (by kernel_rfl) ?_
 rintro⟨x,(c|c|c),⟨⟩⟩ hp
 .rw[Qc4 x c];simp only[QCu,QE.den,AV.same,AV.sameL,and_true,true_and]at hp ⊢;have hq:=qdt hp;obtain⟨⟨hx,_⟩,hc⟩:=hq;refine⟨qde hc,qde hc,?_⟩;obtain⟨h1,h2,h3⟩:=hc;unfold Vc at h1 hx;unfold VT at h2 h3;simp only[D.c]at h1 h2 h3
  first
   | (refine QBv ?_ ?_ ?_ ?_ ?_<;>(try simp only[Qt,Qr,Qq])<;>omega)
   | (refine QEp ?_ ?_ ?_ ?_<;>(try simp only[Qt,Qr,Qq])<;>omega)
 .rw[QYO x c];simp only[QCu,QE.den,AV.same,AV.sameL,and_true,true_and]at hp ⊢;have hq:=qdt hp;obtain⟨⟨hx,_⟩,hc⟩:=hq;refine⟨qde hc,qde hc,?_⟩;obtain⟨h1,h2,h3⟩:=hc;unfold Vc at h1 hx;unfold VT at h2 h3;simp only[D.c]at h1 h2 h3
  first
   | (refine QBv ?_ ?_ ?_ ?_ ?_<;>(try simp only[Qt,Qr,Qq])<;>omega)
   | (refine QEp ?_ ?_ ?_ ?_<;>(try simp only[Qt,Qr,Qq])<;>omega)
 .rw[Qas x c];simp only[QCu,QE.den,AV.same,AV.sameL,and_true,true_and]at hp ⊢;have hq:=qdt hp;obtain⟨⟨hx,_⟩,hc⟩:=hq;refine⟨qde hc,qde hc,?_⟩;obtain⟨h1,h2,h3⟩:=hc;unfold Vc at h1 hx;unfold VT at h2 h3;simp only[D.c]at h1 h2 h3
  first
   | (refine QBv ?_ ?_ ?_ ?_ ?_<;>(try simp only[Qt,Qr,Qq])<;>omega)
   | (refine QEp ?_ ?_ ?_ ?_<;>(try simp only[Qt,Qr,Qq])<;>omega)
def QB1:Tab:=Qh qd 156 QSs
theorem QNz:QZ QB1:=QSi.add QZf
def QPT:KA×Unit->Bool×AV:=λ|(x,_)=>(decide x.B,vi (Wi x.p x.t x.h))
def QR8:FC:=KM (KN QPT)
theorem Qgn(x:KA):KJ (mkE prog QB1) (hnd (mkE prog QB1) 14) false f136 (Q3.enc ((x,()):KA×Unit)) [] 0 = .need (decide (x.B/\(D.off x).c.B)) (.br (!Kt (D.off x).by_.lo (D.off x).by_.hi (D.off x).lo (D.off x).hi x.p.dK.hi) (.need (decide (x.B/\(D.off x).c.B)) (.br (!Q6 (D.off x).by_.lo (D.off x).by_.hi (D.off x).lo (D.off x).hi x.p.dK.lo) (.leaf (vj 0) ([])) (.need (decide (x.B/\(D.wide x).c.B)) (.br (!Q6 (D.wide x).by_.lo (D.wide x).by_.hi (D.wide x).lo (D.wide x).hi x.p.dK.lo) (.leaf (vj 0) ([])) (.need (decide (x.B/\(D.deep x).c.B)) (.br (!Q6 (D.deep x).by_.lo (D.deep x).by_.hi (D.deep x).lo (D.deep x).hi x.p.dK.lo) (.leaf (vj 0) ([])) (.leaf (vj 1) ([])))))))) (.need (decide (x.B/\(D.wide x).c.B)) (.br (!Kt (D.wide x).by_.lo (D.wide x).by_.hi (D.wide x).lo (D.wide x).hi x.p.dK.hi) (.need (decide (x.B/\(D.off x).c.B)) (.br (!Q6 (D.off x).by_.lo (D.off x).by_.hi (D.off x).lo (D.off x).hi x.p.dK.lo) (.leaf (vj 0) ([])) (.need (decide (x.B/\(D.wide x).c.B)) (.br (!Q6 (D.wide x).by_.lo (D.wide x).by_.hi (D.wide x).lo (D.wide x).hi x.p.dK.lo) (.leaf (vj 0) ([])) (.need (decide (x.B/\(D.deep x).c.B)) (.br (!Q6 (D.deep x).by_.lo (D.deep x).by_.hi (D.deep x).lo (D.deep x).hi x.p.dK.lo) (.leaf (vj 0) ([])) (.leaf (vj 1) ([])))))))) (.need (decide (x.B/\(D.deep x).c.B)) (.br (!Kt (D.deep x).by_.lo (D.deep x).by_.hi (D.deep x).lo (D.deep x).hi x.p.dK.hi) (.need (decide (x.B/\(D.off x).c.B)) (.br (!Q6 (D.off x).by_.lo (D.off x).by_.hi (D.off x).lo (D.off x).hi x.p.dK.lo) (.leaf (vj 0) ([])) (.need (decide (x.B/\(D.wide x).c.B)) (.br (!Q6 (D.wide x).by_.lo (D.wide x).by_.hi (D.wide x).lo (D.wide x).hi x.p.dK.lo) (.leaf (vj 0) ([])) (.need (decide (x.B/\(D.deep x).c.B)) (.br (!Q6 (D.deep x).by_.lo (D.deep x).by_.hi (D.deep x).lo (D.deep x).hi x.p.dK.lo) (.leaf (vj 0) ([])) (.leaf (vj 1) ([])))))))) (.leaf (vj 2) ([]))))))):=by kernel_rfl
theorem QUB:QO prog 136 QR8:=by
 refine KZ QNz 14 func136 (by kernel_rfl) (by kernel_rfl) ?_
 rintro⟨x,⟨⟩⟩ hp;rw[Qgn x];simp only[QPT,QE.den,AV.same,AV.sameL,and_true,true_and]at hp ⊢;have hB:=qdt hp;have d1:decide (x.B/\(D.off x).c.B)=true:=qde ⟨hB,hB⟩;have d2:decide (x.B/\(D.wide x).c.B)=true:=qde ⟨hB,hB⟩;have d3:decide (x.B/\(D.deep x).c.B)=true:=qde ⟨hB,hB⟩;have a0:Kt (D.off x).by_.lo (D.off x).by_.hi (D.off x).lo (D.off x).hi x.p.dK.hi=alw x.p x.t x.h 0:=rfl;have a1:Kt (D.wide x).by_.lo (D.wide x).by_.hi (D.wide x).lo (D.wide x).hi x.p.dK.hi=alw x.p x.t x.h 1:=rfl
 have a2:Kt (D.deep x).by_.lo (D.deep x).by_.hi (D.deep x).lo (D.deep x).hi x.p.dK.hi=alw x.p x.t x.h 2:=rfl;have b0:Q6 (D.off x).by_.lo (D.off x).by_.hi (D.off x).lo (D.off x).hi x.p.dK.lo=may x.p x.t x.h 0:=rfl;have b1:Q6 (D.wide x).by_.lo (D.wide x).by_.hi (D.wide x).lo (D.wide x).hi x.p.dK.lo=may x.p x.t x.h 1:=rfl;have b2:Q6 (D.deep x).by_.lo (D.deep x).by_.hi (D.deep x).lo (D.deep x).hi x.p.dK.lo=may x.p x.t x.h 2:=rfl;simp only[d1,d2,d3,a0,a1,a2,b0,b1,b2,QEq,true_and]
 cases alw x.p x.t x.h 0<;>cases alw x.p x.t x.h 1<;>cases alw x.p x.t x.h 2<;>cases may x.p x.t x.h 0<;>cases may x.p x.t x.h 1<;>cases may x.p x.t x.h 2<;>simp
def QDo:Tab:=Qh QB1 136 QR8
theorem QOx:QZ QDo:=QNz.add QUB
theorem QXB{p:Qz}(h:p.ok=true):Vc p:=by rw[Qz.ok_iff]at h;unfold Vc;omega
theorem QSl{e:Edge}(h:e.ok=true)(hk:e.kind=1∨e.kind=2):VT e:=by rw[Edge.ok_iff]at h;unfold VT;omega
def okP(p:Qz)(a b:Edge):Bool:=p.ok&&(a.ok&&b.ok)
instance : Enc Gap where
  enc x := .agg [.int false .i64 x.off.lo,.int false .i64 x.off.hi,.int false .i64 x.wide.lo,.int false .i64 x.wide.hi,.int false .i64 x.deep.lo,.int false .i64 x.deep.hi]
  dec | .agg [.int _ .i64 a0,.int _ .i64 a1,.int _ .i64 a2,.int _ .i64 a3,.int _ .i64 a4,.int _ .i64 a5] => some ⟨⟨a0,a1⟩,⟨a2,a3⟩,⟨a4,a5⟩⟩ | _ => none
  ok v x h := by
    split at h <;> (try (cases h; done))
    simp only[qsI]at h; subst h; exact⟨λ_=>rfl,rfl⟩
theorem QId{p:Qz}{a b:Edge}(h1:p.ok=true)(h2:a.ok=true)(h3:b.ok=true)(ha:a.kind=1)(hb:b.kind=2):KA.B ⟨p,a,b⟩:=⟨QXB h1,QSl h2 (.inl ha),QSl h3 (.inr hb)⟩
def Edge.zero:Edge:=⟨0,⟨0,0⟩,⟨0,0⟩,⟨0,0⟩⟩
def QPP(s:Edge)(w:Sp)(n:Int):Prop:=VT s/\(0<=w.lo/\w.lo<=100/\0<=w.hi/\w.hi<=100)/\0<=n/\n<=20000
instance (s : Edge) (w : Sp) (n : Int) : Decidable (QPP s w n) := by unfold QPP; infer_instance
def QJx:Qz×Edge×Edge×Unit->Bool×AV:=λ|(p,(a,(b,_)))=>(okP p a b,.int false .i64 (Wa p a b))
def QMI:FC:=KM (KN QJx)
theorem QVm(p:Qz)(a:Edge)(b:Edge):KJ (mkE prog QDo) (hnd (mkE prog QDo) 4) false f103 (Q3.enc ((p,a,b,()):Qz×Edge×Edge×Unit)) [] 0=QE.br (a.kind==(2:Int)) (QE.br (b.kind==(1:Int)) (QE.br (a.kind==(2:Int)) (QE.need (decide (KA.mk p b a).B) (QE.leaf (vi (Wi p b a)) ([]))) (QE.leaf (vj (0:Int)) ([]))) (QE.leaf (vj (0:Int)) ([]))) (QE.br (a.kind==(1:Int)) (QE.br (b.kind==(2:Int)) (QE.need (decide (KA.mk p a b).B) (QE.leaf (vi (Wi p a b)) ([]))) (QE.leaf (vj (0:Int)) ([]))) (QE.leaf (vj (0:Int)) ([]))):=by kernel_rfl
theorem Qfy:QO prog 103 QMI:=by
 refine KZ QOx 4 func103 (by kernel_rfl) (by kernel_rfl) ?_
 rintro⟨p,a,b,⟨⟩⟩ hp;rw[QVm p a b];simp only[QJx,QE.den,AV.same,AV.sameL,and_true,true_and]at hp ⊢;unfold okP at hp;simp only[qbA]at hp;obtain⟨h1,h2,h3⟩:=hp;unfold Wa;simp only[beq_iff_eq,beq_eq_false_iff_ne];refine⟨λha=>⟨λhb=>?_,λhb=>by rw[if_pos ha,if_neg hb]⟩,λha=>⟨λha1=>?_,λha1=>by rw[if_neg ha,if_neg (λh=>ha1 h.1)]⟩⟩
 .refine⟨λ_=>⟨qde (QId h1 h3 h2 hb ha),by rw[if_pos ha,if_pos hb]⟩,λh=>absurd ha h⟩
 .refine⟨λhb=>⟨qde (QId h1 h2 h3 ha1 hb),by rw[if_neg ha,if_pos ⟨ha1,hb⟩]⟩,λhb=>by rw[if_neg ha,if_neg (λh=>hb h.2)]⟩
def QCU:Tab:=Qh QDo 103 QMI
theorem QNa:QZ QCU:=QOx.add Qfy
def QLJ:Qz×Edge×Edge×Unit->Bool×AV:=λ|(p,(a,(b,_)))=>(true,.tup [.int false .i64 (KE p a b).1,.int false .i64 (KE p a b).2])
def QMF:FC:=KM (KN QLJ)
theorem QXI(p:Qz)(a:Edge)(b:Edge):KJ (mkE prog QCU) (hnd (mkE prog QCU) 14) false f65 (Q3.enc ((p,a,b,()):Qz×Edge×Edge×Unit)) [] 0=QE.need (true) (QE.br (!p.ok) (QE.leaf (AV.tup [vj (0:Int),vj (1:Int)]) ([])) (QE.need (true) (QE.br (!a.ok) (QE.leaf (AV.tup [vj (0:Int),vj (1:Int)]) ([])) (QE.need (true) (QE.br (!b.ok) (QE.leaf (AV.tup [vj (0:Int), vj (1:Int)]) ([])) (QE.need (okP p a b) (QE.leaf (AV.tup [vi (Wa p a b),vj (0:Int)]) ([])))))))):=by kernel_rfl
theorem Qeq:QO prog 65 QMF:=by
 refine KZ QNa 14 func65 (by kernel_rfl) (by kernel_rfl) ?_
 rintro⟨p,a,b,⟨⟩⟩ hp;rw[QXI p a b];simp only[QLJ,QE.den,AV.same,AV.sameL,and_true,true_and]at hp ⊢;unfold KE okP;cases p.ok<;>cases a.ok<;>cases b.ok<;>simp
def QC4:Tab:=Qh QCU 65 QMF
theorem QOL:QZ QC4:=QNa.add Qeq
