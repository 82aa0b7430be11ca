/- - -/
import Derived.Test.YtekbmehgcofnkaaGreatProg
import Derived.Test.YtekbmehgcofnkaaGreatMn
import Derived.Test.YtekbmehgcofnkaaGreatMo
import Derived.KernelRfl
open Go.Proofs.Tryz
open Go.IntKind (i64)
set_option maxRecDepth 100000
namespace Go.Proofs.YtekbmehgcofnkaaGreat
open Go.SX
theorem QD1:prog.follows .mixedOrders=true:=by kernel_rfl
abbrev Tab:=FuncId->Option FC
def QDH:Tab:=λ_=>none
def Qc(C:Tab)(f:FuncId)(fc:FC):Tab:=λg=>match g==f with
 | true=>some fc
 | false=>C g
def Qe(C:Tab):Prop:=∀ f fc,C f=some fc->QR prog f fc
theorem Qe.add{C:Tab}(h:Qe C){f:FuncId}{fc:FC}(hf:QR prog f fc):Qe (Qc C f fc):=by
 intro g fc' e;unfold Qc at e;split at e
 .rename_i hg;simp only[qsI]at e;subst e;have:g=f:=by simpa using hg
  subst this;exact hf
 .exact h g fc' e
theorem QQP:Qe QDH:=λ_ _ h=>by cases h
instance : Enc Sp where
  enc x := .agg [.int false .i64 x.lo,.int false .i64 x.hi]
  dec | .agg [.int _ .i64 a0,.int _ .i64 a1] => some ⟨a0,a1⟩ | _ => none
  ok v x h := by
    split at h <;> (try (cases h; done))
    simp only[qsI]at h; subst h; exact⟨λ_=>rfl,rfl⟩
instance : Enc Edge where
  enc x := .agg [.int false .i64 x.kind,.int false .i64 x.at_.lo,.int false .i64 x.at_.hi,.int false .i64 x.wide.lo,.int false .i64 x.wide.hi,.int false .i64 x.deep.lo,.int false .i64 x.deep.hi]
  dec | .agg [.int _ .i64 a0,.int _ .i64 a1,.int _ .i64 a2,.int _ .i64 a3,.int _ .i64 a4,.int _ .i64 a5,.int _ .i64 a6] => some ⟨a0,⟨a1,a2⟩,⟨a3,a4⟩,⟨a5,a6⟩⟩ | _ => none
  ok v x h := by
    split at h <;> (try (cases h; done))
    simp only[qsI]at h; subst h; exact⟨λ_=>rfl,rfl⟩
instance : Enc Qx where
  enc x := .agg [.int false .i64 x.length,.int false .i64 x.aK,.int false .i64 x.oK,.int false .i64 x.dK.lo,.int false .i64 x.dK.hi]
  dec | .agg [.int _ .i64 a0,.int _ .i64 a1,.int _ .i64 a2,.int _ .i64 a3,.int _ .i64 a4] => some ⟨a0,a1,a2,⟨a3,a4⟩⟩ | _ => none
  ok v x h := by
    split at h <;> (try (cases h; done))
    simp only[qsI]at h; subst h; exact⟨λ_=>rfl,rfl⟩
structure Q3 where
 p:Qx
 t:Edge
 h:Edge
inductive D where
 | off (c:Q3)
 | wide (c:Q3)
 | deep (c:Q3)
instance : Enc Q3 where
  enc x := .agg [.int false .i64 x.p.length,.int false .i64 x.p.aK,.int false .i64 x.p.oK,.int false .i64 x.p.dK.lo,.int false .i64 x.p.dK.hi,
    .int false .i64 x.t.kind,.int false .i64 x.t.at_.lo,.int false .i64 x.t.at_.hi,.int false .i64 x.t.wide.lo,.int false .i64 x.t.wide.hi,.int false .i64 x.t.deep.lo,.int false .i64 x.t.deep.hi,
    .int false .i64 x.h.kind,.int false .i64 x.h.at_.lo,.int false .i64 x.h.at_.hi,.int false .i64 x.h.wide.lo,.int false .i64 x.h.wide.hi,.int false .i64 x.h.deep.lo,.int false .i64 x.h.deep.hi]
  dec | .agg [.int _ .i64 p0,.int _ .i64 p1,.int _ .i64 p2,.int _ .i64 p3,.int _ .i64 p4,
      .int _ .i64 a0,.int _ .i64 a1,.int _ .i64 a2,.int _ .i64 a3,.int _ .i64 a4,.int _ .i64 a5,.int _ .i64 a6,
      .int _ .i64 b0,.int _ .i64 b1,.int _ .i64 b2,.int _ .i64 b3,.int _ .i64 b4,.int _ .i64 b5,.int _ .i64 b6] =>
        some ⟨⟨p0,p1,p2,⟨p3,p4⟩⟩,⟨a0,⟨a1,a2⟩,⟨a3,a4⟩,⟨a5,a6⟩⟩,⟨b0,⟨b1,b2⟩,⟨b3,b4⟩,⟨b5,b6⟩⟩⟩
      | _ => none
  ok v x h := by
    split at h <;> (try (cases h; done))
    simp only[qsI]at h; subst h; exact⟨λ_=>rfl,rfl⟩
instance : Enc D where
  enc | .off c => .ifc 136 (Enc.enc c)
      | .wide c => .ifc 132 (Enc.enc c)
      | .deep c => .ifc 137 (Enc.enc c)
  dec | .ifc t v => match (Enc.dec v : Option Q3)with
        | some c => if t = 136 then some (.off c)else if t = 132 then some (.wide c)else if t = 137 then some (.deep c)else none
        | none => none
      | _ => none
  ok v x h := by
    split at h <;> (try (cases h; done))
    split at h <;> (try (cases h; done))
    rename_i t v c hc;have h1 := Enc.ok _ c hc;split at h
    . rename_i e; simp only[qsI]at h; subst h e
      exact⟨λr=>by simp only[AV.den]; rw[h1.1 r],h1.2⟩
    . split at h
      . rename_i e; simp only[qsI]at h; subst h e
        exact⟨λr=>by simp only[AV.den]; rw[h1.1 r],h1.2⟩
      . split at h <;> (try (cases h; done))
        rename_i e; simp only[qsI]at h; subst h e;exact⟨λr=>by simp only[AV.den]; rw[h1.1 r],h1.2⟩
theorem w64{n:Int}(h1 : -9223372036854775808<=n)(h2:n<=9223372036854775807):i64.wrap n=n:=IntWalk.i64_in n ⟨h1,h2⟩
def Vh(e:Edge):Prop:=(0<=e.at_.lo/\e.at_.lo<=10000/\0<=e.at_.hi/\e.at_.hi<=10000)/\(0<=e.wide.lo/\e.wide.lo<=3000/\0<=e.wide.hi/\e.wide.hi<=3000)/\(0<=e.deep.lo/\e.deep.lo<=3000/\0<=e.deep.hi/\e.deep.hi<=3000)
def Vz(p:Qx):Prop:=(1<=p.length/\p.length<=10000)/\(0<=p.aK/\p.aK<=500)/\(0<=p.oK/\p.oK<=500)/\(0<=p.dK.lo/\p.dK.lo<=100)/\0<=p.dK.hi/\p.dK.hi<=100
def Q3.B(c:Q3):Prop:=Vz c.p/\Vh c.t/\Vh c.h
instance (e : Edge) : Decidable (Vh e) := by unfold Vh; infer_instance
instance (p : Qx) : Decidable (Vz p) := by unfold Vz; infer_instance
instance (c : Q3) : Decidable c.B := by unfold Q3.B; infer_instance
def D.by_:D->Sp
 | .off c=>JC c.p c.t c.h
 | .wide c=>K7 c.t c.h
 | .deep c=>K9 c.t c.h
def D.lo:D->Int
 | .off c => -c.p.aK
 | _=>0
def D.hi:D->Int
 | .off c=>c.p.aK
 | .wide c=>c.p.oK
 | .deep c=>c.p.oK
def D.c:D->Q3
 | .off c=>c
 | .wide c=>c
 | .deep c=>c
abbrev mkE(P:Program)(C:Tab):Env:=⟨P,C,HE P,false,λ_=>false,false,false,false⟩
theorem QQ{C:Tab}(hC:Qe C):(mkE prog C).Sound:={ c:=hC,m:=QC9 prog,mixed:=QD1 }
abbrev mkF(P:Program)(C:Tab):Env:=⟨P,C,HE P,false,λ_=>false,false,false,true⟩
theorem Ke{C:Tab}(hC:Qe C):(mkF prog C).Sound:={ c:=hC,m:=QC9 prog,mixed:=QD1 }
abbrev mkS(P:Program)(C:Tab):Env:=⟨P,C,HE P,true,λ_=>false,false,false,false⟩
theorem QBz{C:Tab}(hC:Qe C):(mkS prog C).Sound:={ c:=hC,m:=QC9 prog,mixed:=QD1 }
def binds(fs:List FuncId):Op->Bool
 | .call ⟨.value (.func f),_,_⟩=>fs.contains f
 | .binOp .mul _ _ _ _=>true
 | _=>false
def Qp(fn:Func):Code:=fn.body.getD .skip
theorem K0{C:Tab}(hC:Qe C)(d:Nat){f:FuncId}{fn:Func}(hf:prog.funcs[f]? = some fn)(hb:fn.body=some (Qp fn))(hgo:Jk prog f=true){α:Type}[Q8 α]{F:α->Bool×AV}(hF:∀ x,(F x).1=true->(KX (mkE prog C) (hnd (mkE prog C) d) false fn (Q8.enc x) [] 0).den λu _=>u.same (F x).2):QR prog f (Kk (Kn F)):=
 QPm (QQ hC) hf hb hgo (λG _ hG=>Q1 (QQ hC) d G _ hG) hF
def QP2:Sp×Int×Int×Unit->Bool×AV:=λ|(s,(a,(b,_)))=>(true,.bool false (s.isIn a b))
def QOg:FC:=Kk (Kn QP2)
theorem QX6(s:Sp)(a:Int)(b:Int):KX (mkE prog QDH) (hnd (mkE prog QDH) 0) false f77 (Q8.enc ((s,a,b,()):Sp×Int×Int×Unit)) [] 0=QC.br (decide (a<=s.lo)) (QC.br (decide (s.lo<=s.hi)) (QC.leaf (AV.bool false (decide (s.hi<=b))) ([])) (QC.leaf (AV.bool true false) ([]))) (QC.leaf (AV.bool true false) ([])):=by kernel_rfl
theorem QdR:QR prog 77 QOg:=by
 refine K0 QQP 0 func77 (by kernel_rfl) (by kernel_rfl) ?_
 rintro⟨s,a,b,⟨⟩⟩ hp;rw[QX6 s a b];simp only[QP2,QC.den,AV.same,AV.sameL,and_true,true_and]at hp ⊢
 (repeat' (first|(refine aI ?_ ?_)|(intro _)))<;>simp_all [Sp.isIn]<;>omega
def QDO:Tab:=Qc QDH 77 QOg
theorem QRJ:Qe QDO:=QQP.add QdR
def QK5:Int×Int×Int×Unit->Bool×AV:=λ|(n,(a,(b,_)))=>(true,.bool false (Qv n a b))
def QQ3:FC:=Kk (Kn QK5)
theorem QTk(n:Int)(a:Int)(b:Int):KX (mkE prog QDO) (hnd (mkE prog QDO) 0) false f87 (Q8.enc ((n,a,b,()):Int×Int×Int×Unit)) [] 0=QC.br (decide (a<=n)) (QC.leaf (AV.bool false (decide (n<=b))) ([])) (QC.leaf (AV.bool true false) ([])):=by kernel_rfl
theorem QdE:QR prog 87 QQ3:=by
 refine K0 QRJ 0 func87 (by kernel_rfl) (by kernel_rfl) ?_
 rintro⟨n,a,b,⟨⟩⟩ hp;rw[QTk n a b];simp only[QK5,QC.den,AV.same,AV.sameL,and_true,true_and]at hp ⊢
 (repeat' (first|(refine aI ?_ ?_)|(intro _)))<;>simp_all [Qv]<;>omega
def QBp:Tab:=Qc QDO 87 QQ3
theorem QLZ:Qe QBp:=QRJ.add QdE
def QOY:Edge×Unit->Bool×AV:=λ|(a,_)=>(true,.bool false a.ok)
def QJJ:FC:=Kk (Kn QOY)
theorem Qcu(a:Edge):KX (mkE prog QBp) (hnd (mkE prog QBp) 0) false f86 (Q8.enc ((a,()):Edge×Unit)) [] 0=QC.br (a.kind==(0:Int)) (QC.leaf (AV.bool true true) ([])) (QC.br (a.kind==(1:Int)) (QC.need (true) (QC.br (a.at_.isIn (0:Int) (10000:Int)) (QC.need (true) (QC.br (a.wide.isIn (1:Int) (3000:Int)) (QC.need (true) (QC.leaf (AV.bool false (a.deep.isIn (1:Int) (3000:Int))) ([]))) (QC.leaf (AV.bool true false) ([])))) (QC.leaf (AV.bool true false) ([])))) (QC.br (a.kind==(2:Int)) (QC.need (true) (QC.br (a.at_.isIn (0:Int) (10000:Int)) (QC.need (true) (QC.br (a.wide.isIn (1:Int) (3000:Int)) (QC.need (true) (QC.leaf (AV.bool false (a.deep.isIn (1:Int) (3000:Int))) ([]))) (QC.leaf (AV.bool true false) ([])))) (QC.leaf (AV.bool true false) ([])))) (QC.leaf (AV.bool true false) ([])))):=by kernel_rfl
theorem Qdv:QR prog 86 QJJ:=by
 refine K0 QLZ 0 func86 (by kernel_rfl) (by kernel_rfl) ?_
 rintro⟨a,⟨⟩⟩ hp;rw[Qcu a];simp only[QOY,QC.den,AV.same,AV.sameL,and_true,true_and]at hp ⊢
 (repeat' (first|(refine aI ?_ ?_)|(intro _)))<;>simp_all [Edge.ok]
def QBZ:Tab:=Qc QBp 86 QJJ
theorem QPr:Qe QBZ:=QLZ.add Qdv
def QJO:Qx×Unit->Bool×AV:=λ|(p,_)=>(true,.bool false p.ok)
def QRv:FC:=Kk (Kn QJO)
theorem Qb6(p:Qx):KX (mkE prog QBZ) (hnd (mkE prog QBZ) 0) false f75 (Q8.enc ((p,()):Qx×Unit)) [] 0=QC.need (true) (QC.br (Qv p.length (1:Int) (10000:Int)) (QC.need (true) (QC.br (Qv p.aK (0:Int) (500:Int)) (QC.need (true) (QC.br (Qv p.oK (0:Int) (500:Int)) (QC.need (true) (QC.leaf (AV.bool false (p.dK.isIn (0:Int) (100:Int))) ([]))) (QC.leaf (AV.bool true false) ([])))) (QC.leaf (AV.bool true false) ([])))) (QC.leaf (AV.bool true false) ([]))):=by kernel_rfl
theorem QV8:QR prog 75 QRv:=by
 refine K0 QPr 0 func75 (by kernel_rfl) (by kernel_rfl) ?_
 rintro⟨p,⟨⟩⟩ hp;rw[Qb6 p];simp only[QJO,QC.den,AV.same,AV.sameL,and_true,true_and]at hp ⊢
 (repeat' (first|(refine aI ?_ ?_)|(intro _)))<;>simp_all [Qx.ok]
def QCT:Tab:=Qc QBZ 75 QRv
theorem QNh:Qe QCT:=QPr.add QV8
def QLo:Sp×Sp×Unit->Bool×AV:=λ|(s,(o,_))=>(decide (Sm s.lo/\Sm s.hi/\Sm o.lo/\Sm o.hi),Enc.enc (s.less o))
def QPd:FC:=Kk (Kn QLo)
theorem QdW(s:Sp)(o:Sp):KX (mkE prog QCT) (hnd (mkE prog QCT) 0) false f123 (Q8.enc ((s,o,()):Sp×Sp×Unit)) [] 0=QC.leaf (AV.agg [vi (i64.wrap (s.lo-o.hi)),vi (i64.wrap (s.hi-o.lo))]) ([]):=by kernel_rfl
theorem Qdt:QR prog 123 QPd:=by
 refine K0 QNh 0 func123 (by kernel_rfl) (by kernel_rfl) ?_
 rintro⟨s,o,⟨⟩⟩ hp;rw[QdW s o];simp only[QLo,QC.den,AV.same,AV.sameL,and_true,true_and]at hp ⊢;have hp:=qdt hp;unfold Sm at hp;simp only[Sp.less,Enc.enc,AV.same,AV.sameL];rw[w64 (by omega) (by omega),w64 (by omega) (by omega)];simp
def QCz:Tab:=Qc QCT 123 QPd
theorem QPn:Qe QCz:=QNh.add Qdt
def QPM:Sp×Sp×Unit->Bool×AV:=λ|(s,(o,_))=>(decide (Sm s.lo/\Sm s.hi/\Sm o.lo/\Sm o.hi),Enc.enc (s.plus o))
def QPW:FC:=Kk (Kn QPM)
theorem QcO(s:Sp)(o:Sp):KX (mkE prog QCz) (hnd (mkE prog QCz) 0) false f124 (Q8.enc ((s,o,()):Sp×Sp×Unit)) [] 0=QC.leaf (AV.agg [vi (i64.wrap (s.lo+o.lo)),vi (i64.wrap (s.hi+o.hi))]) ([]):=by kernel_rfl
theorem QXb:QR prog 124 QPW:=by
 refine K0 QPn 0 func124 (by kernel_rfl) (by kernel_rfl) ?_
 rintro⟨s,o,⟨⟩⟩ hp;rw[QcO s o];simp only[QPM,QC.den,AV.same,AV.sameL,and_true,true_and]at hp ⊢;have hp:=qdt hp;unfold Sm at hp;simp only[Sp.plus,Enc.enc,AV.same,AV.sameL];rw[w64 (by omega) (by omega),w64 (by omega) (by omega)];simp
def QCw:Tab:=Qc QCz 124 QPW
theorem QLn:Qe QCw:=QPn.add QXb
def QRL:Q3×Unit->Bool×AV:=λ|(c,_)=>(decide c.B,Enc.enc (JC c.p c.t c.h))
def QOk:FC:=Kk (Kn QRL)
theorem QZ4(c:Q3):KX (mkE prog QCw) (hnd (mkE prog QCw) 0) false f208 (Q8.enc ((c,()):Q3×Unit)) [] 0=QC.need (decide (Sm c.t.at_.lo/\Sm c.t.at_.hi/\Sm c.h.at_.lo/\Sm c.h.at_.hi)) (QC.need (decide (Sm (c.t.at_.plus c.h.at_).lo/\Sm (c.t.at_.plus c.h.at_).hi/\Sm (i64.wrap ((0:Int)-c.p.length))/\Sm (i64.wrap ((0:Int)-c.p.length)))) (QC.leaf (AV.agg [vi ((c.t.at_.plus c.h.at_).plus (Sp.mk (i64.wrap ((0:Int)-c.p.length)) (i64.wrap ((0:Int)-c.p.length)))).lo,vi ((c.t.at_.plus c.h.at_).plus (Sp.mk (i64.wrap ((0:Int)-c.p.length)) (i64.wrap ((0:Int)-c.p.length)))).hi]) ([]))):=by kernel_rfl
theorem QbW:QR prog 208 QOk:=by
 refine K0 QLn 0 func208 (by kernel_rfl) (by kernel_rfl) ?_
 rintro⟨c,⟨⟩⟩ hp;rw[QZ4 c];simp only[QRL,QC.den,AV.same,AV.sameL,and_true,true_and]at hp ⊢;have hp:=qdt hp;obtain⟨h1,h2,h3⟩:=hp;unfold Vz at h1;unfold Vh at h2 h3;have e:i64.wrap (0-c.p.length) = -c.p.length:=by rw[w64 (by omega) (by omega)];omega
 rw[e];refine⟨qde (by unfold Sm;omega),qde (by unfold Sm Sp.plus;simp only;omega),?_⟩
 simp[JC,Sp.plus,Enc.enc,AV.same,AV.sameL]
def QCH:Tab:=Qc QCw 208 QOk
theorem QSA:Qe QCH:=QLn.add QbW
def QNZ:Q3×Unit->Bool×AV:=λ|(c,_)=>(decide c.B,Enc.enc (K7 c.t c.h))
def QNG:FC:=Kk (Kn QNZ)
theorem QVp(c:Q3):KX (mkE prog QCH) (hnd (mkE prog QCH) 0) false f83 (Q8.enc ((c,()):Q3×Unit)) [] 0=QC.need (decide (Sm c.h.wide.lo/\Sm c.h.wide.hi/\Sm c.t.wide.lo/\Sm c.t.wide.hi)) (QC.leaf (AV.agg [vi (c.h.wide.less c.t.wide).lo,vi (c.h.wide.less c.t.wide).hi]) ([])):=by kernel_rfl
theorem QbI:QR prog 83 QNG:=by
 refine K0 QSA 0 func83 (by kernel_rfl) (by kernel_rfl) ?_
 rintro⟨c,⟨⟩⟩ hp;rw[QVp c];simp only[QNZ,QC.den,AV.same,AV.sameL,and_true,true_and]at hp ⊢;have hp:=qdt hp;obtain⟨h1,h2,h3⟩:=hp;unfold Vz at h1;unfold Vh at h2 h3;refine⟨qde (by unfold Sm;omega),?_⟩
 simp[K7,Sp.less,Enc.enc,AV.same,AV.sameL]
def QB6:Tab:=Qc QCH 83 QNG
theorem QNS:Qe QB6:=QSA.add QbI
def QRk:Q3×Unit->Bool×AV:=λ|(c,_)=>(decide c.B,Enc.enc (K9 c.t c.h))
def QLS:FC:=Kk (Kn QRk)
theorem QXE(c:Q3):KX (mkE prog QB6) (hnd (mkE prog QB6) 0) false f210 (Q8.enc ((c,()):Q3×Unit)) [] 0=QC.need (decide (Sm c.h.deep.lo/\Sm c.h.deep.hi/\Sm c.t.deep.lo/\Sm c.t.deep.hi)) (QC.leaf (AV.agg [vi (c.h.deep.less c.t.deep).lo,vi (c.h.deep.less c.t.deep).hi]) ([])):=by kernel_rfl
theorem QS9:QR prog 210 QLS:=by
 refine K0 QNS 0 func210 (by kernel_rfl) (by kernel_rfl) ?_
 rintro⟨c,⟨⟩⟩ hp;rw[QXE c];simp only[QRk,QC.den,AV.same,AV.sameL,and_true,true_and]at hp ⊢;have hp:=qdt hp;obtain⟨h1,h2,h3⟩:=hp;unfold Vz at h1;unfold Vh at h2 h3;refine⟨qde (by unfold Sm;omega),?_⟩
 simp[K9,Sp.less,Enc.enc,AV.same,AV.sameL]
def QDC:Tab:=Qc QB6 210 QLS
theorem QR9:Qe QDC:=QNS.add QS9
def QPO:Q3×Unit->Bool×AV:=λ|(c,_)=>(decide c.B,.tup [.int false .i64 (-c.p.aK),.int false .i64 c.p.aK])
def QMX:FC:=Kk (Kn QPO)
theorem QYb(c:Q3):KX (mkE prog QDC) (hnd (mkE prog QDC) 0) false f207 (Q8.enc ((c,()):Q3×Unit)) [] 0=QC.leaf (AV.tup [vi (i64.wrap ((0:Int)-c.p.aK)),vi c.p.aK]) ([]):=by kernel_rfl
theorem Qc8:QR prog 207 QMX:=by
 refine K0 QR9 0 func207 (by kernel_rfl) (by kernel_rfl) ?_
 rintro⟨c,⟨⟩⟩ hp;rw[QYb c];simp only[QPO,QC.den,AV.same,AV.sameL,and_true,true_and]at hp ⊢;have hp:=qdt hp;obtain⟨h1,h2,h3⟩:=hp;unfold Vz at h1;rw[w64 (by omega) (by omega)];omega
def QDX:Tab:=Qc QDC 207 QMX
theorem QQM:Qe QDX:=QR9.add Qc8
def QRD:Q3×Unit->Bool×AV:=λ|(c,_)=>(decide c.B,.tup [.int false .i64 0,.int false .i64 c.p.oK])
def QN9:FC:=Kk (Kn QRD)
theorem QXQ(c:Q3):KX (mkE prog QDX) (hnd (mkE prog QDX) 0) false f206 (Q8.enc ((c,()):Q3×Unit)) [] 0=QC.leaf (AV.tup [vj (0:Int),vi c.p.oK]) ([]):=by kernel_rfl
theorem QZT:QR prog 206 QN9:=by
 refine K0 QQM 0 func206 (by kernel_rfl) (by kernel_rfl) ?_
 rintro⟨c,⟨⟩⟩ hp;rw[QXQ c];simp only[QRD,QC.den,AV.same,AV.sameL,and_true,true_and]at hp ⊢
def QD4:Tab:=Qc QDX 206 QN9
theorem QL8:Qe QD4:=QQM.add QZT
def QSG:Q3×Unit->Bool×AV:=λ|(c,_)=>(decide c.B,.tup [.int false .i64 0,.int false .i64 c.p.oK])
def QMv:FC:=Kk (Kn QSG)
theorem QTQ(c:Q3):KX (mkE prog QD4) (hnd (mkE prog QD4) 0) false f209 (Q8.enc ((c,()):Q3×Unit)) [] 0=QC.leaf (AV.tup [vj (0:Int),vi c.p.oK]) ([]):=by kernel_rfl
theorem QXX:QR prog 209 QMv:=by
 refine K0 QL8 0 func209 (by kernel_rfl) (by kernel_rfl) ?_
 rintro⟨c,⟨⟩⟩ hp;rw[QTQ c];simp only[QSG,QC.den,AV.same,AV.sameL,and_true,true_and]at hp ⊢
def W4:Tab:=Qc QD4 209 QMv
theorem QOV:Qe W4:=QL8.add QXX
theorem QEH{sl sh lo hi dh:Int}(h1 : -100000<=sl/\sl<=100000)(h2 : -100000<=sh/\sh<=100000)(h3 : -500<=lo/\lo<=500)(h4 : -500<=hi/\hi<=500)(h5:0<=dh/\dh<=100):
  (decide (i64.wrap (sl*i64.wrap (1000+dh))≥i64.wrap (1000*lo))=true->decide (i64.wrap (sh*i64.wrap (1000+dh))<=i64.wrap (1000*hi))=J2 sl sh lo hi dh) /\
  (decide (i64.wrap (sl*i64.wrap (1000+dh))≥i64.wrap (1000*lo))=false->false=J2 sl sh lo hi dh):=by
 obtain⟨m1,m2⟩:=QIU (a:=sl) (m:=1000+dh) (by omega) (by omega) (by omega) (by omega)
 obtain⟨m3,m4⟩:=QIU (a:=sh) (m:=1000+dh) (by omega) (by omega) (by omega) (by omega)
 rw[w64 (n:=1000+dh) (by omega) (by omega),w64 (n:=sl*_) (by omega) (by omega),w64 (n:=sh*_) (by omega) (by omega),w64 (n:=1000*lo) (by omega) (by omega),w64 (n:=1000*hi) (by omega) (by omega)]
 exact⟨λh=>QZ5 (qdt h),λh=>QaG (by have:=qdf h;omega)⟩
theorem QD2{sl sh lo hi dl:Int}(h1 : -100000<=sl/\sl<=100000)(h2 : -100000<=sh/\sh<=100000)(h3 : -500<=lo/\lo<=500)(h4 : -500<=hi/\hi<=500)(h5:0<=dl/\dl<=100):
  (decide (i64.wrap (1000*lo)<=i64.wrap (min (max 0 sl) sh*i64.wrap (1000+dl)))=true->decide (i64.wrap (min (max 0 sl) sh*i64.wrap (1000+dl))<=i64.wrap (1000*hi))=JF sl sh lo hi dl) /\
  (decide (i64.wrap (1000*lo)<=i64.wrap (min (max 0 sl) sh*i64.wrap (1000+dl)))=false->false=JF sl sh lo hi dl):=by
 obtain⟨m1,m2⟩:=QIU (a:=min (max 0 sl) sh) (m:=1000+dl) (by omega) (by omega) (by omega) (by omega)
 rw[w64 (n:=1000+dl) (by omega) (by omega),w64 (n:=min (max 0 sl) sh*_) (by omega) (by omega),w64 (n:=1000*lo) (by omega) (by omega),w64 (n:=1000*hi) (by omega) (by omega)]
 exact⟨λh=>Qb5 (qdt h),λh=>QYm (by have:=qdf h;omega)⟩
theorem QNd:i64.wrap (1000*0)=0:=by decide
theorem QI0{sl sh hi dh:Int}(h1 : -100000<=sl/\sl<=100000)(h2 : -100000<=sh/\sh<=100000)(h4 : -500<=hi/\hi<=500)(h5:0<=dh/\dh<=100):
  (decide (i64.wrap (sl*i64.wrap (1000+dh))≥0)=true->decide (i64.wrap (sh*i64.wrap (1000+dh))<=i64.wrap (1000*hi))=J2 sl sh 0 hi dh) /\
  (decide (i64.wrap (sl*i64.wrap (1000+dh))≥0)=false->false=J2 sl sh 0 hi dh):=by
 have:=QEH (lo:=0) h1 h2 (by omega) h4 h5
 rw[QNd]at this;exact this
theorem QGg{sl sh hi dl:Int}(h1 : -100000<=sl/\sl<=100000)(h2 : -100000<=sh/\sh<=100000)(h4 : -500<=hi/\hi<=500)(h5:0<=dl/\dl<=100):
  (decide (0<=i64.wrap (min (max 0 sl) sh*i64.wrap (1000+dl)))=true->decide (i64.wrap (min (max 0 sl) sh*i64.wrap (1000+dl))<=i64.wrap (1000*hi))=JF sl sh 0 hi dl) /\
  (decide (0<=i64.wrap (min (max 0 sl) sh*i64.wrap (1000+dl)))=false->false=JF sl sh 0 hi dl):=by
 have:=QD2 (lo:=0) h1 h2 (by omega) h4 h5
 rw[QNd]at this;exact this
def QEr:Q3×D×Unit->Bool×AV:=λ|(x,(d,_))=>(decide (x.B/\d.c.B),.bool false (J2 d.by_.lo d.by_.hi d.lo d.hi x.p.dK.hi))
def QL6:FC:=Kk (Kn QEr)
theorem Qaz(x:Q3)(c:Q3):KX (mkE prog W4) (hnd (mkE prog W4) 0) false f85 (Q8.enc ((x,(D.off c),()):Q3×D×Unit)) [] 0=QC.need (decide c.B) (QC.need (decide c.B) (QC.br (decide (i64.wrap ((JC c.p c.t c.h).lo*i64.wrap ((1000:Int)+x.p.dK.hi))≥i64.wrap ((1000:Int) * -c.p.aK))) (QC.leaf (AV.bool false (decide (i64.wrap ((JC c.p c.t c.h).hi*i64.wrap ((1000:Int)+x.p.dK.hi))<=i64.wrap ((1000:Int)*c.p.aK)))) ([])) (QC.leaf (AV.bool true false) ([])))):=by kernel_rfl
theorem QaE(x:Q3)(c:Q3):KX (mkE prog W4) (hnd (mkE prog W4) 0) false f85 (Q8.enc ((x,(D.wide c),()):Q3×D×Unit)) [] 0=QC.need (decide c.B) (QC.need (decide c.B) (QC.br (decide (i64.wrap ((K7 c.t c.h).lo*i64.wrap ((1000:Int)+x.p.dK.hi))≥(0:Int))) (QC.leaf (AV.bool false (decide (i64.wrap ((K7 c.t c.h).hi*i64.wrap ((1000:Int)+x.p.dK.hi))<=i64.wrap ((1000:Int)*c.p.oK)))) ([])) (QC.leaf (AV.bool true false) ([])))):=by kernel_rfl
theorem Qdd(x:Q3)(c:Q3):KX (mkE prog W4) (hnd (mkE prog W4) 0) false f85 (Q8.enc ((x,(D.deep c),()):Q3×D×Unit)) [] 0=QC.need (decide c.B) (QC.need (decide c.B) (QC.br (decide (i64.wrap ((K9 c.t c.h).lo*i64.wrap ((1000:Int)+x.p.dK.hi))≥(0:Int))) (QC.leaf (AV.bool false (decide (i64.wrap ((K9 c.t c.h).hi*i64.wrap ((1000:Int)+x.p.dK.hi))<=i64.wrap ((1000:Int)*c.p.oK)))) ([])) (QC.leaf (AV.bool true false) ([])))):=by kernel_rfl
theorem QUc:QR prog 85 QL6:=by
 refine K0 QOV 0 func85 (by kernel_rfl) (by kernel_rfl) ?_
 rintro⟨x,(c|c|c),⟨⟩⟩ hp
 .rw[Qaz x c];simp only[QEr,QC.den,AV.same,AV.sameL,and_true,true_and]at hp ⊢;have hq:=qdt hp;obtain⟨⟨hx,_⟩,hc⟩:=hq;refine⟨qde hc,qde hc,?_⟩;obtain⟨h1,h2,h3⟩:=hc;unfold Vz at h1 hx;unfold Vh at h2 h3;simp only[D.c]at h1 h2 h3
  first
   | (refine QEH ?_ ?_ ?_ ?_ ?_<;>(try simp only[JC,K7,K9])<;>omega)
   | (refine QI0 ?_ ?_ ?_ ?_<;>(try simp only[JC,K7,K9])<;>omega)
 .rw[QaE x c];simp only[QEr,QC.den,AV.same,AV.sameL,and_true,true_and]at hp ⊢;have hq:=qdt hp;obtain⟨⟨hx,_⟩,hc⟩:=hq;refine⟨qde hc,qde hc,?_⟩;obtain⟨h1,h2,h3⟩:=hc;unfold Vz at h1 hx;unfold Vh at h2 h3;simp only[D.c]at h1 h2 h3
  first
   | (refine QEH ?_ ?_ ?_ ?_ ?_<;>(try simp only[JC,K7,K9])<;>omega)
   | (refine QI0 ?_ ?_ ?_ ?_<;>(try simp only[JC,K7,K9])<;>omega)
 .rw[Qdd x c];simp only[QEr,QC.den,AV.same,AV.sameL,and_true,true_and]at hp ⊢;have hq:=qdt hp;obtain⟨⟨hx,_⟩,hc⟩:=hq;refine⟨qde hc,qde hc,?_⟩;obtain⟨h1,h2,h3⟩:=hc;unfold Vz at h1 hx;unfold Vh at h2 h3;simp only[D.c]at h1 h2 h3
  first
   | (refine QEH ?_ ?_ ?_ ?_ ?_<;>(try simp only[JC,K7,K9])<;>omega)
   | (refine QI0 ?_ ?_ ?_ ?_<;>(try simp only[JC,K7,K9])<;>omega)
def W2:Tab:=Qc W4 85 QL6
theorem QSP:Qe W2:=QOV.add QUc
def QEn:Q3×D×Unit->Bool×AV:=λ|(x,(d,_))=>(decide (x.B/\d.c.B),.bool false (JF d.by_.lo d.by_.hi d.lo d.hi x.p.dK.lo))
def QQ2:FC:=Kk (Kn QEn)
theorem Qad(x:Q3)(c:Q3):KX (mkE prog W2) (hnd (mkE prog W2) 0) false f148 (Q8.enc ((x,(D.off c),()):Q3×D×Unit)) [] 0=QC.need (decide c.B) (QC.need (decide c.B) (QC.br (decide (i64.wrap ((1000:Int) * -c.p.aK)<=i64.wrap (min (max (0:Int) (JC c.p c.t c.h).lo) (JC c.p c.t c.h).hi*i64.wrap ((1000:Int)+x.p.dK.lo)))) (QC.leaf (AV.bool false (decide (i64.wrap (min (max (0:Int) (JC c.p c.t c.h).lo) (JC c.p c.t c.h).hi*i64.wrap ((1000:Int)+x.p.dK.lo))<=i64.wrap ((1000:Int)*c.p.aK)))) ([])) (QC.leaf (AV.bool true false) ([])))):=by kernel_rfl
theorem Qdf(x:Q3)(c:Q3):KX (mkE prog W2) (hnd (mkE prog W2) 0) false f148 (Q8.enc ((x,(D.wide c),()):Q3×D×Unit)) [] 0=QC.need (decide c.B) (QC.need (decide c.B) (QC.br (decide ((0:Int)<=i64.wrap (min (max (0:Int) (K7 c.t c.h).lo) (K7 c.t c.h).hi*i64.wrap ((1000:Int)+x.p.dK.lo)))) (QC.leaf (AV.bool false (decide (i64.wrap (min (max (0:Int) (K7 c.t c.h).lo) (K7 c.t c.h).hi*i64.wrap ((1000:Int)+x.p.dK.lo))<=i64.wrap ((1000:Int)*c.p.oK)))) ([])) (QC.leaf (AV.bool true false) ([])))):=by kernel_rfl
theorem QVL(x:Q3)(c:Q3):KX (mkE prog W2) (hnd (mkE prog W2) 0) false f148 (Q8.enc ((x,(D.deep c),()):Q3×D×Unit)) [] 0=QC.need (decide c.B) (QC.need (decide c.B) (QC.br (decide ((0:Int)<=i64.wrap (min (max (0:Int) (K9 c.t c.h).lo) (K9 c.t c.h).hi*i64.wrap ((1000:Int)+x.p.dK.lo)))) (QC.leaf (AV.bool false (decide (i64.wrap (min (max (0:Int) (K9 c.t c.h).lo) (K9 c.t c.h).hi*i64.wrap ((1000:Int)+x.p.dK.lo))<=i64.wrap ((1000:Int)*c.p.oK)))) ([])) (QC.leaf (AV.bool true false) ([])))):=by kernel_rfl
theorem QV7:QR prog 148 QQ2:=by
 refine K0 QSP 0 func148 (by kernel_rfl) (by kernel_rfl) ?_
 rintro⟨x,(c|c|c),⟨⟩⟩ hp
 .rw[Qad x c];simp only[QEn,QC.den,AV.same,AV.sameL,and_true,true_and]at hp ⊢;have hq:=qdt hp;obtain⟨⟨hx,_⟩,hc⟩:=hq;refine⟨qde hc,qde hc,?_⟩;obtain⟨h1,h2,h3⟩:=hc;unfold Vz at h1 hx;unfold Vh at h2 h3;simp only[D.c]at h1 h2 h3
  first
   | (refine QD2 ?_ ?_ ?_ ?_ ?_<;>(try simp only[JC,K7,K9])<;>omega)
   | (refine QGg ?_ ?_ ?_ ?_<;>(try simp only[JC,K7,K9])<;>omega)
 .rw[Qdf x c];simp only[QEn,QC.den,AV.same,AV.sameL,and_true,true_and]at hp ⊢;have hq:=qdt hp;obtain⟨⟨hx,_⟩,hc⟩:=hq;refine⟨qde hc,qde hc,?_⟩;obtain⟨h1,h2,h3⟩:=hc;unfold Vz at h1 hx;unfold Vh at h2 h3;simp only[D.c]at h1 h2 h3
  first
   | (refine QD2 ?_ ?_ ?_ ?_ ?_<;>(try simp only[JC,K7,K9])<;>omega)
   | (refine QGg ?_ ?_ ?_ ?_<;>(try simp only[JC,K7,K9])<;>omega)
 .rw[QVL x c];simp only[QEn,QC.den,AV.same,AV.sameL,and_true,true_and]at hp ⊢;have hq:=qdt hp;obtain⟨⟨hx,_⟩,hc⟩:=hq;refine⟨qde hc,qde hc,?_⟩;obtain⟨h1,h2,h3⟩:=hc;unfold Vz at h1 hx;unfold Vh at h2 h3;simp only[D.c]at h1 h2 h3
  first
   | (refine QD2 ?_ ?_ ?_ ?_ ?_<;>(try simp only[JC,K7,K9])<;>omega)
   | (refine QGg ?_ ?_ ?_ ?_<;>(try simp only[JC,K7,K9])<;>omega)
def QEb:Tab:=Qc W2 148 QQ2
theorem QRS:Qe QEb:=QSP.add QV7
def QJX:Q3×Unit->Bool×AV:=λ|(x,_)=>(decide x.B,vi (YS x.p x.t x.h))
def QJU:FC:=Kk (Kn QJX)
theorem QTF(x:Q3):KX (mkE prog QEb) (hnd (mkE prog QEb) 14) false f129 (Q8.enc ((x,()):Q3×Unit)) [] 0 = .need (decide (x.B/\(D.off x).c.B)) (.br (!J2 (D.off x).by_.lo (D.off x).by_.hi (D.off x).lo (D.off x).hi x.p.dK.hi) (.need (decide (x.B/\(D.off x).c.B)) (.br (!JF (D.off x).by_.lo (D.off x).by_.hi (D.off x).lo (D.off x).hi x.p.dK.lo) (.leaf (vj 0) ([])) (.need (decide (x.B/\(D.wide x).c.B)) (.br (!JF (D.wide x).by_.lo (D.wide x).by_.hi (D.wide x).lo (D.wide x).hi x.p.dK.lo) (.leaf (vj 0) ([])) (.need (decide (x.B/\(D.deep x).c.B)) (.br (!JF (D.deep x).by_.lo (D.deep x).by_.hi (D.deep x).lo (D.deep x).hi x.p.dK.lo) (.leaf (vj 0) ([])) (.leaf (vj 1) ([])))))))) (.need (decide (x.B/\(D.wide x).c.B)) (.br (!J2 (D.wide x).by_.lo (D.wide x).by_.hi (D.wide x).lo (D.wide x).hi x.p.dK.hi) (.need (decide (x.B/\(D.off x).c.B)) (.br (!JF (D.off x).by_.lo (D.off x).by_.hi (D.off x).lo (D.off x).hi x.p.dK.lo) (.leaf (vj 0) ([])) (.need (decide (x.B/\(D.wide x).c.B)) (.br (!JF (D.wide x).by_.lo (D.wide x).by_.hi (D.wide x).lo (D.wide x).hi x.p.dK.lo) (.leaf (vj 0) ([])) (.need (decide (x.B/\(D.deep x).c.B)) (.br (!JF (D.deep x).by_.lo (D.deep x).by_.hi (D.deep x).lo (D.deep x).hi x.p.dK.lo) (.leaf (vj 0) ([])) (.leaf (vj 1) ([])))))))) (.need (decide (x.B/\(D.deep x).c.B)) (.br (!J2 (D.deep x).by_.lo (D.deep x).by_.hi (D.deep x).lo (D.deep x).hi x.p.dK.hi) (.need (decide (x.B/\(D.off x).c.B)) (.br (!JF (D.off x).by_.lo (D.off x).by_.hi (D.off x).lo (D.off x).hi x.p.dK.lo) (.leaf (vj 0) ([])) (.need (decide (x.B/\(D.wide x).c.B)) (.br (!JF (D.wide x).by_.lo (D.wide x).by_.hi (D.wide x).lo (D.wide x).hi x.p.dK.lo) (.leaf (vj 0) ([])) (.need (decide (x.B/\(D.deep x).c.B)) (.br (!JF (D.deep x).by_.lo (D.deep x).by_.hi (D.deep x).lo (D.deep x).hi x.p.dK.lo) (.leaf (vj 0) ([])) (.leaf (vj 1) ([])))))))) (.leaf (vj 2) ([]))))))):=by kernel_rfl
theorem Qan:QR prog 129 QJU:=by
 refine K0 QRS 14 func129 (by kernel_rfl) (by kernel_rfl) ?_
 rintro⟨x,⟨⟩⟩ hp;rw[QTF x];simp only[QJX,QC.den,AV.same,AV.sameL,and_true,true_and]at hp ⊢;have hB:=qdt hp;have d1:decide (x.B/\(D.off x).c.B)=true:=qde ⟨hB,hB⟩;have d2:decide (x.B/\(D.wide x).c.B)=true:=qde ⟨hB,hB⟩;have d3:decide (x.B/\(D.deep x).c.B)=true:=qde ⟨hB,hB⟩;have a0:J2 (D.off x).by_.lo (D.off x).by_.hi (D.off x).lo (D.off x).hi x.p.dK.hi=alw x.p x.t x.h 0:=rfl;have a1:J2 (D.wide x).by_.lo (D.wide x).by_.hi (D.wide x).lo (D.wide x).hi x.p.dK.hi=alw x.p x.t x.h 1:=rfl
 have a2:J2 (D.deep x).by_.lo (D.deep x).by_.hi (D.deep x).lo (D.deep x).hi x.p.dK.hi=alw x.p x.t x.h 2:=rfl;have b0:JF (D.off x).by_.lo (D.off x).by_.hi (D.off x).lo (D.off x).hi x.p.dK.lo=may x.p x.t x.h 0:=rfl;have b1:JF (D.wide x).by_.lo (D.wide x).by_.hi (D.wide x).lo (D.wide x).hi x.p.dK.lo=may x.p x.t x.h 1:=rfl;have b2:JF (D.deep x).by_.lo (D.deep x).by_.hi (D.deep x).lo (D.deep x).hi x.p.dK.lo=may x.p x.t x.h 2:=rfl;simp only[d1,d2,d3,a0,a1,a2,b0,b1,b2,QXV,true_and]
 cases alw x.p x.t x.h 0<;>cases alw x.p x.t x.h 1<;>cases alw x.p x.t x.h 2<;>cases may x.p x.t x.h 0<;>cases may x.p x.t x.h 1<;>cases may x.p x.t x.h 2<;>simp
def QCo:Tab:=Qc QEb 129 QJU
theorem QM8:Qe QCo:=QRS.add Qan
theorem QTs{p:Qx}(h:p.ok=true):Vz p:=by rw[Qx.ok_iff]at h;unfold Vz;omega
theorem QJc{e:Edge}(h:e.ok=true)(hk:e.kind=1∨e.kind=2):Vh e:=by rw[Edge.ok_iff]at h;unfold Vh;omega
def okP(p:Qx)(a b:Edge):Bool:=p.ok&&(a.ok&&b.ok)
instance : Enc Gap where
  enc x := .agg [.int false .i64 x.off.lo,.int false .i64 x.off.hi,.int false .i64 x.wide.lo,.int false .i64 x.wide.hi,.int false .i64 x.deep.lo,.int false .i64 x.deep.hi]
  dec | .agg [.int _ .i64 a0,.int _ .i64 a1,.int _ .i64 a2,.int _ .i64 a3,.int _ .i64 a4,.int _ .i64 a5] => some ⟨⟨a0,a1⟩,⟨a2,a3⟩,⟨a4,a5⟩⟩ | _ => none
  ok v x h := by
    split at h <;> (try (cases h; done))
    simp only[qsI]at h; subst h; exact⟨λ_=>rfl,rfl⟩
theorem QPa{p:Qx}{a b:Edge}(h1:p.ok=true)(h2:a.ok=true)(h3:b.ok=true)(ha:a.kind=1)(hb:b.kind=2):Q3.B ⟨p,a,b⟩:=⟨QTs h1,QJc h2 (.inl ha),QJc h3 (.inr hb)⟩
def Edge.zero:Edge:=⟨0,⟨0,0⟩,⟨0,0⟩,⟨0,0⟩⟩
def QMR(s:Edge)(w:Sp)(n:Int):Prop:=Vh s/\(0<=w.lo/\w.lo<=100/\0<=w.hi/\w.hi<=100)/\0<=n/\n<=20000
instance (s : Edge) (w : Sp) (n : Int) : Decidable (QMR s w n) := by unfold QMR; infer_instance
def QPV:Qx×Edge×Edge×Unit->Bool×AV:=λ|(p,(a,(b,_)))=>(okP p a b,.int false .i64 (Yt p a b))
def QJq:FC:=Kk (Kn QPV)
theorem QUv(p:Qx)(a:Edge)(b:Edge):KX (mkE prog QCo) (hnd (mkE prog QCo) 4) false f88 (Q8.enc ((p,a,b,()):Qx×Edge×Edge×Unit)) [] 0=QC.br (a.kind==(2:Int)) (QC.br (b.kind==(1:Int)) (QC.br (a.kind==(2:Int)) (QC.need (decide (Q3.mk p b a).B) (QC.leaf (vi (YS p b a)) ([]))) (QC.leaf (vj (0:Int)) ([]))) (QC.leaf (vj (0:Int)) ([]))) (QC.br (a.kind==(1:Int)) (QC.br (b.kind==(2:Int)) (QC.need (decide (Q3.mk p a b).B) (QC.leaf (vi (YS p a b)) ([]))) (QC.leaf (vj (0:Int)) ([]))) (QC.leaf (vj (0:Int)) ([]))):=by kernel_rfl
theorem QVI:QR prog 88 QJq:=by
 refine K0 QM8 4 func88 (by kernel_rfl) (by kernel_rfl) ?_
 rintro⟨p,a,b,⟨⟩⟩ hp;rw[QUv p a b];simp only[QPV,QC.den,AV.same,AV.sameL,and_true,true_and]at hp ⊢;unfold okP at hp;simp only[qbA]at hp;obtain⟨h1,h2,h3⟩:=hp;unfold Yt;simp only[beq_iff_eq,beq_eq_false_iff_ne];refine⟨λha=>⟨λhb=>?_,λhb=>by rw[if_pos ha,if_neg hb]⟩,λha=>⟨λha1=>?_,λha1=>by rw[if_neg ha,if_neg (λh=>ha1 h.1)]⟩⟩
 .refine⟨λ_=>⟨qde (QPa h1 h3 h2 hb ha),by rw[if_pos ha,if_pos hb]⟩,λh=>absurd ha h⟩
 .refine⟨λhb=>⟨qde (QPa h1 h2 h3 ha1 hb),by rw[if_neg ha,if_pos ⟨ha1,hb⟩]⟩,λhb=>by rw[if_neg ha,if_neg (λh=>hb h.2)]⟩
def QBR:Tab:=Qc QCo 88 QJq
theorem QRE:Qe QBR:=QM8.add QVI
def QLt:Qx×Edge×Edge×Unit->Bool×AV:=λ|(p,(a,(b,_)))=>(true,.tup [.int false .i64 (JJ p a b).1,.int false .i64 (JJ p a b).2])
def QSF:FC:=Kk (Kn QLt)
theorem QdX(p:Qx)(a:Edge)(b:Edge):KX (mkE prog QBR) (hnd (mkE prog QBR) 14) false f39 (Q8.enc ((p,a,b,()):Qx×Edge×Edge×Unit)) [] 0=QC.need (true) (QC.br (!p.ok) (QC.leaf (AV.tup [vj (0:Int),vj (1:Int)]) ([])) (QC.need (true) (QC.br (!a.ok) (QC.leaf (AV.tup [vj (0:Int),vj (1:Int)]) ([])) (QC.need (true) (QC.br (!b.ok) (QC.leaf (AV.tup [vj (0:Int), vj (1:Int)]) ([])) (QC.need (okP p a b) (QC.leaf (AV.tup [vi (Yt p a b),vj (0:Int)]) ([])))))))):=by kernel_rfl
theorem QVl:QR prog 39 QSF:=by
 refine K0 QRE 14 func39 (by kernel_rfl) (by kernel_rfl) ?_
 rintro⟨p,a,b,⟨⟩⟩ hp;rw[QdX p a b];simp only[QLt,QC.den,AV.same,AV.sameL,and_true,true_and]at hp ⊢;unfold JJ okP;cases p.ok<;>cases a.ok<;>cases b.ok<;>simp
def QCn:Tab:=Qc QBR 39 QSF
theorem QNi:Qe QCn:=QRE.add QVl
