/- - -/
import Derived.Test.YtekbmehgcofnkaaGreatProg
import Derived.Test.YtekbmehgcofnkaaGreatJm
import Derived.Test.YtekbmehgcofnkaaGreatJn
set_option linter.all false
open Go.Proofs.Tryz
open Go.IntKind (i64)
set_option maxRecDepth 100000
namespace Go.Proofs.YtekbmehgcofnkaaGreat
open Go.SX
theorem QAM:prog.follows .mixedOrders=true:=by kernel_rfl
abbrev Tab:=FuncId->Option FC
def QDd:Tab:=λ_=>none
def QZ(C:Tab)(f:FuncId)(fc:FC):Tab:=λg=>match g==f with
 | true=>some fc
 | false=>C g
def Qc(C:Tab):Prop:=∀ f fc,C f=some fc->QQ prog f fc
theorem Qc.add{C:Tab}(h:Qc C){f:FuncId}{fc:FC}(hf:QQ prog f fc):Qc (QZ C f fc):=by
 intro g fc' e;unfold QZ at e;split at e
 .rename_i hg;simp only[qsI]at e;subst e;have:g=f:=by simpa using hg
  subst this;exact hf
 .exact h g fc' e
theorem QQt:Qc QDd:=λ_ _ h=>by cases h
instance : Enc Sp where
  enc x := .agg [.int false .i64 x.lo,.int false .i64 x.hi]
  dec | .agg [.int _ .i64 a0,.int _ .i64 a1] => some ⟨a0,a1⟩ | _ => none
  ok v x h := by
    split at h <;> (try (cases h; done))
    simp only[qsI]at h; subst h; exact⟨λ_=>rfl,rfl⟩
instance : Enc Edge where
  enc x := .agg [.int false .i64 x.kind,.int false .i64 x.at_.lo,.int false .i64 x.at_.hi,.int false .i64 x.wide.lo,.int false .i64 x.wide.hi,.int false .i64 x.deep.lo,.int false .i64 x.deep.hi]
  dec | .agg [.int _ .i64 a0,.int _ .i64 a1,.int _ .i64 a2,.int _ .i64 a3,.int _ .i64 a4,.int _ .i64 a5,.int _ .i64 a6] => some ⟨a0,⟨a1,a2⟩,⟨a3,a4⟩,⟨a5,a6⟩⟩ | _ => none
  ok v x h := by
    split at h <;> (try (cases h; done))
    simp only[qsI]at h; subst h; exact⟨λ_=>rfl,rfl⟩
instance : Enc Qf where
  enc x := .agg [.int false .i64 x.length,.int false .i64 x.aK,.int false .i64 x.oK,.int false .i64 x.dK.lo,.int false .i64 x.dK.hi]
  dec | .agg [.int _ .i64 a0,.int _ .i64 a1,.int _ .i64 a2,.int _ .i64 a3,.int _ .i64 a4] => some ⟨a0,a1,a2,⟨a3,a4⟩⟩ | _ => none
  ok v x h := by
    split at h <;> (try (cases h; done))
    simp only[qsI]at h; subst h; exact⟨λ_=>rfl,rfl⟩
structure Q7 where
 p:Qf
 t:Edge
 h:Edge
inductive D where
 | off (c:Q7)
 | wide (c:Q7)
 | deep (c:Q7)
instance : Enc Q7 where
  enc x := .agg [.int false .i64 x.p.length,.int false .i64 x.p.aK,.int false .i64 x.p.oK,.int false .i64 x.p.dK.lo,.int false .i64 x.p.dK.hi,
    .int false .i64 x.t.kind,.int false .i64 x.t.at_.lo,.int false .i64 x.t.at_.hi,.int false .i64 x.t.wide.lo,.int false .i64 x.t.wide.hi,.int false .i64 x.t.deep.lo,.int false .i64 x.t.deep.hi,
    .int false .i64 x.h.kind,.int false .i64 x.h.at_.lo,.int false .i64 x.h.at_.hi,.int false .i64 x.h.wide.lo,.int false .i64 x.h.wide.hi,.int false .i64 x.h.deep.lo,.int false .i64 x.h.deep.hi]
  dec | .agg [.int _ .i64 p0,.int _ .i64 p1,.int _ .i64 p2,.int _ .i64 p3,.int _ .i64 p4,
      .int _ .i64 a0,.int _ .i64 a1,.int _ .i64 a2,.int _ .i64 a3,.int _ .i64 a4,.int _ .i64 a5,.int _ .i64 a6,
      .int _ .i64 b0,.int _ .i64 b1,.int _ .i64 b2,.int _ .i64 b3,.int _ .i64 b4,.int _ .i64 b5,.int _ .i64 b6] =>
        some ⟨⟨p0,p1,p2,⟨p3,p4⟩⟩,⟨a0,⟨a1,a2⟩,⟨a3,a4⟩,⟨a5,a6⟩⟩,⟨b0,⟨b1,b2⟩,⟨b3,b4⟩,⟨b5,b6⟩⟩⟩
      | _ => none
  ok v x h := by
    split at h <;> (try (cases h; done))
    simp only[qsI]at h; subst h; exact⟨λ_=>rfl,rfl⟩
instance : Enc D where
  enc | .off c => .ifc 136 (Enc.enc c)
      | .wide c => .ifc 132 (Enc.enc c)
      | .deep c => .ifc 137 (Enc.enc c)
  dec | .ifc t v => match (Enc.dec v : Option Q7)with
        | some c => if t = 136 then some (.off c)else if t = 132 then some (.wide c)else if t = 137 then some (.deep c)else none
        | none => none
      | _ => none
  ok v x h := by
    split at h <;> (try (cases h; done))
    split at h <;> (try (cases h; done))
    rename_i t v c hc;have h1 := Enc.ok _ c hc;split at h
    . rename_i e; simp only[qsI]at h; subst h e
      exact⟨λr=>by simp only[AV.den]; rw[h1.1 r],h1.2⟩
    . split at h
      . rename_i e; simp only[qsI]at h; subst h e
        exact⟨λr=>by simp only[AV.den]; rw[h1.1 r],h1.2⟩
      . split at h <;> (try (cases h; done))
        rename_i e; simp only[qsI]at h; subst h e;exact⟨λr=>by simp only[AV.den]; rw[h1.1 r],h1.2⟩
theorem w64{n:Int}(h1 : -9223372036854775808<=n)(h2:n<=9223372036854775807):i64.wrap n=n:=IntWalk.i64_in n ⟨h1,h2⟩
def VH(e:Edge):Prop:=(0<=e.at_.lo/\e.at_.lo<=10000/\0<=e.at_.hi/\e.at_.hi<=10000)/\(0<=e.wide.lo/\e.wide.lo<=3000/\0<=e.wide.hi/\e.wide.hi<=3000)/\(0<=e.deep.lo/\e.deep.lo<=3000/\0<=e.deep.hi/\e.deep.hi<=3000)
def VG(p:Qf):Prop:=(1<=p.length/\p.length<=10000)/\(0<=p.aK/\p.aK<=500)/\(0<=p.oK/\p.oK<=500)/\(0<=p.dK.lo/\p.dK.lo<=100)/\0<=p.dK.hi/\p.dK.hi<=100
def Q7.B(c:Q7):Prop:=VG c.p/\VH c.t/\VH c.h
instance (e : Edge) : Decidable (VH e) := by unfold VH; infer_instance
instance (p : Qf) : Decidable (VG p) := by unfold VG; infer_instance
instance (c : Q7) : Decidable c.B := by unfold Q7.B; infer_instance
def D.by_:D->Sp
 | .off c=>Qn c.p c.t c.h
 | .wide c=>Qm c.t c.h
 | .deep c=>Ql c.t c.h
def D.lo:D->Int
 | .off c => -c.p.aK
 | _=>0
def D.hi:D->Int
 | .off c=>c.p.aK
 | .wide c=>c.p.oK
 | .deep c=>c.p.oK
def D.c:D->Q7
 | .off c=>c
 | .wide c=>c
 | .deep c=>c
abbrev mkE(P:Program)(C:Tab):Env:=⟨P,C,q9 P,false,λ_=>false,false,false,false⟩
theorem QP{C:Tab}(hC:Qc C):(mkE prog C).Sound:={ c:=hC,m:=QAp prog,mixed:=QAM }
abbrev mkF(P:Program)(C:Tab):Env:=⟨P,C,q9 P,false,λ_=>false,false,false,true⟩
theorem Kl{C:Tab}(hC:Qc C):(mkF prog C).Sound:={ c:=hC,m:=QAp prog,mixed:=QAM }
abbrev mkS(P:Program)(C:Tab):Env:=⟨P,C,q9 P,true,λ_=>false,false,false,false⟩
theorem vp{C:Tab}(hC:Qc C):(mkS prog C).Sound:={ c:=hC,m:=QAp prog,mixed:=QAM }
def binds(fs:List FuncId):Op->Bool
 | .call ⟨.value (.func f),_,_⟩=>fs.contains f
 | .binOp .mul _ _ _ _=>true
 | _=>false
def Qk(fn:Func):Code:=fn.body.getD .skip
theorem Ky{C:Tab}(hC:Qc C)(d:Nat){f:FuncId}{fn:Func}(hf:prog.funcs[f]? = some fn)(hb:fn.body=some (Qk fn))(hgo:Jp prog f=true){α:Type}[KA α]{F:α->Bool×AV}(hF:∀ x,(F x).1=true->(KN (mkE prog C) (hnd (mkE prog C) d) false fn (KA.enc x) [] 0).den λu _=>u.same (F x).2):QQ prog f (Ka (Kd F)):=
 QGL (QP hC) hf hb hgo (λG _ hG=>Qw (QP hC) d G _ hG) hF
def QR7:Sp×Int×Int×Unit->Bool×AV:=λ|(s,(a,(b,_)))=>(true,.bool false (s.isIn a b))
def QKD:FC:=Ka (Kd QR7)
theorem QaV(s:Sp)(a:Int)(b:Int):KN (mkE prog QDd) (hnd (mkE prog QDd) 0) false f77 (KA.enc ((s,a,b,()):Sp×Int×Int×Unit)) [] 0=QC.br (decide (a<=s.lo)) (QC.br (decide (s.lo<=s.hi)) (QC.leaf (AV.bool false (decide (s.hi<=b))) ([])) (QC.leaf (AV.bool true false) ([]))) (QC.leaf (AV.bool true false) ([])):=by kernel_rfl
theorem QZz:QQ prog 77 QKD:=by
 refine Ky QQt 0 func77 (by kernel_rfl) (by kernel_rfl) ?_
 rintro⟨s,a,b,⟨⟩⟩ hp;rw[QaV s a b];simp only[QR7,QC.den,AV.same,AV.sameL,and_true,true_and]at hp ⊢
 (repeat' (first|(refine aI ?_ ?_)|(intro _)))<;>simp_all [Sp.isIn]<;>omega
def QEz:Tab:=QZ QDd 77 QKD
theorem QKV:Qc QEz:=QQt.add QZz
def QMo:Int×Int×Int×Unit->Bool×AV:=λ|(n,(a,(b,_)))=>(true,.bool false (Qu n a b))
def QLr:FC:=Ka (Kd QMo)
theorem QbS(n:Int)(a:Int)(b:Int):KN (mkE prog QEz) (hnd (mkE prog QEz) 0) false f87 (KA.enc ((n,a,b,()):Int×Int×Int×Unit)) [] 0=QC.br (decide (a<=n)) (QC.leaf (AV.bool false (decide (n<=b))) ([])) (QC.leaf (AV.bool true false) ([])):=by kernel_rfl
theorem Qem:QQ prog 87 QLr:=by
 refine Ky QKV 0 func87 (by kernel_rfl) (by kernel_rfl) ?_
 rintro⟨n,a,b,⟨⟩⟩ hp;rw[QbS n a b];simp only[QMo,QC.den,AV.same,AV.sameL,and_true,true_and]at hp ⊢
 (repeat' (first|(refine aI ?_ ?_)|(intro _)))<;>simp_all [Qu]<;>omega
def QCR:Tab:=QZ QEz 87 QLr
theorem QSw:Qc QCR:=QKV.add Qem
def QN2:Edge×Unit->Bool×AV:=λ|(a,_)=>(true,.bool false a.ok)
def QOf:FC:=Ka (Kd QN2)
theorem Qhy(a:Edge):KN (mkE prog QCR) (hnd (mkE prog QCR) 0) false f86 (KA.enc ((a,()):Edge×Unit)) [] 0=QC.br (a.kind==(0:Int)) (QC.leaf (AV.bool true true) ([])) (QC.br (a.kind==(1:Int)) (QC.need (true) (QC.br (a.at_.isIn (0:Int) (10000:Int)) (QC.need (true) (QC.br (a.wide.isIn (1:Int) (3000:Int)) (QC.need (true) (QC.leaf (AV.bool false (a.deep.isIn (1:Int) (3000:Int))) ([]))) (QC.leaf (AV.bool true false) ([])))) (QC.leaf (AV.bool true false) ([])))) (QC.br (a.kind==(2:Int)) (QC.need (true) (QC.br (a.at_.isIn (0:Int) (10000:Int)) (QC.need (true) (QC.br (a.wide.isIn (1:Int) (3000:Int)) (QC.need (true) (QC.leaf (AV.bool false (a.deep.isIn (1:Int) (3000:Int))) ([]))) (QC.leaf (AV.bool true false) ([])))) (QC.leaf (AV.bool true false) ([])))) (QC.leaf (AV.bool true false) ([])))):=by kernel_rfl
theorem QbY:QQ prog 86 QOf:=by
 refine Ky QSw 0 func86 (by kernel_rfl) (by kernel_rfl) ?_
 rintro⟨a,⟨⟩⟩ hp;rw[Qhy a];simp only[QN2,QC.den,AV.same,AV.sameL,and_true,true_and]at hp ⊢
 (repeat' (first|(refine aI ?_ ?_)|(intro _)))<;>simp_all [Edge.ok]
def QDC:Tab:=QZ QCR 86 QOf
theorem QPm:Qc QDC:=QSw.add QbY
def QOp:Qf×Unit->Bool×AV:=λ|(p,_)=>(true,.bool false p.ok)
def QNP:FC:=Ka (Kd QOp)
theorem Qh5(p:Qf):KN (mkE prog QDC) (hnd (mkE prog QDC) 0) false f75 (KA.enc ((p,()):Qf×Unit)) [] 0=QC.need (true) (QC.br (Qu p.length (1:Int) (10000:Int)) (QC.need (true) (QC.br (Qu p.aK (0:Int) (500:Int)) (QC.need (true) (QC.br (Qu p.oK (0:Int) (500:Int)) (QC.need (true) (QC.leaf (AV.bool false (p.dK.isIn (0:Int) (100:Int))) ([]))) (QC.leaf (AV.bool true false) ([])))) (QC.leaf (AV.bool true false) ([])))) (QC.leaf (AV.bool true false) ([]))):=by kernel_rfl
theorem QY3:QQ prog 75 QNP:=by
 refine Ky QPm 0 func75 (by kernel_rfl) (by kernel_rfl) ?_
 rintro⟨p,⟨⟩⟩ hp;rw[Qh5 p];simp only[QOp,QC.den,AV.same,AV.sameL,and_true,true_and]at hp ⊢
 (repeat' (first|(refine aI ?_ ?_)|(intro _)))<;>simp_all [Qf.ok]
def QEa:Tab:=QZ QDC 75 QNP
theorem QKR:Qc QEa:=QPm.add QY3
def QSS:Sp×Sp×Unit->Bool×AV:=λ|(s,(o,_))=>(decide (Sm s.lo/\Sm s.hi/\Sm o.lo/\Sm o.hi),Enc.enc (s.less o))
def QNB:FC:=Ka (Kd QSS)
theorem Qgn(s:Sp)(o:Sp):KN (mkE prog QEa) (hnd (mkE prog QEa) 0) false f123 (KA.enc ((s,o,()):Sp×Sp×Unit)) [] 0=QC.leaf (AV.agg [vi (i64.wrap (s.lo-o.hi)),vi (i64.wrap (s.hi-o.lo))]) ([]):=by kernel_rfl
theorem QWX:QQ prog 123 QNB:=by
 refine Ky QKR 0 func123 (by kernel_rfl) (by kernel_rfl) ?_
 rintro⟨s,o,⟨⟩⟩ hp;rw[Qgn s o];simp only[QSS,QC.den,AV.same,AV.sameL,and_true,true_and]at hp ⊢;have hp:=qdt hp;unfold Sm at hp;simp only[Sp.less,Enc.enc,AV.same,AV.sameL];rw[w64 (by omega) (by omega),w64 (by omega) (by omega)];simp
def QCW:Tab:=QZ QEa 123 QNB
theorem QSe:Qc QCW:=QKR.add QWX
def QSo:Sp×Sp×Unit->Bool×AV:=λ|(s,(o,_))=>(decide (Sm s.lo/\Sm s.hi/\Sm o.lo/\Sm o.hi),Enc.enc (s.plus o))
def QQx:FC:=Ka (Kd QSo)
theorem QVM(s:Sp)(o:Sp):KN (mkE prog QCW) (hnd (mkE prog QCW) 0) false f124 (KA.enc ((s,o,()):Sp×Sp×Unit)) [] 0=QC.leaf (AV.agg [vi (i64.wrap (s.lo+o.lo)),vi (i64.wrap (s.hi+o.hi))]) ([]):=by kernel_rfl
theorem QU3:QQ prog 124 QQx:=by
 refine Ky QSe 0 func124 (by kernel_rfl) (by kernel_rfl) ?_
 rintro⟨s,o,⟨⟩⟩ hp;rw[QVM s o];simp only[QSo,QC.den,AV.same,AV.sameL,and_true,true_and]at hp ⊢;have hp:=qdt hp;unfold Sm at hp;simp only[Sp.plus,Enc.enc,AV.same,AV.sameL];rw[w64 (by omega) (by omega),w64 (by omega) (by omega)];simp
def QC4:Tab:=QZ QCW 124 QQx
theorem QNz:Qc QC4:=QSe.add QU3
def QLd:Q7×Unit->Bool×AV:=λ|(c,_)=>(decide c.B,Enc.enc (Qn c.p c.t c.h))
def QR2:FC:=Ka (Kd QLd)
theorem Qg1(c:Q7):KN (mkE prog QC4) (hnd (mkE prog QC4) 0) false f208 (KA.enc ((c,()):Q7×Unit)) [] 0=QC.need (decide (Sm c.t.at_.lo/\Sm c.t.at_.hi/\Sm c.h.at_.lo/\Sm c.h.at_.hi)) (QC.need (decide (Sm (c.t.at_.plus c.h.at_).lo/\Sm (c.t.at_.plus c.h.at_).hi/\Sm (i64.wrap ((0:Int)-c.p.length))/\Sm (i64.wrap ((0:Int)-c.p.length)))) (QC.leaf (AV.agg [vi ((c.t.at_.plus c.h.at_).plus (Sp.mk (i64.wrap ((0:Int)-c.p.length)) (i64.wrap ((0:Int)-c.p.length)))).lo,vi ((c.t.at_.plus c.h.at_).plus (Sp.mk (i64.wrap ((0:Int)-c.p.length)) (i64.wrap ((0:Int)-c.p.length)))).hi]) ([]))):=by kernel_rfl
theorem Qf9:QQ prog 208 QR2:=by
 refine Ky QNz 0 func208 (by kernel_rfl) (by kernel_rfl) ?_
 rintro⟨c,⟨⟩⟩ hp;rw[Qg1 c];simp only[QLd,QC.den,AV.same,AV.sameL,and_true,true_and]at hp ⊢;have hp:=qdt hp;obtain⟨h1,h2,h3⟩:=hp;unfold VG at h1;unfold VH at h2 h3;have e:i64.wrap (0-c.p.length) = -c.p.length:=by rw[w64 (by omega) (by omega)];omega
 rw[e];refine⟨qde (by unfold Sm;omega),qde (by unfold Sm Sp.plus;simp only;omega),?_⟩
 simp[Qn,Sp.plus,Enc.enc,AV.same,AV.sameL]
def QDg:Tab:=QZ QC4 208 QR2
theorem QOC:Qc QDg:=QNz.add Qf9
def QMN:Q7×Unit->Bool×AV:=λ|(c,_)=>(decide c.B,Enc.enc (Qm c.t c.h))
def QKP:FC:=Ka (Kd QMN)
theorem QWu(c:Q7):KN (mkE prog QDg) (hnd (mkE prog QDg) 0) false f83 (KA.enc ((c,()):Q7×Unit)) [] 0=QC.need (decide (Sm c.h.wide.lo/\Sm c.h.wide.hi/\Sm c.t.wide.lo/\Sm c.t.wide.hi)) (QC.leaf (AV.agg [vi (c.h.wide.less c.t.wide).lo,vi (c.h.wide.less c.t.wide).hi]) ([])):=by kernel_rfl
theorem Qao:QQ prog 83 QKP:=by
 refine Ky QOC 0 func83 (by kernel_rfl) (by kernel_rfl) ?_
 rintro⟨c,⟨⟩⟩ hp;rw[QWu c];simp only[QMN,QC.den,AV.same,AV.sameL,and_true,true_and]at hp ⊢;have hp:=qdt hp;obtain⟨h1,h2,h3⟩:=hp;unfold VG at h1;unfold VH at h2 h3;refine⟨qde (by unfold Sm;omega),?_⟩
 simp[Qm,Sp.less,Enc.enc,AV.same,AV.sameL]
def QE6:Tab:=QZ QDg 83 QKP
theorem QPf:Qc QE6:=QOC.add Qao
def QT9:Q7×Unit->Bool×AV:=λ|(c,_)=>(decide c.B,Enc.enc (Ql c.t c.h))
def QNG:FC:=Ka (Kd QT9)
theorem QWW(c:Q7):KN (mkE prog QE6) (hnd (mkE prog QE6) 0) false f210 (KA.enc ((c,()):Q7×Unit)) [] 0=QC.need (decide (Sm c.h.deep.lo/\Sm c.h.deep.hi/\Sm c.t.deep.lo/\Sm c.t.deep.hi)) (QC.leaf (AV.agg [vi (c.h.deep.less c.t.deep).lo,vi (c.h.deep.less c.t.deep).hi]) ([])):=by kernel_rfl
theorem QUT:QQ prog 210 QNG:=by
 refine Ky QPf 0 func210 (by kernel_rfl) (by kernel_rfl) ?_
 rintro⟨c,⟨⟩⟩ hp;rw[QWW c];simp only[QT9,QC.den,AV.same,AV.sameL,and_true,true_and]at hp ⊢;have hp:=qdt hp;obtain⟨h1,h2,h3⟩:=hp;unfold VG at h1;unfold VH at h2 h3;refine⟨qde (by unfold Sm;omega),?_⟩
 simp[Ql,Sp.less,Enc.enc,AV.same,AV.sameL]
def QET:Tab:=QZ QE6 210 QNG
theorem QKl:Qc QET:=QPf.add QUT
def QRn:Q7×Unit->Bool×AV:=λ|(c,_)=>(decide c.B,.tup [.int false .i64 (-c.p.aK),.int false .i64 c.p.aK])
def QOM:FC:=Ka (Kd QRn)
theorem Qak(c:Q7):KN (mkE prog QET) (hnd (mkE prog QET) 0) false f207 (KA.enc ((c,()):Q7×Unit)) [] 0=QC.leaf (AV.tup [vi (i64.wrap ((0:Int)-c.p.aK)),vi c.p.aK]) ([]):=by kernel_rfl
theorem QZn:QQ prog 207 QOM:=by
 refine Ky QKl 0 func207 (by kernel_rfl) (by kernel_rfl) ?_
 rintro⟨c,⟨⟩⟩ hp;rw[Qak c];simp only[QRn,QC.den,AV.same,AV.sameL,and_true,true_and]at hp ⊢;have hp:=qdt hp;obtain⟨h1,h2,h3⟩:=hp;unfold VG at h1;rw[w64 (by omega) (by omega)];omega
def QC1:Tab:=QZ QET 207 QOM
theorem QSv:Qc QC1:=QKl.add QZn
def QRj:Q7×Unit->Bool×AV:=λ|(c,_)=>(decide c.B,.tup [.int false .i64 0,.int false .i64 c.p.oK])
def QOr:FC:=Ka (Kd QRj)
theorem Qhv(c:Q7):KN (mkE prog QC1) (hnd (mkE prog QC1) 0) false f206 (KA.enc ((c,()):Q7×Unit)) [] 0=QC.leaf (AV.tup [vj (0:Int),vi c.p.oK]) ([]):=by kernel_rfl
theorem Qcu:QQ prog 206 QOr:=by
 refine Ky QSv 0 func206 (by kernel_rfl) (by kernel_rfl) ?_
 rintro⟨c,⟨⟩⟩ hp;rw[Qhv c];simp only[QRj,QC.den,AV.same,AV.sameL,and_true,true_and]at hp ⊢
def QFC:Tab:=QZ QC1 206 QOr
theorem QSK:Qc QFC:=QSv.add Qcu
def QKQ:Q7×Unit->Bool×AV:=λ|(c,_)=>(decide c.B,.tup [.int false .i64 0,.int false .i64 c.p.oK])
def QPt:FC:=Ka (Kd QKQ)
theorem QWx(c:Q7):KN (mkE prog QFC) (hnd (mkE prog QFC) 0) false f209 (KA.enc ((c,()):Q7×Unit)) [] 0=QC.leaf (AV.tup [vj (0:Int),vi c.p.oK]) ([]):=by kernel_rfl
theorem QhF:QQ prog 209 QPt:=by
 refine Ky QSK 0 func209 (by kernel_rfl) (by kernel_rfl) ?_
 rintro⟨c,⟨⟩⟩ hp;rw[QWx c];simp only[QKQ,QC.den,AV.same,AV.sameL,and_true,true_and]at hp ⊢
def qI:Tab:=QZ QFC 209 QPt
theorem QQG:Qc qI:=QSK.add QhF
theorem Hh{sl sh lo hi dh:Int}(h1 : -100000<=sl/\sl<=100000)(h2 : -100000<=sh/\sh<=100000)(h3 : -500<=lo/\lo<=500)(h4 : -500<=hi/\hi<=500)(h5:0<=dh/\dh<=100):
  (decide (i64.wrap (sl*i64.wrap (1000+dh))≥i64.wrap (1000*lo))=true->decide (i64.wrap (sh*i64.wrap (1000+dh))<=i64.wrap (1000*hi))=Ki sl sh lo hi dh) /\
  (decide (i64.wrap (sl*i64.wrap (1000+dh))≥i64.wrap (1000*lo))=false->false=Ki sl sh lo hi dh):=by
 obtain⟨m1,m2⟩:=QHK (a:=sl) (m:=1000+dh) (by omega) (by omega) (by omega) (by omega)
 obtain⟨m3,m4⟩:=QHK (a:=sh) (m:=1000+dh) (by omega) (by omega) (by omega) (by omega)
 rw[w64 (n:=1000+dh) (by omega) (by omega),w64 (n:=sl*_) (by omega) (by omega),w64 (n:=sh*_) (by omega) (by omega),w64 (n:=1000*lo) (by omega) (by omega),w64 (n:=1000*hi) (by omega) (by omega)]
 exact⟨λh=>QXg (qdt h),λh=>QVs (by have:=qdf h;omega)⟩
theorem QDB{sl sh lo hi dl:Int}(h1 : -100000<=sl/\sl<=100000)(h2 : -100000<=sh/\sh<=100000)(h3 : -500<=lo/\lo<=500)(h4 : -500<=hi/\hi<=500)(h5:0<=dl/\dl<=100):
  (decide (i64.wrap (1000*lo)<=i64.wrap (min (max 0 sl) sh*i64.wrap (1000+dl)))=true->decide (i64.wrap (min (max 0 sl) sh*i64.wrap (1000+dl))<=i64.wrap (1000*hi))=Qx sl sh lo hi dl) /\
  (decide (i64.wrap (1000*lo)<=i64.wrap (min (max 0 sl) sh*i64.wrap (1000+dl)))=false->false=Qx sl sh lo hi dl):=by
 obtain⟨m1,m2⟩:=QHK (a:=min (max 0 sl) sh) (m:=1000+dl) (by omega) (by omega) (by omega) (by omega)
 rw[w64 (n:=1000+dl) (by omega) (by omega),w64 (n:=min (max 0 sl) sh*_) (by omega) (by omega),w64 (n:=1000*lo) (by omega) (by omega),w64 (n:=1000*hi) (by omega) (by omega)]
 exact⟨λh=>QYu (qdt h),λh=>QcO (by have:=qdf h;omega)⟩
theorem QQ2:i64.wrap (1000*0)=0:=by decide
theorem QGI{sl sh hi dh:Int}(h1 : -100000<=sl/\sl<=100000)(h2 : -100000<=sh/\sh<=100000)(h4 : -500<=hi/\hi<=500)(h5:0<=dh/\dh<=100):
  (decide (i64.wrap (sl*i64.wrap (1000+dh))≥0)=true->decide (i64.wrap (sh*i64.wrap (1000+dh))<=i64.wrap (1000*hi))=Ki sl sh 0 hi dh) /\
  (decide (i64.wrap (sl*i64.wrap (1000+dh))≥0)=false->false=Ki sl sh 0 hi dh):=by
 have:=Hh (lo:=0) h1 h2 (by omega) h4 h5
 rw[QQ2]at this;exact this
theorem QJd{sl sh hi dl:Int}(h1 : -100000<=sl/\sl<=100000)(h2 : -100000<=sh/\sh<=100000)(h4 : -500<=hi/\hi<=500)(h5:0<=dl/\dl<=100):
  (decide (0<=i64.wrap (min (max 0 sl) sh*i64.wrap (1000+dl)))=true->decide (i64.wrap (min (max 0 sl) sh*i64.wrap (1000+dl))<=i64.wrap (1000*hi))=Qx sl sh 0 hi dl) /\
  (decide (0<=i64.wrap (min (max 0 sl) sh*i64.wrap (1000+dl)))=false->false=Qx sl sh 0 hi dl):=by
 have:=QDB (lo:=0) h1 h2 (by omega) h4 h5
 rw[QQ2]at this;exact this
def QEg:Q7×D×Unit->Bool×AV:=λ|(x,(d,_))=>(decide (x.B/\d.c.B),.bool false (Ki d.by_.lo d.by_.hi d.lo d.hi x.p.dK.hi))
def QSg:FC:=Ka (Kd QEg)
theorem Qdq(x:Q7)(c:Q7):KN (mkE prog qI) (hnd (mkE prog qI) 0) false f85 (KA.enc ((x,(D.off c),()):Q7×D×Unit)) [] 0=QC.need (decide c.B) (QC.need (decide c.B) (QC.br (decide (i64.wrap ((Qn c.p c.t c.h).lo*i64.wrap ((1000:Int)+x.p.dK.hi))≥i64.wrap ((1000:Int) * -c.p.aK))) (QC.leaf (AV.bool false (decide (i64.wrap ((Qn c.p c.t c.h).hi*i64.wrap ((1000:Int)+x.p.dK.hi))<=i64.wrap ((1000:Int)*c.p.aK)))) ([])) (QC.leaf (AV.bool true false) ([])))):=by kernel_rfl
theorem Qd9(x:Q7)(c:Q7):KN (mkE prog qI) (hnd (mkE prog qI) 0) false f85 (KA.enc ((x,(D.wide c),()):Q7×D×Unit)) [] 0=QC.need (decide c.B) (QC.need (decide c.B) (QC.br (decide (i64.wrap ((Qm c.t c.h).lo*i64.wrap ((1000:Int)+x.p.dK.hi))≥(0:Int))) (QC.leaf (AV.bool false (decide (i64.wrap ((Qm c.t c.h).hi*i64.wrap ((1000:Int)+x.p.dK.hi))<=i64.wrap ((1000:Int)*c.p.oK)))) ([])) (QC.leaf (AV.bool true false) ([])))):=by kernel_rfl
theorem QX6(x:Q7)(c:Q7):KN (mkE prog qI) (hnd (mkE prog qI) 0) false f85 (KA.enc ((x,(D.deep c),()):Q7×D×Unit)) [] 0=QC.need (decide c.B) (QC.need (decide c.B) (QC.br (decide (i64.wrap ((Ql c.t c.h).lo*i64.wrap ((1000:Int)+x.p.dK.hi))≥(0:Int))) (QC.leaf (AV.bool false (decide (i64.wrap ((Ql c.t c.h).hi*i64.wrap ((1000:Int)+x.p.dK.hi))<=i64.wrap ((1000:Int)*c.p.oK)))) ([])) (QC.leaf (AV.bool true false) ([])))):=by kernel_rfl
theorem QXu:QQ prog 85 QSg:=by
 refine Ky QQG 0 func85 (by kernel_rfl) (by kernel_rfl) ?_
 rintro⟨x,(c|c|c),⟨⟩⟩ hp
 .rw[Qdq x c];simp only[QEg,QC.den,AV.same,AV.sameL,and_true,true_and]at hp ⊢;have hq:=qdt hp;obtain⟨⟨hx,_⟩,hc⟩:=hq;refine⟨qde hc,qde hc,?_⟩;obtain⟨h1,h2,h3⟩:=hc;unfold VG at h1 hx;unfold VH at h2 h3;simp only[D.c]at h1 h2 h3
  first
   | (refine Hh ?_ ?_ ?_ ?_ ?_<;>(try simp only[Qn,Qm,Ql])<;>omega)
   | (refine QGI ?_ ?_ ?_ ?_<;>(try simp only[Qn,Qm,Ql])<;>omega)
 .rw[Qd9 x c];simp only[QEg,QC.den,AV.same,AV.sameL,and_true,true_and]at hp ⊢;have hq:=qdt hp;obtain⟨⟨hx,_⟩,hc⟩:=hq;refine⟨qde hc,qde hc,?_⟩;obtain⟨h1,h2,h3⟩:=hc;unfold VG at h1 hx;unfold VH at h2 h3;simp only[D.c]at h1 h2 h3
  first
   | (refine Hh ?_ ?_ ?_ ?_ ?_<;>(try simp only[Qn,Qm,Ql])<;>omega)
   | (refine QGI ?_ ?_ ?_ ?_<;>(try simp only[Qn,Qm,Ql])<;>omega)
 .rw[QX6 x c];simp only[QEg,QC.den,AV.same,AV.sameL,and_true,true_and]at hp ⊢;have hq:=qdt hp;obtain⟨⟨hx,_⟩,hc⟩:=hq;refine⟨qde hc,qde hc,?_⟩;obtain⟨h1,h2,h3⟩:=hc;unfold VG at h1 hx;unfold VH at h2 h3;simp only[D.c]at h1 h2 h3
  first
   | (refine Hh ?_ ?_ ?_ ?_ ?_<;>(try simp only[Qn,Qm,Ql])<;>omega)
   | (refine QGI ?_ ?_ ?_ ?_<;>(try simp only[Qn,Qm,Ql])<;>omega)
def Ws:Tab:=QZ qI 85 QSg
theorem QR3:Qc Ws:=QQG.add QXu
def QCY:Q7×D×Unit->Bool×AV:=λ|(x,(d,_))=>(decide (x.B/\d.c.B),.bool false (Qx d.by_.lo d.by_.hi d.lo d.hi x.p.dK.lo))
def QKn:FC:=Ka (Kd QCY)
theorem QVI(x:Q7)(c:Q7):KN (mkE prog Ws) (hnd (mkE prog Ws) 0) false f148 (KA.enc ((x,(D.off c),()):Q7×D×Unit)) [] 0=QC.need (decide c.B) (QC.need (decide c.B) (QC.br (decide (i64.wrap ((1000:Int) * -c.p.aK)<=i64.wrap (min (max (0:Int) (Qn c.p c.t c.h).lo) (Qn c.p c.t c.h).hi*i64.wrap ((1000:Int)+x.p.dK.lo)))) (QC.leaf (AV.bool false (decide (i64.wrap (min (max (0:Int) (Qn c.p c.t c.h).lo) (Qn c.p c.t c.h).hi*i64.wrap ((1000:Int)+x.p.dK.lo))<=i64.wrap ((1000:Int)*c.p.aK)))) ([])) (QC.leaf (AV.bool true false) ([])))):=by kernel_rfl
theorem QVL(x:Q7)(c:Q7):KN (mkE prog Ws) (hnd (mkE prog Ws) 0) false f148 (KA.enc ((x,(D.wide c),()):Q7×D×Unit)) [] 0=QC.need (decide c.B) (QC.need (decide c.B) (QC.br (decide ((0:Int)<=i64.wrap (min (max (0:Int) (Qm c.t c.h).lo) (Qm c.t c.h).hi*i64.wrap ((1000:Int)+x.p.dK.lo)))) (QC.leaf (AV.bool false (decide (i64.wrap (min (max (0:Int) (Qm c.t c.h).lo) (Qm c.t c.h).hi*i64.wrap ((1000:Int)+x.p.dK.lo))<=i64.wrap ((1000:Int)*c.p.oK)))) ([])) (QC.leaf (AV.bool true false) ([])))):=by kernel_rfl
theorem Qep(x:Q7)(c:Q7):KN (mkE prog Ws) (hnd (mkE prog Ws) 0) false f148 (KA.enc ((x,(D.deep c),()):Q7×D×Unit)) [] 0=QC.need (decide c.B) (QC.need (decide c.B) (QC.br (decide ((0:Int)<=i64.wrap (min (max (0:Int) (Ql c.t c.h).lo) (Ql c.t c.h).hi*i64.wrap ((1000:Int)+x.p.dK.lo)))) (QC.leaf (AV.bool false (decide (i64.wrap (min (max (0:Int) (Ql c.t c.h).lo) (Ql c.t c.h).hi*i64.wrap ((1000:Int)+x.p.dK.lo))<=i64.wrap ((1000:Int)*c.p.oK)))) ([])) (QC.leaf (AV.bool true false) ([])))):=by kernel_rfl
theorem Qh4:QQ prog 148 QKn:=by
 refine Ky QR3 0 func148 (by kernel_rfl) (by kernel_rfl) ?_
 rintro⟨x,(c|c|c),⟨⟩⟩ hp
 .rw[QVI x c];simp only[QCY,QC.den,AV.same,AV.sameL,and_true,true_and]at hp ⊢;have hq:=qdt hp;obtain⟨⟨hx,_⟩,hc⟩:=hq;refine⟨qde hc,qde hc,?_⟩;obtain⟨h1,h2,h3⟩:=hc;unfold VG at h1 hx;unfold VH at h2 h3;simp only[D.c]at h1 h2 h3
  first
   | (refine QDB ?_ ?_ ?_ ?_ ?_<;>(try simp only[Qn,Qm,Ql])<;>omega)
   | (refine QJd ?_ ?_ ?_ ?_<;>(try simp only[Qn,Qm,Ql])<;>omega)
 .rw[QVL x c];simp only[QCY,QC.den,AV.same,AV.sameL,and_true,true_and]at hp ⊢;have hq:=qdt hp;obtain⟨⟨hx,_⟩,hc⟩:=hq;refine⟨qde hc,qde hc,?_⟩;obtain⟨h1,h2,h3⟩:=hc;unfold VG at h1 hx;unfold VH at h2 h3;simp only[D.c]at h1 h2 h3
  first
   | (refine QDB ?_ ?_ ?_ ?_ ?_<;>(try simp only[Qn,Qm,Ql])<;>omega)
   | (refine QJd ?_ ?_ ?_ ?_<;>(try simp only[Qn,Qm,Ql])<;>omega)
 .rw[Qep x c];simp only[QCY,QC.den,AV.same,AV.sameL,and_true,true_and]at hp ⊢;have hq:=qdt hp;obtain⟨⟨hx,_⟩,hc⟩:=hq;refine⟨qde hc,qde hc,?_⟩;obtain⟨h1,h2,h3⟩:=hc;unfold VG at h1 hx;unfold VH at h2 h3;simp only[D.c]at h1 h2 h3
  first
   | (refine QDB ?_ ?_ ?_ ?_ ?_<;>(try simp only[Qn,Qm,Ql])<;>omega)
   | (refine QJd ?_ ?_ ?_ ?_<;>(try simp only[Qn,Qm,Ql])<;>omega)
def QC7:Tab:=QZ Ws 148 QKn
theorem QLe:Qc QC7:=QR3.add Qh4
def QLZ:Q7×Unit->Bool×AV:=λ|(x,_)=>(decide x.B,vi (XF x.p x.t x.h))
def QTD:FC:=Ka (Kd QLZ)
theorem QbE(x:Q7):KN (mkE prog QC7) (hnd (mkE prog QC7) 14) false f129 (KA.enc ((x,()):Q7×Unit)) [] 0 = .need (decide (x.B/\(D.off x).c.B)) (.br (!Ki (D.off x).by_.lo (D.off x).by_.hi (D.off x).lo (D.off x).hi x.p.dK.hi) (.need (decide (x.B/\(D.off x).c.B)) (.br (!Qx (D.off x).by_.lo (D.off x).by_.hi (D.off x).lo (D.off x).hi x.p.dK.lo) (.leaf (vj 0) ([])) (.need (decide (x.B/\(D.wide x).c.B)) (.br (!Qx (D.wide x).by_.lo (D.wide x).by_.hi (D.wide x).lo (D.wide x).hi x.p.dK.lo) (.leaf (vj 0) ([])) (.need (decide (x.B/\(D.deep x).c.B)) (.br (!Qx (D.deep x).by_.lo (D.deep x).by_.hi (D.deep x).lo (D.deep x).hi x.p.dK.lo) (.leaf (vj 0) ([])) (.leaf (vj 1) ([])))))))) (.need (decide (x.B/\(D.wide x).c.B)) (.br (!Ki (D.wide x).by_.lo (D.wide x).by_.hi (D.wide x).lo (D.wide x).hi x.p.dK.hi) (.need (decide (x.B/\(D.off x).c.B)) (.br (!Qx (D.off x).by_.lo (D.off x).by_.hi (D.off x).lo (D.off x).hi x.p.dK.lo) (.leaf (vj 0) ([])) (.need (decide (x.B/\(D.wide x).c.B)) (.br (!Qx (D.wide x).by_.lo (D.wide x).by_.hi (D.wide x).lo (D.wide x).hi x.p.dK.lo) (.leaf (vj 0) ([])) (.need (decide (x.B/\(D.deep x).c.B)) (.br (!Qx (D.deep x).by_.lo (D.deep x).by_.hi (D.deep x).lo (D.deep x).hi x.p.dK.lo) (.leaf (vj 0) ([])) (.leaf (vj 1) ([])))))))) (.need (decide (x.B/\(D.deep x).c.B)) (.br (!Ki (D.deep x).by_.lo (D.deep x).by_.hi (D.deep x).lo (D.deep x).hi x.p.dK.hi) (.need (decide (x.B/\(D.off x).c.B)) (.br (!Qx (D.off x).by_.lo (D.off x).by_.hi (D.off x).lo (D.off x).hi x.p.dK.lo) (.leaf (vj 0) ([])) (.need (decide (x.B/\(D.wide x).c.B)) (.br (!Qx (D.wide x).by_.lo (D.wide x).by_.hi (D.wide x).lo (D.wide x).hi x.p.dK.lo) (.leaf (vj 0) ([])) (.need (decide (x.B/\(D.deep x).c.B)) (.br (!Qx (D.deep x).by_.lo (D.deep x).by_.hi (D.deep x).lo (D.deep x).hi x.p.dK.lo) (.leaf (vj 0) ([])) (.leaf (vj 1) ([])))))))) (.leaf (vj 2) ([]))))))):=by kernel_rfl
theorem QXG:QQ prog 129 QTD:=by
 refine Ky QLe 14 func129 (by kernel_rfl) (by kernel_rfl) ?_
 rintro⟨x,⟨⟩⟩ hp;rw[QbE x];simp only[QLZ,QC.den,AV.same,AV.sameL,and_true,true_and]at hp ⊢;have hB:=qdt hp;have d1:decide (x.B/\(D.off x).c.B)=true:=qde ⟨hB,hB⟩;have d2:decide (x.B/\(D.wide x).c.B)=true:=qde ⟨hB,hB⟩;have d3:decide (x.B/\(D.deep x).c.B)=true:=qde ⟨hB,hB⟩;have a0:Ki (D.off x).by_.lo (D.off x).by_.hi (D.off x).lo (D.off x).hi x.p.dK.hi=alw x.p x.t x.h 0:=rfl;have a1:Ki (D.wide x).by_.lo (D.wide x).by_.hi (D.wide x).lo (D.wide x).hi x.p.dK.hi=alw x.p x.t x.h 1:=rfl
 have a2:Ki (D.deep x).by_.lo (D.deep x).by_.hi (D.deep x).lo (D.deep x).hi x.p.dK.hi=alw x.p x.t x.h 2:=rfl;have b0:Qx (D.off x).by_.lo (D.off x).by_.hi (D.off x).lo (D.off x).hi x.p.dK.lo=may x.p x.t x.h 0:=rfl;have b1:Qx (D.wide x).by_.lo (D.wide x).by_.hi (D.wide x).lo (D.wide x).hi x.p.dK.lo=may x.p x.t x.h 1:=rfl;have b2:Qx (D.deep x).by_.lo (D.deep x).by_.hi (D.deep x).lo (D.deep x).hi x.p.dK.lo=may x.p x.t x.h 2:=rfl;simp only[d1,d2,d3,a0,a1,a2,b0,b1,b2,QAz,true_and]
 cases alw x.p x.t x.h 0<;>cases alw x.p x.t x.h 1<;>cases alw x.p x.t x.h 2<;>cases may x.p x.t x.h 0<;>cases may x.p x.t x.h 1<;>cases may x.p x.t x.h 2<;>simp
def QEI:Tab:=QZ QC7 129 QTD
theorem QQO:Qc QEI:=QLe.add QXG
theorem QaS{p:Qf}(h:p.ok=true):VG p:=by rw[Qf.ok_iff]at h;unfold VG;omega
theorem QMX{e:Edge}(h:e.ok=true)(hk:e.kind=1∨e.kind=2):VH e:=by rw[Edge.ok_iff]at h;unfold VH;omega
def okP(p:Qf)(a b:Edge):Bool:=p.ok&&(a.ok&&b.ok)
instance : Enc Gap where
  enc x := .agg [.int false .i64 x.off.lo,.int false .i64 x.off.hi,.int false .i64 x.wide.lo,.int false .i64 x.wide.hi,.int false .i64 x.deep.lo,.int false .i64 x.deep.hi]
  dec | .agg [.int _ .i64 a0,.int _ .i64 a1,.int _ .i64 a2,.int _ .i64 a3,.int _ .i64 a4,.int _ .i64 a5] => some ⟨⟨a0,a1⟩,⟨a2,a3⟩,⟨a4,a5⟩⟩ | _ => none
  ok v x h := by
    split at h <;> (try (cases h; done))
    simp only[qsI]at h; subst h; exact⟨λ_=>rfl,rfl⟩
theorem QJA{p:Qf}{a b:Edge}(h1:p.ok=true)(h2:a.ok=true)(h3:b.ok=true)(ha:a.kind=1)(hb:b.kind=2):Q7.B ⟨p,a,b⟩:=⟨QaS h1,QMX h2 (.inl ha),QMX h3 (.inr hb)⟩
def Edge.zero:Edge:=⟨0,⟨0,0⟩,⟨0,0⟩,⟨0,0⟩⟩
def QLy(s:Edge)(w:Sp)(n:Int):Prop:=VH s/\(0<=w.lo/\w.lo<=100/\0<=w.hi/\w.hi<=100)/\0<=n/\n<=20000
instance (s : Edge) (w : Sp) (n : Int) : Decidable (QLy s w n) := by unfold QLy; infer_instance
def QQH:Qf×Edge×Edge×Unit->Bool×AV:=λ|(p,(a,(b,_)))=>(okP p a b,.int false .i64 (Va p a b))
def QOQ:FC:=Ka (Kd QQH)
theorem QVo(p:Qf)(a:Edge)(b:Edge):KN (mkE prog QEI) (hnd (mkE prog QEI) 4) false f88 (KA.enc ((p,a,b,()):Qf×Edge×Edge×Unit)) [] 0=QC.br (a.kind==(2:Int)) (QC.br (b.kind==(1:Int)) (QC.br (a.kind==(2:Int)) (QC.need (decide (Q7.mk p b a).B) (QC.leaf (vi (XF p b a)) ([]))) (QC.leaf (vj (0:Int)) ([]))) (QC.leaf (vj (0:Int)) ([]))) (QC.br (a.kind==(1:Int)) (QC.br (b.kind==(2:Int)) (QC.need (decide (Q7.mk p a b).B) (QC.leaf (vi (XF p a b)) ([]))) (QC.leaf (vj (0:Int)) ([]))) (QC.leaf (vj (0:Int)) ([]))):=by kernel_rfl
theorem QhK:QQ prog 88 QOQ:=by
 refine Ky QQO 4 func88 (by kernel_rfl) (by kernel_rfl) ?_
 rintro⟨p,a,b,⟨⟩⟩ hp;rw[QVo p a b];simp only[QQH,QC.den,AV.same,AV.sameL,and_true,true_and]at hp ⊢;unfold okP at hp;simp only[qbA]at hp;obtain⟨h1,h2,h3⟩:=hp;unfold Va;simp only[beq_iff_eq,beq_eq_false_iff_ne];refine⟨λha=>⟨λhb=>?_,λhb=>by rw[if_pos ha,if_neg hb]⟩,λha=>⟨λha1=>?_,λha1=>by rw[if_neg ha,if_neg (λh=>ha1 h.1)]⟩⟩
 .refine⟨λ_=>⟨qde (QJA h1 h3 h2 hb ha),by rw[if_pos ha,if_pos hb]⟩,λh=>absurd ha h⟩
 .refine⟨λhb=>⟨qde (QJA h1 h2 h3 ha1 hb),by rw[if_neg ha,if_pos ⟨ha1,hb⟩]⟩,λhb=>by rw[if_neg ha,if_neg (λh=>hb h.2)]⟩
def QD4:Tab:=QZ QEI 88 QOQ
theorem QR0:Qc QD4:=QQO.add QhK
def QR9:Qf×Edge×Edge×Unit->Bool×AV:=λ|(p,(a,(b,_)))=>(true,.tup [.int false .i64 (KG p a b).1,.int false .i64 (KG p a b).2])
def QK2:FC:=Ka (Kd QR9)
theorem Qe3(p:Qf)(a:Edge)(b:Edge):KN (mkE prog QD4) (hnd (mkE prog QD4) 14) false f39 (KA.enc ((p,a,b,()):Qf×Edge×Edge×Unit)) [] 0=QC.need (true) (QC.br (!p.ok) (QC.leaf (AV.tup [vj (0:Int),vj (1:Int)]) ([])) (QC.need (true) (QC.br (!a.ok) (QC.leaf (AV.tup [vj (0:Int),vj (1:Int)]) ([])) (QC.need (true) (QC.br (!b.ok) (QC.leaf (AV.tup [vj (0:Int), vj (1:Int)]) ([])) (QC.need (okP p a b) (QC.leaf (AV.tup [vi (Va p a b),vj (0:Int)]) ([])))))))):=by kernel_rfl
theorem QX3:QQ prog 39 QK2:=by
 refine Ky QR0 14 func39 (by kernel_rfl) (by kernel_rfl) ?_
 rintro⟨p,a,b,⟨⟩⟩ hp;rw[Qe3 p a b];simp only[QR9,QC.den,AV.same,AV.sameL,and_true,true_and]at hp ⊢;unfold KG okP;cases p.ok<;>cases a.ok<;>cases b.ok<;>simp
def QCH:Tab:=QZ QD4 39 QK2
theorem QK3:Qc QCH:=QR0.add QX3
