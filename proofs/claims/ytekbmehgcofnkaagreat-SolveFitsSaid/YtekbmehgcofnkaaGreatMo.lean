/- - -/
namespace Go.Proofs.YtekbmehgcofnkaaGreat
structure Sp where
 lo:Int
 hi:Int
structure Edge where
 kind:Int
 at_:Sp
 wide:Sp
 deep:Sp
structure Qx where
 length:Int
 aK:Int
 oK:Int
 dK:Sp
def Sp.isIn(s:Sp)(a b:Int):Bool:=decide (a<=s.lo/\s.lo<=s.hi/\s.hi<=b)
def Qv(n a b:Int):Bool:=decide (a<=n/\n<=b)
def Edge.ok(e:Edge):Bool:=(e.kind==0)||((e.kind==1)||(e.kind==2))&&(e.at_.isIn 0 10000&&e.wide.isIn 1 3000&&e.deep.isIn 1 3000)
def Qx.ok(p:Qx):Bool:=Qv p.length 1 10000&&Qv p.aK 0 500&&Qv p.oK 0 500&&p.dK.isIn 0 100
def QD5(q:Nat->Bool)(n:Nat):Bool:=(List.range n).any q
theorem Sp.isIn_iff{s:Sp}{a b:Int}:s.isIn a b=true↔a<=s.lo/\s.lo<=s.hi/\s.hi<=b:=by unfold Sp.isIn;simp
theorem Qx.ok_iff{p:Qx}:p.ok=true↔(1<=p.length/\p.length<=10000)/\(0<=p.aK/\p.aK<=500)/\(0<=p.oK/\p.oK<=500)/\0<=p.dK.lo/\p.dK.lo<=p.dK.hi/\p.dK.hi<=100:=by
 unfold Qx.ok;simp only[Qv,Bool.and_eq_true,decide_eq_true_eq,Sp.isIn_iff];constructor<;>intro h<;>omega
theorem Edge.ok_iff{e:Edge}:e.ok=true↔e.kind=0∨(e.kind=1∨e.kind=2)/\(0<=e.at_.lo/\e.at_.lo<=e.at_.hi/\e.at_.hi<=10000)/\(1<=e.wide.lo/\e.wide.lo<=e.wide.hi/\e.wide.hi<=3000)/\(1<=e.deep.lo/\e.deep.lo<=e.deep.hi/\e.deep.hi<=3000):=by
 unfold Edge.ok;simp only[Bool.and_eq_true,Bool.or_eq_true,beq_iff_eq,Sp.isIn_iff];constructor<;>intro h<;>omega
def Sm(x:Int):Prop := -1000000000<=x/\x<=1000000000
instance (x : Int) : Decidable (Sm x) := by unfold Sm; infer_instance
def Sp.less(a b:Sp):Sp:=⟨a.lo-b.hi,a.hi-b.lo⟩
def Sp.plus(a b:Sp):Sp:=⟨a.lo+b.lo,a.hi+b.hi⟩
def down(n:Int):Int:=n / 1000
def up(n:Int):Int := -((-n) / 1000)
def JC(p:Qx)(t h:Edge):Sp:=⟨t.at_.lo+h.at_.lo + -p.length,t.at_.hi+h.at_.hi + -p.length⟩
def K7(t h:Edge):Sp:=⟨h.wide.lo-t.wide.hi,h.wide.hi-t.wide.lo⟩
def K9(t h:Edge):Sp:=⟨h.deep.lo-t.deep.hi,h.deep.hi-t.deep.lo⟩
def J2(sl sh lo hi dh:Int):Bool:=decide (1000*lo<=sl*(1000+dh))&&decide (sh*(1000+dh)<=1000*hi)
def JF(sl sh lo hi dl:Int):Bool:=decide (1000*lo<=min (max 0 sl) sh*(1000+dl))&&decide (min (max 0 sl) sh*(1000+dl)<=1000*hi)
variable {sl sh lo hi:Int}
theorem QZ5{dh:Int}(h:1000*lo<=sl*(1000+dh)):decide (sh*(1000+dh)<=1000*hi)=J2 sl sh lo hi dh:=by
 unfold J2;rw[decide_eq_true h];rfl
theorem QaG{dh:Int}(h:sl*(1000+dh)<1000*lo):false=J2 sl sh lo hi dh:=by
 unfold J2;rw[decide_eq_false (by omega)];rfl
theorem Qb5{dl:Int}(h:1000*lo<=min (max 0 sl) sh*(1000+dl)):decide (min (max 0 sl) sh*(1000+dl)<=1000*hi)=JF sl sh lo hi dl:=by
 unfold JF;rw[decide_eq_true h];rfl
theorem QYm{dl:Int}(h:min (max 0 sl) sh*(1000+dl)<1000*lo):false=JF sl sh lo hi dl:=by
 unfold JF;rw[decide_eq_false (by omega)];rfl
theorem QIU{a m:Int}(h1 : -100000<=a)(h2:a<=100000)(h3:1000<=m)(h4:m<=1100): -110000000<=a*m/\a*m<=110000000:=by
 have e1 : -100000*m<=a*m:=Int.mul_le_mul_of_nonneg_right h1 (by omega)
 have e2:a*m<=100000*m:=Int.mul_le_mul_of_nonneg_right h2 (by omega)
 omega
def alw(p:Qx)(t h:Edge)(i:Nat):Bool:=
 match i with
 | 0=>J2 (JC p t h).lo (JC p t h).hi (-p.aK) p.aK p.dK.hi
 | 1=>J2 (K7 t h).lo (K7 t h).hi 0 p.oK p.dK.hi
 | _=>J2 (K9 t h).lo (K9 t h).hi 0 p.oK p.dK.hi
def may(p:Qx)(t h:Edge)(i:Nat):Bool:=
 match i with
 | 0=>JF (JC p t h).lo (JC p t h).hi (-p.aK) p.aK p.dK.lo
 | 1=>JF (K7 t h).lo (K7 t h).hi 0 p.oK p.dK.lo
 | _=>JF (K9 t h).lo (K9 t h).hi 0 p.oK p.dK.lo
def YS(p:Qx)(t h:Edge):Int:=if QD5 (λi=>!(alw p t h i)) 3 then (if QD5 (λi=>!(may p t h i)) 3 then 0 else 1)else 2
theorem QNL(q:Nat->Bool):QD5 (λi=>!(q i)) 3 = !(q 0&&(q 1&&q 2)):=by
 unfold QD5;simp[List.range_succ]
theorem QXV(p:Qx)(t h:Edge):YS p t h=if (alw p t h 0&&(alw p t h 1&&alw p t h 2))=true then 2 else if (may p t h 0&&(may p t h 1&&may p t h 2))=true then 1 else 0:=by
 unfold YS;rw[QNL,QNL];cases (alw p t h 0&&(alw p t h 1&&alw p t h 2))<;>cases (may p t h 0&&(may p t h 1&&may p t h 2))<;>rfl
def Yt(p:Qx)(a b:Edge):Int:=if a.kind=2 then (if b.kind=1 then YS p b a else 0)else if a.kind=1/\b.kind=2 then YS p a b else 0
def JJ(p:Qx)(a b:Edge):Int×Int:=if p.ok=true/\a.ok=true/\b.ok=true then (Yt p a b,0)else (0,1)
structure Gap where
 off:Sp
 wide:Sp
 deep:Sp
def Gap.zero:Gap:=⟨⟨0,0⟩,⟨0,0⟩,⟨0,0⟩⟩
