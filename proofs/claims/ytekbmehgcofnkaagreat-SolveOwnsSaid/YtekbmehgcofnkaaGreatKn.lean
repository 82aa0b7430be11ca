/- - -/
set_option linter.all false
namespace Go.Proofs.YtekbmehgcofnkaaGreat
structure Sp where
 lo:Int
 hi:Int
structure Edge where
 kind:Int
 at_:Sp
 wide:Sp
 deep:Sp
structure Q1 where
 length:Int
 aK:Int
 oK:Int
 dK:Sp
def Sp.isIn(s:Sp)(a b:Int):Bool:=decide (a<=s.lo/\s.lo<=s.hi/\s.hi<=b)
def Qy(n a b:Int):Bool:=decide (a<=n/\n<=b)
def Edge.ok(e:Edge):Bool:=(e.kind==0)||((e.kind==1)||(e.kind==2))&&(e.at_.isIn 0 10000&&e.wide.isIn 1 3000&&e.deep.isIn 1 3000)
def Q1.ok(p:Q1):Bool:=Qy p.length 1 10000&&Qy p.aK 0 500&&Qy p.oK 0 500&&p.dK.isIn 0 100
def QEH(q:Nat->Bool)(n:Nat):Bool:=(List.range n).any q
theorem Sp.isIn_iff{s:Sp}{a b:Int}:s.isIn a b=true↔a<=s.lo/\s.lo<=s.hi/\s.hi<=b:=by unfold Sp.isIn;simp
theorem Q1.ok_iff{p:Q1}:p.ok=true↔(1<=p.length/\p.length<=10000)/\(0<=p.aK/\p.aK<=500)/\(0<=p.oK/\p.oK<=500)/\0<=p.dK.lo/\p.dK.lo<=p.dK.hi/\p.dK.hi<=100:=by
 unfold Q1.ok;simp only[Qy,Bool.and_eq_true,decide_eq_true_eq,Sp.isIn_iff];constructor<;>intro h<;>omega
theorem Edge.ok_iff{e:Edge}:e.ok=true↔e.kind=0∨(e.kind=1∨e.kind=2)/\(0<=e.at_.lo/\e.at_.lo<=e.at_.hi/\e.at_.hi<=10000)/\(1<=e.wide.lo/\e.wide.lo<=e.wide.hi/\e.wide.hi<=3000)/\(1<=e.deep.lo/\e.deep.lo<=e.deep.hi/\e.deep.hi<=3000):=by
 unfold Edge.ok;simp only[Bool.and_eq_true,Bool.or_eq_true,beq_iff_eq,Sp.isIn_iff];constructor<;>intro h<;>omega
def Sm(x:Int):Prop := -1000000000<=x/\x<=1000000000
instance (x : Int) : Decidable (Sm x) := by unfold Sm; infer_instance
def Sp.less(a b:Sp):Sp:=⟨a.lo-b.hi,a.hi-b.lo⟩
def Sp.plus(a b:Sp):Sp:=⟨a.lo+b.lo,a.hi+b.hi⟩
def down(n:Int):Int:=n / 1000
def up(n:Int):Int := -((-n) / 1000)
def JC(p:Q1)(t h:Edge):Sp:=⟨t.at_.lo+h.at_.lo + -p.length,t.at_.hi+h.at_.hi + -p.length⟩
def JF(t h:Edge):Sp:=⟨h.wide.lo-t.wide.hi,h.wide.hi-t.wide.lo⟩
def JB(t h:Edge):Sp:=⟨h.deep.lo-t.deep.hi,h.deep.hi-t.deep.lo⟩
def VB(sl sh lo hi dh:Int):Bool:=decide (1000*lo<=sl*(1000+dh))&&decide (sh*(1000+dh)<=1000*hi)
def JI(sl sh lo hi dl:Int):Bool:=decide (1000*lo<=min (max 0 sl) sh*(1000+dl))&&decide (min (max 0 sl) sh*(1000+dl)<=1000*hi)
variable {sl sh lo hi:Int}
theorem Qbw{dh:Int}(h:1000*lo<=sl*(1000+dh)):decide (sh*(1000+dh)<=1000*hi)=VB sl sh lo hi dh:=by
 unfold VB;rw[decide_eq_true h];rfl
theorem QZv{dh:Int}(h:sl*(1000+dh)<1000*lo):false=VB sl sh lo hi dh:=by
 unfold VB;rw[decide_eq_false (by omega)];rfl
theorem Qez{dl:Int}(h:1000*lo<=min (max 0 sl) sh*(1000+dl)):decide (min (max 0 sl) sh*(1000+dl)<=1000*hi)=JI sl sh lo hi dl:=by
 unfold JI;rw[decide_eq_true h];rfl
theorem QSr{dl:Int}(h:min (max 0 sl) sh*(1000+dl)<1000*lo):false=JI sl sh lo hi dl:=by
 unfold JI;rw[decide_eq_false (by omega)];rfl
theorem QGI{a m:Int}(h1 : -100000<=a)(h2:a<=100000)(h3:1000<=m)(h4:m<=1100): -110000000<=a*m/\a*m<=110000000:=by
 have e1 : -100000*m<=a*m:=Int.mul_le_mul_of_nonneg_right h1 (by omega)
 have e2:a*m<=100000*m:=Int.mul_le_mul_of_nonneg_right h2 (by omega)
 omega
def alw(p:Q1)(t h:Edge)(i:Nat):Bool:=
 match i with
 | 0=>VB (JC p t h).lo (JC p t h).hi (-p.aK) p.aK p.dK.hi
 | 1=>VB (JF t h).lo (JF t h).hi 0 p.oK p.dK.hi
 | _=>VB (JB t h).lo (JB t h).hi 0 p.oK p.dK.hi
def may(p:Q1)(t h:Edge)(i:Nat):Bool:=
 match i with
 | 0=>JI (JC p t h).lo (JC p t h).hi (-p.aK) p.aK p.dK.lo
 | 1=>JI (JF t h).lo (JF t h).hi 0 p.oK p.dK.lo
 | _=>JI (JB t h).lo (JB t h).hi 0 p.oK p.dK.lo
def vC(p:Q1)(t h:Edge):Int:=if QEH (λi=>!(alw p t h i)) 3 then (if QEH (λi=>!(may p t h i)) 3 then 0 else 1)else 2
theorem QQZ(q:Nat->Bool):QEH (λi=>!(q i)) 3 = !(q 0&&(q 1&&q 2)):=by
 unfold QEH;simp[List.range_succ]
theorem Qd0(p:Q1)(t h:Edge):vC p t h=if (alw p t h 0&&(alw p t h 1&&alw p t h 2))=true then 2 else if (may p t h 0&&(may p t h 1&&may p t h 2))=true then 1 else 0:=by
 unfold vC;rw[QQZ,QQZ];cases (alw p t h 0&&(alw p t h 1&&alw p t h 2))<;>cases (may p t h 0&&(may p t h 1&&may p t h 2))<;>rfl
def zn(p:Q1)(a b:Edge):Int:=if a.kind=2 then (if b.kind=1 then vC p b a else 0)else if a.kind=1/\b.kind=2 then vC p a b else 0
def Jo(p:Q1)(a b:Edge):Int×Int:=if p.ok=true/\a.ok=true/\b.ok=true then (zn p a b,0)else (0,1)
structure Gap where
 off:Sp
 wide:Sp
 deep:Sp
def Gap.zero:Gap:=⟨⟨0,0⟩,⟨0,0⟩,⟨0,0⟩⟩
