/- - -/
namespace Go.Proofs.YtekbmehgcofnkaaGreat
structure Sp where
 lo:Int
 hi:Int
structure Edge where
 kind:Int
 at_:Sp
 wide:Sp
 deep:Sp
structure Qx where
 length:Int
 aK:Int
 oK:Int
 dK:Sp
def Sp.isIn(s:Sp)(a b:Int):Bool:=decide (a<=s.lo/\s.lo<=s.hi/\s.hi<=b)
def Q1(n a b:Int):Bool:=decide (a<=n/\n<=b)
def Edge.ok(e:Edge):Bool:=(e.kind==0)||((e.kind==1)||(e.kind==2))&&(e.at_.isIn 0 10000&&e.wide.isIn 1 3000&&e.deep.isIn 1 3000)
def Qx.ok(p:Qx):Bool:=Q1 p.length 1 10000&&Q1 p.aK 0 500&&Q1 p.oK 0 500&&p.dK.isIn 0 100
def QFX(q:Nat->Bool)(n:Nat):Bool:=(List.range n).any q
variable {a sl sh lo hi dl:Int}
theorem Sp.isIn_iff{s:Sp}{b:Int}:s.isIn a b=true↔a<=s.lo/\s.lo<=s.hi/\s.hi<=b:=by unfold Sp.isIn;simp
theorem Qx.ok_iff{p:Qx}:p.ok=true↔(1<=p.length/\p.length<=10000)/\(0<=p.aK/\p.aK<=500)/\(0<=p.oK/\p.oK<=500)/\0<=p.dK.lo/\p.dK.lo<=p.dK.hi/\p.dK.hi<=100:=by
 unfold Qx.ok;simp only[Q1,Bool.and_eq_true,decide_eq_true_eq,Sp.isIn_iff];constructor<;>intro h<;>omega
theorem Edge.ok_iff{e:Edge}:e.ok=true↔e.kind=0∨(e.kind=1∨e.kind=2)/\(0<=e.at_.lo/\e.at_.lo<=e.at_.hi/\e.at_.hi<=10000)/\(1<=e.wide.lo/\e.wide.lo<=e.wide.hi/\e.wide.hi<=3000)/\(1<=e.deep.lo/\e.deep.lo<=e.deep.hi/\e.deep.hi<=3000):=by
 unfold Edge.ok;simp only[Bool.and_eq_true,Bool.or_eq_true,beq_iff_eq,Sp.isIn_iff];constructor<;>intro h<;>omega
def Sm(x:Int):Prop := -1000000000<=x/\x<=1000000000
instance (x : Int) : Decidable (Sm x) := by unfold Sm; infer_instance
def Sp.less(a b:Sp):Sp:=⟨a.lo-b.hi,a.hi-b.lo⟩
def Sp.plus(a b:Sp):Sp:=⟨a.lo+b.lo,a.hi+b.hi⟩
def down(n:Int):Int:=n / 1000
def up(n:Int):Int := -((-n) / 1000)
def Qq(p:Qx)(t h:Edge):Sp:=⟨t.at_.lo+h.at_.lo + -p.length,t.at_.hi+h.at_.hi + -p.length⟩
def Qr(t h:Edge):Sp:=⟨h.wide.lo-t.wide.hi,h.wide.hi-t.wide.lo⟩
def Qp(t h:Edge):Sp:=⟨h.deep.lo-t.deep.hi,h.deep.hi-t.deep.lo⟩
def Kx(sl sh lo hi dh:Int):Bool:=decide (1000*lo<=sl*(1000+dh))&&decide (sh*(1000+dh)<=1000*hi)
def Q4(sl sh lo hi dl:Int):Bool:=decide (1000*lo<=min (max 0 sl) sh*(1000+dl))&&decide (min (max 0 sl) sh*(1000+dl)<=1000*hi)
theorem QjJ{dh:Int}(h:1000*lo<=sl*(1000+dh)):decide (sh*(1000+dh)<=1000*hi)=Kx sl sh lo hi dh:=by
 unfold Kx;rw[decide_eq_true h];rfl
theorem Qaj{dh:Int}(h:sl*(1000+dh)<1000*lo):false=Kx sl sh lo hi dh:=by
 unfold Kx;rw[decide_eq_false (by omega)];rfl
theorem Qip(h:1000*lo<=min (max 0 sl) sh*(1000+dl)):decide (min (max 0 sl) sh*(1000+dl)<=1000*hi)=Q4 sl sh lo hi dl:=by
 unfold Q4;rw[decide_eq_true h];rfl
theorem QXI(h:min (max 0 sl) sh*(1000+dl)<1000*lo):false=Q4 sl sh lo hi dl:=by
 unfold Q4;rw[decide_eq_false (by omega)];rfl
theorem H3{m:Int}(h1 : -100000<=a)(h2:a<=100000)(h3:1000<=m)(h4:m<=1100): -110000000<=a*m/\a*m<=110000000:=by
 have e1 : -100000*m<=a*m:=Int.mul_le_mul_of_nonneg_right h1 (by omega)
 have e2:a*m<=100000*m:=Int.mul_le_mul_of_nonneg_right h2 (by omega)
 omega
theorem QEA{b m:Int}(h:a<=b)(hm:0<=m):a*m<=b*m:=Int.mul_le_mul_of_nonneg_right h hm
theorem QEh{n:Int}(hl:lo<=0)(hh:0<=hi)(hd:0<=dl)(h1:sl<=n)(h2:n<=sh)(g1:1000*lo<=n*(1000+dl))(g2:n*(1000+dl)<=1000*hi):Q4 sl sh lo hi dl=true:=by
 unfold Q4;rw[Bool.and_eq_true,decide_eq_true_eq,decide_eq_true_eq];rcases(show sl<=0/\0<=sh∨0<sl∨sh<0 by omega)with ⟨a,b⟩|a|a
 .rw[show min (max 0 sl) sh=0 by omega];omega
 .rw[show min (max 0 sl) sh=sl by omega]
  have:=QEA (m:=1000+dl) h1 (by omega)
  have:=QEA (m:=1000+dl) (show 0<=sl by omega) (by omega)
  omega
 .rw[show min (max 0 sl) sh=sh by omega]
  have:=QEA (m:=1000+dl) h2 (by omega)
  have:=QEA (m:=1000+dl) (show sh<=0 by omega) (by omega)
  omega
theorem QlV(_hl:lo<=0)(_hh:0<=hi)(hd:0<=dl)(hs:sl<=sh)(h:∀ n,max sl lo<=n->n<=min sh hi->¬ (1000*lo<=n*(1000+dl)/\n*(1000+dl)<=1000*hi)):Q4 sl sh lo hi dl=false:=by
 cases hp:Q4 sl sh lo hi dl with
 | false=>rfl
 | true=>
  exfalso;unfold Q4 at hp;rw[Bool.and_eq_true,decide_eq_true_eq,decide_eq_true_eq]at hp;obtain⟨g1,g2⟩:=hp;have hb:sl<=min (max 0 sl) sh/\min (max 0 sl) sh<=sh:=by omega
  generalize min (max 0 sl) sh=b at *
  have k1:b<=hi:=by
   rcases(show b<=0∨0<b by omega)with q|q
   .omega
   .have:b*1000<=b*(1000+dl):=by rw[Int.mul_add];have:=Int.mul_nonneg (show 0<=b by omega) hd;omega
    omega
  have k2:lo<=b:=by
   rcases(show 0<=b∨b<0 by omega)with q|q
   .omega
   .have:b*(1000+dl)<=b*1000:=by
     rw[Int.mul_add];have:=Int.mul_nonneg (show 0 <= -b by omega) hd
     rw[Int.neg_mul]at this;omega
    omega
  exact h b (by omega) (by omega) ⟨g1,g2⟩
def alw(p:Qx)(t h:Edge)(i:Nat):Bool:=
 match i with
 | 0=>Kx (Qq p t h).lo (Qq p t h).hi (-p.aK) p.aK p.dK.hi
 | 1=>Kx (Qr t h).lo (Qr t h).hi 0 p.oK p.dK.hi
 | _=>Kx (Qp t h).lo (Qp t h).hi 0 p.oK p.dK.hi
def may(p:Qx)(t h:Edge)(i:Nat):Bool:=
 match i with
 | 0=>Q4 (Qq p t h).lo (Qq p t h).hi (-p.aK) p.aK p.dK.lo
 | 1=>Q4 (Qr t h).lo (Qr t h).hi 0 p.oK p.dK.lo
 | _=>Q4 (Qp t h).lo (Qp t h).hi 0 p.oK p.dK.lo
def ZT(p:Qx)(t h:Edge):Int:=if QFX (λi=>!(alw p t h i)) 3 then (if QFX (λi=>!(may p t h i)) 3 then 0 else 1)else 2
theorem QUK(q:Nat->Bool):QFX (λi=>!(q i)) 3 = !(q 0&&(q 1&&q 2)):=by
 unfold QFX;simp[List.range_succ]
theorem QEB(p:Qx)(t h:Edge):ZT p t h=if (alw p t h 0&&(alw p t h 1&&alw p t h 2))=true then 2 else if (may p t h 0&&(may p t h 1&&may p t h 2))=true then 1 else 0:=by
 unfold ZT;rw[QUK,QUK];cases (alw p t h 0&&(alw p t h 1&&alw p t h 2))<;>cases (may p t h 0&&(may p t h 1&&may p t h 2))<;>rfl
def Y7(p:Qx)(a b:Edge):Int:=if a.kind=2 then (if b.kind=1 then ZT p b a else 0)else if a.kind=1/\b.kind=2 then ZT p a b else 0
def JN(p:Qx)(a b:Edge):Int×Int:=if p.ok=true/\a.ok=true/\b.ok=true then (Y7 p a b,0)else (0,1)
structure Gap where
 off:Sp
 wide:Sp
 deep:Sp
def Gap.zero:Gap:=⟨⟨0,0⟩,⟨0,0⟩,⟨0,0⟩⟩
