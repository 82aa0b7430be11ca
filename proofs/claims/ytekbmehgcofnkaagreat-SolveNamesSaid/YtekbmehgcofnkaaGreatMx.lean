/- - -/
import Derived.Test.YtekbmehgcofnkaaGreatMw
open Go.Proofs.Tryz
open Go.IntKind (i64)
set_option maxRecDepth 100000
namespace Go.Proofs.YtekbmehgcofnkaaGreat
open Go.SX Go.SX.Told
abbrev ECt:=List MapEntry×Nat
variable (d:Puz)(p:QX)(i:Nat)(q:QX)(k:Nat)(x:Edge)(s:Nat)
def Y5:Edge:=match s with
 | 0=>p.up
 | 1=>p.right
 | 2=>p.down
 | _=>p.left
def QS8:List AV:=KX d++[.map 32,.nils]
def nbB(E:ECt):List (Nat×Blk):=[(8,.cells 0 28 (KX d)),(48,.cells 0 152 (QS8 d)),(32,.mp E.1 E.2)]++Qm.blk 0 d.ps
def QGS:List (Nat×AV):=[(1,.ptr 8 0 0),(3,.ptr 48 0 0),(19,.slz 0 0 d.ps.n (.of 0)),(20,.int false .i64 d.ps.n),(21,.int false .i64 i)]
def QFg:List (Nat×AV):=QGS d i++[(4,.int false .i64 i),(5,.ptr 56 0 0),(27,.slz 0 0 d.ps.n (.of 0)),(28,.int false .i64 d.ps.n),(29,.int false .i64 k)]
def QIR(p:QX)(s:Nat):List (Nat×AV):=QFg d i k++[(6,.int false .i64 k),(7,.ptr 64 0 0),(35,Enc.enc p),(36,.int false .i64 s)]
def QYp(p q:QX)(s t:Nat):List (Nat×AV):=QIR d i k p s++[(8,.int false .i64 s),(9,.ptr 72 0 0),(41,Enc.enc q),(42,.int false .i64 t)]
def pcB(id:Nat)(p:QX):Nat×Blk:=(id,.cells 7 70 (Enc.enc p).cells)
def edB(id:Nat)(x:Edge):Nat×Blk:=(id,.cells 0 55 (Enc.enc x).cells)
def QAg(E:ECt)(i:Nat):JSt:=⟨78,QGS d i,nbB d E,104⟩
def QGl(E:ECt):JSt:=⟨78,[(3,.ptr 48 0 0)],[(48,.cells 0 152 (QS8 d)),(32,.mp E.1 E.2)]++Qm.blk 0 d.ps,104⟩
def H6(E:ECt)(p:QX)(i k:Nat):JSt:=⟨78,QFg d i k,pcB 56 p::nbB d E,104⟩
def QJJ(E:ECt)(i:Nat):JSt:=⟨78,QGS d i,nbB d E,104⟩
def Ww(E:ECt)(p q:QX)(i k s:Nat):JSt:=⟨78,QIR d i k p s,pcB 56 p::pcB 64 q::nbB d E,104⟩
def QIj(E:ECt)(p:QX)(i k:Nat):JSt:=⟨78,QFg d i k,pcB 56 p::nbB d E,104⟩
def Vm(E:ECt)(p q:QX)(x:Edge)(i k s t:Nat):JSt:=⟨78,QYp d i k p q s t,edB 72 x::pcB 56 p::pcB 64 q::nbB d E,104⟩
def QH5(E:ECt)(p q:QX)(i k s:Nat):JSt:=⟨78,QIR d i k p s,pcB 56 p::pcB 64 q::nbB d E,104⟩
def QN1:List Nat:=[1,3,19,20,21]
def QK9:List Nat:=[1,3,19,20,21,4,5,27,28,29]
def QN3:List Nat:=[1,3,19,20,21,4,5,27,28,29,6,7,35,36]
def Qad:List Nat:=[1,3,19,20,21,4,5,27,28,29,6,7,35,36,8,9,41,42]
def QSn:Ex->List Nat
 | .normal=>QN1
 | .exit _=>[3]
 | .ret=>[]
def QQl:Ex->List Nat
 | .normal=>QK9
 | .exit _=>QN1
 | .ret=>[]
def QPG:Ex->List Nat
 | .normal=>QN3
 | .exit _=>QK9
 | .ret=>[]
def QSf:Ex->List Nat
 | .normal=>Qad
 | .exit _=>QN3
 | .ret=>[]
noncomputable abbrev Ki:List AV:=
  ((Enc.enc (p:QX)).cells)
noncomputable abbrev JD:List AV:=
  ((Enc.enc (q:QX)).cells)
noncomputable abbrev wax(k:Nat)(p:QX)(q:QX)(s:Nat):List AV:=[vi (k:Int),vi (k:Int),.ptr 64 0 0,.agg (Ki p),vi (s:Int),vi (s :
  Int),.ptr 72 0 0,.agg (JD q)]
noncomputable abbrev QFn(p:QX)(q:QX)(s:Nat):List AV:=
  (.nilp::.ptr 78 0 0::.ptr 8 0 0::.ptr 48 0 0::.slz 0 0 d.ps.n cO::vi (d.ps.n:Int)::vi (i:Int)::vi (i:Int)::.ptr 56 0 0::.slz 0 0
  d.ps.n cO::vi (d.ps.n:Int)::List.append (wax k p q s) ([vj 1]))
noncomputable abbrev K6:Nat×Blk:=
  (8,.cells 0 28 (waf d))
noncomputable abbrev K0:Nat×Blk:=
  (48,.cells 0 152 (List.append (waf d) ([.map 32,.nils])))
abbrev QPr:List CK:=
  (List.append (waa) ((List.append (waA) ((List.append (waZ) ([.int .i64]))))))
noncomputable abbrev K4(i:Nat):Nat×Blk:=
  (0,.frz QPr d.ps.n λi=>QA.enc (d.ps.get i))
noncomputable abbrev WB:Nat×Blk:=
  (72,.cells 0 55 [vi x.kind,vi x.at_.lo,vi x.at_.hi,vi x.wide.lo,vi x.wide.hi,vi x.deep.lo,.int
  false .i64 x.deep.hi])
noncomputable abbrev wav(p:QX)(q:QX):List (Nat×Blk):=[(56,.cells 7 70 (Ki p)),(64,.cells 7 70 (JD q))]
noncomputable abbrev Vi(E:ECt)(d:Puz)(i:Nat)(p:QX)(q:QX)(x:Edge):List (Nat×Blk):=
  ((K6 d)::(K0 d)::(K4 d i)::List.append (wav p q) ([(WB x),(32,.mp E.1 E.2)]))
noncomputable abbrev QIa(p:QX)(q:QX)(s:Nat):List AV:=
  (.nilp::.ptr 78 0 0::.ptr 8 0 0::.ptr 48 0 0::.slz 0 0 d.ps.n cO::vi (d.ps.n:Int)::vi (i:Int)::vi (i:Int)::.ptr 56 0 0::.slz 0 0
  d.ps.n cO::vi (d.ps.n:Int)::List.append (wax k p q s) ([vj 2]))
noncomputable abbrev QGY(p:QX)(q:QX)(s:Nat):List AV:=
  (.nilp::.ptr 78 0 0::.ptr 8 0 0::.ptr 48 0 0::.slz 0 0 d.ps.n cO::vi (d.ps.n:Int)::vi (i:Int)::vi (i:Int)::.ptr 56 0 0::.slz 0 0
  d.ps.n cO::vi (d.ps.n:Int)::List.append (wax k p q s) ([vj 3]))
noncomputable abbrev QId(p:QX)(q:QX)(s:Nat):List AV:=
  (.nilp::.ptr 78 0 0::.ptr 8 0 0::.ptr 48 0 0::.slz 0 0 d.ps.n cO::vi (d.ps.n:Int)::vi (i:Int)::vi (i:Int)::.ptr 56 0 0::.slz 0 0
  d.ps.n cO::vi (d.ps.n:Int)::List.append (wax k p q s) ([vj 4]))
noncomputable abbrev way(d:Puz)(i:Nat):List AV:=[vi (d.ps.n:Int),vi (i:Int),vi (i:Int),.ptr 56 0 0]
theorem QWE(E:ECt)(p q:QX)(x:Edge)(i k s t:Nat)(g:Nat->Value):exec (mkF prog KJ) (hnd (mkF prog KJ) 1) (QZ (QZ (QZ (QI f60 0)))) (JSt.inst (Vm d E p q x i k s t) g) (Q6 [] QSf) = .br (decide ((t:Int)<4)) (.need (decide ((0:Int)<=(t:Int)/\(t:Int)<4)) (.br (decide ((t:Int)=0)) (.need (true) (.br ((i:Int) != (k:Int)) (.br ((JA d.pK x q.up).1 != 0) (.need (wf4 i64 E.1) (.leaf (.tup (QFn d i k p q s)) (((K6 d)::(K0 d)::(K4 d i)::List.append (wav p q) ([(WB x),(32,.mp (JH [(i:Int),(s:Int),(k:Int),(t:Int)] (KQ (i:Int) (s:Int) (k:Int) (t:Int)) (Value.int i64 (JA d.pK x q.up).1) E.2 E.1) (clL [(i:Int),(s:Int),(k:Int),(t:Int)] E.2 E.1))]))))) (.leaf (.tup (QFn d i k p q s)) ((Vi E d i p q x)))) (.leaf (.tup (QFn d i k p q s)) ((Vi E d i p q x))))) (.br (decide ((t:Int)=1)) (.need (true) (.br ((i:Int) != (k:Int)) (.br ((JA d.pK x q.right).1 != 0) (.need (wf4 i64 E.1) (.leaf (.tup (QIa d i k p q s)) (((K6 d)::(K0 d)::(K4 d i)::List.append (wav p q) ([(WB x),(32,.mp (JH [(i:Int),(s:Int),(k:Int),(t:Int)] (KQ (i:Int) (s:Int) (k:Int) (t:Int)) (Value.int i64 (JA d.pK x q.right).1) E.2 E.1) (clL [(i:Int),(s:Int),(k:Int),(t:Int)] E.2 E.1))]))))) (.leaf (.tup (QIa d i k p q s)) ((Vi E d i p q x)))) (.leaf (.tup (QIa d i k p q s)) ((Vi E d i p q x))))) (.br (decide ((t:Int)=2)) (.need (true) (.br ((i:Int) != (k:Int)) (.br ((JA d.pK x q.down).1 != 0) (.need (wf4 i64 E.1) (.leaf (.tup (QGY d i k p q s)) (((K6 d)::(K0 d)::(K4 d i)::List.append (wav p q) ([(WB x),(32,.mp (JH [(i:Int),(s:Int),(k:Int),(t:Int)] (KQ (i:Int) (s:Int) (k:Int) (t:Int)) (Value.int i64 (JA d.pK x q.down).1) E.2 E.1) (clL [(i:Int),(s:Int),(k:Int),(t:Int)] E.2 E.1))]))))) (.leaf (.tup (QGY d i k p q s)) ((Vi E d i p q x)))) (.leaf (.tup (QGY d i k p q s)) ((Vi E d i p q x))))) (.need (true) (.br ((i:Int) != (k:Int)) (.br ((JA d.pK x q.left).1 != 0) (.need (wf4 i64 E.1) (.leaf (.tup (QId d i k p q s)) (((K6 d)::(K0 d)::(K4 d i)::List.append (wav p q) ([(WB x),(32,.mp (JH [(i:Int),(s:Int),(k:Int),(t:Int)] (KQ (i:Int) (s:Int) (k:Int) (t:Int)) (Value.int i64 (JA d.pK x q.left).1) E.2 E.1) (clL [(i:Int),(s:Int),(k:Int),(t:Int)] E.2 E.1))]))))) (.leaf (.tup (QId d i k p q s)) ((Vi E d i p q x)))) (.leaf (.tup (QId d i k p q s)) ((Vi E d i p q x))))))))) (.leaf (.tup (.ptr 6 0 0::.ptr 78 0 0::.ptr 8 0 0::.ptr 48 0 0::.slz 0 0 d.ps.n cO::List.append (way d i) ([.slz 0 0 d.ps.n cO,vi (d.ps.n:Int),vi (k:Int),vi (k:Int),.ptr 64 0 0,.agg (Ki p),vi (s:Int)]))) (((K6 d)::(K0 d)::(K4 d i)::List.append (wav p q) ([(32,.mp E.1 E.2)])))):=by kernel_rfl
abbrev QIZ(P:Program)(d:Puz)(E F:ECt)(p q:QX)(x:Edge)(i k s:Nat):Hnd:={ hnd (mkF P KJ) 1 with loop:=λ_=>KH 8 [] (Vm d E p q x i k s (0:Nat)) [(True,.exit 6,QH5 d F p q i k s)] }
noncomputable abbrev QCF(p:QX)(s:Nat):List AV:=
  (.nilp::.ptr 78 0 0::.ptr 8 0 0::.ptr 48 0 0::.slz 0 0 d.ps.n cO::List.append (way d i) ([.slz 0 0
  d.ps.n cO,vi (d.ps.n:Int),vi (k:Int),vi (k:Int),.ptr 64 0 0,.agg (Ki p),vi (i64.wrap ((s:Int) +
  1))]))
abbrev waG(p:QX):List Prop:=[p.up.wide.hi=p.up.wide.hi,p.up.deep.lo=p.up.deep.lo,p.up.deep.hi=p.up.deep.hi,p.right.kind=p.right.kind,p.right.at_.lo=p.right.at_.lo,p.right.at_.hi=p.right.at_.hi,p.right.wide.lo=p.right.wide.lo,p.right.wide.hi=p.right.wide.hi,p.right.deep.lo=p.right.deep.lo,p.right.deep.hi=p.right.deep.hi,p.down.kind=p.down.kind,p.down.at_.lo=p.down.at_.lo,p.down.at_.hi=p.down.at_.hi,p.down.wide.lo=p.down.wide.lo,p.down.wide.hi=p.down.wide.hi,p.down.deep.lo=p.down.deep.lo,p.down.deep.hi=p.down.deep.hi,p.left.kind=p.left.kind,p.left.at_.lo=p.left.at_.lo,p.left.at_.hi=p.left.at_.hi,p.left.wide.lo=p.left.wide.lo,p.left.wide.hi=p.left.wide.hi,p.left.deep.lo=p.left.deep.lo,p.left.deep.hi=p.left.deep.hi]
abbrev wac(p:QX):List Prop:=([p.up.kind=p.up.kind,p.up.at_.lo=p.up.at_.lo,p.up.at_.hi=p.up.at_.hi,p.up.wide.lo=p.up.wide.lo]++waG p)
abbrev wa1(q:QX):List Prop:=[q.up.wide.hi=q.up.wide.hi,q.up.deep.lo=q.up.deep.lo,q.up.deep.hi=q.up.deep.hi,q.right.kind=q.right.kind,q.right.at_.lo=q.right.at_.lo,q.right.at_.hi=q.right.at_.hi,q.right.wide.lo=q.right.wide.lo,q.right.wide.hi=q.right.wide.hi,q.right.deep.lo=q.right.deep.lo,q.right.deep.hi=q.right.deep.hi,q.down.kind=q.down.kind,q.down.at_.lo=q.down.at_.lo,q.down.at_.hi=q.down.at_.hi,q.down.wide.lo=q.down.wide.lo,q.down.wide.hi=q.down.wide.hi,q.down.deep.lo=q.down.deep.lo,q.down.deep.hi=q.down.deep.hi,q.left.kind=q.left.kind,q.left.at_.lo=q.left.at_.lo,q.left.at_.hi=q.left.at_.hi,q.left.wide.lo=q.left.wide.lo,q.left.wide.hi=q.left.wide.hi,q.left.deep.lo=q.left.deep.lo,q.left.deep.hi=q.left.deep.hi]
abbrev waB(q:QX):List Prop:=([q.up.kind=q.up.kind,q.up.at_.lo=q.up.at_.lo,q.up.at_.hi=q.up.at_.hi,q.up.wide.lo=q.up.wide.lo]++wa1 q)
abbrev wa0(d:Puz)(i:Nat)(k:Nat):List Prop:=([0=0,0=0,0=0,0=0,0=0]++wbP d++[(i:Int)=(i:Int),(i:Int)=(i:Int),0=0,0=0,0=0]++wbP d++[(k:Int)=(k:Int),(k:Int)=(k:Int),0=0,0=0])
abbrev wbs(d:Puz):List Prop:=[d.ps.n<=d.ps.n,QB 28 d.ps.n (λi=>QA.enc (d.ps.get i)) λi=>QA.enc (d.ps.get i)]
noncomputable abbrev wbJ(d:Puz):List AV:=[.ptr 8 0 0,.ptr 48 0 0,.slz 0 0 d.ps.n cO,vi (d.ps.n:Int)]
noncomputable abbrev wbQ(F:ECt)(p:QX)(q:QX):List (Nat×Blk):=[(56,.cells 7 70 (Ki p)),(64,.cells 7 70 (JD q)),(32,.mp F.1 F.2)]
theorem QZ3(E F:ECt)(p q:QX)(x:Edge)(i k s:Nat)(g:Nat->Value):exec (mkF prog KJ) (QIZ prog d E F p q x i k s) (QZ (QZ (QI f60 0))) (JSt.inst (Ww d E p q i k s) g) (Q6 [] QPG) = .br (decide ((s:Int)<4)) (.need (decide ((0:Int)<=(s:Int)/\(s:Int)<4)) (.br (decide ((s:Int)=0)) (.ak (((wa0 d i k)++wac p++([(0:Int)=(s:Int),(s:Int)=(s:Int),0=0,0=0]++waB q++[(0:Int)=0,p.up.kind=x.kind,p.up.at_.lo=x.at_.lo,p.up.at_.hi=x.at_.hi,p.up.wide.lo=x.wide.lo,p.up.wide.hi=x.wide.hi,p.up.deep.lo=x.deep.lo,p.up.deep.hi=x.deep.hi])++wac p++(waB q))++wab d++[cO=cO]++wab d++([cO=cO,E.1=E.1,E.2=E.2]++wbs d)) (.asm (True) (.all (λ(g0:Nat->Value)=>.leaf (.tup (QCF d i k p s)) (((K6 d)::(K0 d)::(K4 d i)::wbQ F p q)))))) (.br (decide ((s:Int)=1)) (.ak (((wa0 d i k)++wac p++([(1:Int)=(s:Int),(s:Int)=(s:Int),0=0,0=0]++waB q++[(0:Int)=0,p.right.kind=x.kind,p.right.at_.lo=x.at_.lo,p.right.at_.hi=x.at_.hi,p.right.wide.lo=x.wide.lo,p.right.wide.hi=x.wide.hi,p.right.deep.lo=x.deep.lo,p.right.deep.hi=x.deep.hi])++wac p++(waB q))++wab d++[cO=cO]++wab d++([cO=cO,E.1=E.1,E.2=E.2]++wbs d)) (.asm (True) (.all (λ(g1:Nat->Value)=>.leaf (.tup (QCF d i k p s)) (((K6 d)::(K0 d)::(K4 d i)::wbQ F p q)))))) (.br (decide ((s:Int)=2)) (.ak (((wa0 d i k)++wac p++([(2:Int)=(s:Int),(s:Int)=(s:Int),0=0,0=0]++waB q++[(0:Int)=0,p.down.kind=x.kind,p.down.at_.lo=x.at_.lo,p.down.at_.hi=x.at_.hi,p.down.wide.lo=x.wide.lo,p.down.wide.hi=x.wide.hi,p.down.deep.lo=x.deep.lo,p.down.deep.hi=x.deep.hi])++wac p++(waB q))++wab d++[cO=cO]++wab d++([cO=cO,E.1=E.1,E.2=E.2]++wbs d)) (.asm (True) (.all (λ(g2:Nat->Value)=>.leaf (.tup (QCF d i k p s)) (((K6 d)::(K0 d)::(K4 d i)::wbQ F p q)))))) (.ak (((wa0 d i k)++wac p++([(3:Int)=(s:Int),(s:Int)=(s:Int),0=0,0=0]++waB q++[(0:Int)=0,p.left.kind=x.kind,p.left.at_.lo=x.at_.lo,p.left.at_.hi=x.at_.hi,p.left.wide.lo=x.wide.lo,p.left.wide.hi=x.wide.hi,p.left.deep.lo=x.deep.lo,p.left.deep.hi=x.deep.hi])++wac p++(waB q))++wab d++[cO=cO]++wab d++([cO=cO,E.1=E.1,E.2=E.2]++wbs d)) (.asm (True) (.all (λ(g3:Nat->Value)=>.leaf (.tup (QCF d i k p s)) (((K6 d)::(K0 d)::(K4 d i)::wbQ F p q)))))))))) (.leaf (.tup (.ptr 4 0 0::.ptr 78 0 0::List.append (wbJ d) ([vi (i:Int),vi (i:Int),.ptr 56 0 0,.slz 0 0 d.ps.n cO,vi (d.ps.n:Int),vi (k:Int)]))) ([(K6 d),(K0 d),(K4 d i),(56,.cells 7 70 (Ki p)),(32,.mp E.1 E.2)])):=by kernel_rfl
abbrev QJO(P:Program)(d:Puz)(E F:ECt)(p q:QX)(i k:Nat):Hnd:={ hnd (mkF P KJ) 1 with loop:=λ_=>JP (k<d.ps.n) (KH 8 [] (Ww d E p q i k (0:Nat)) [(True,.exit 4,QIj d F p i k)]) }
theorem QZO(E F:ECt)(p q:QX)(i k:Nat)(g:Nat->Value):exec (mkF prog KJ) (QJO prog d E F p q i k) (QZ (QI f60 0)) (JSt.inst (H6 d E p i k) g) (Q6 [] QQl) = .br (decide ((k:Int)<(d.ps.n:Int))) (.need (decide ((0:Int)<=(k:Int)/\(k:Int)<(d.ps.n:Int))&&decide (d.ps.n<=d.ps.n)) (.need (decide (k<d.ps.n)) (.ak ((([k<d.ps.n]++wa0 d i k)++wac p++[(0:Int)=0]++wac p++[(d.ps.get k).up.kind=q.up.kind,(d.ps.get k).up.at_.lo=q.up.at_.lo,(d.ps.get k).up.at_.hi=q.up.at_.hi,(d.ps.get k).up.wide.lo=q.up.wide.lo,(d.ps.get k).up.wide.hi=q.up.wide.hi,(d.ps.get k).up.deep.lo=q.up.deep.lo,(d.ps.get k).up.deep.hi=q.up.deep.hi,(d.ps.get k).right.kind=q.right.kind,(d.ps.get k).right.at_.lo=q.right.at_.lo,(d.ps.get k).right.at_.hi=q.right.at_.hi,(d.ps.get k).right.wide.lo=q.right.wide.lo,(d.ps.get k).right.wide.hi=q.right.wide.hi,(d.ps.get k).right.deep.lo=q.right.deep.lo,(d.ps.get k).right.deep.hi=q.right.deep.hi,(d.ps.get k).down.kind=q.down.kind,(d.ps.get k).down.at_.lo=q.down.at_.lo,(d.ps.get k).down.at_.hi=q.down.at_.hi,(d.ps.get k).down.wide.lo=q.down.wide.lo,(d.ps.get k).down.wide.hi=q.down.wide.hi,(d.ps.get k).down.deep.lo=q.down.deep.lo,(d.ps.get k).down.deep.hi=q.down.deep.hi,(d.ps.get k).left.kind=q.left.kind,(d.ps.get k).left.at_.lo=q.left.at_.lo,(d.ps.get k).left.at_.hi=q.left.at_.hi,(d.ps.get k).left.wide.lo=q.left.wide.lo,(d.ps.get k).left.wide.hi=q.left.wide.hi,(d.ps.get k).left.deep.lo=q.left.deep.lo,(d.ps.get k).left.deep.hi=q.left.deep.hi])++wab d++[cO=cO]++wab d++([cO=cO,E.1=E.1,E.2=E.2]++wae d)) (.asm (True) (.all (λ(g0:Nat -> Value)=>.leaf (.tup (.nilp::.ptr 78 0 0::.ptr 8 0 0::.ptr 48 0 0::.slz 0 0 d.ps.n cO::List.append (way d i) ([.slz 0 0 d.ps.n cO,vi (d.ps.n:Int),vi (i64.wrap ((k:Int)+1))]))) ([(K6 d),(K0 d),(K4 d i),(56,.cells 7 70 (Ki p)),(32,.mp F.1 F.2)]))))))) (.leaf (.tup (.ptr 2 0 0::.ptr 78 0 0::List.append (wbJ d) ([vi (i:Int)]))) ([(K6 d),(K0 d),(K4 d i),(32,.mp E.1 E.2)])):=by kernel_rfl
abbrev QJa(P:Program)(d:Puz)(E F:ECt)(p:QX)(i:Nat):Hnd:={ hnd (mkF P KJ) 1 with loop:=λ_=>JP (i<d.ps.n) (KH 8 [] (H6 d E p i (0:Nat)) [(True,.exit 2,QJJ d F i)]) }
theorem Qbx(E F:ECt)(p:QX)(i:Nat)(g:Nat->Value):exec (mkF prog KJ) (QJa prog d E F p i) (QI f60 0) (JSt.inst (QAg d E i) g) (Q6 [] QSn) = .br (decide ((i:Int)<(d.ps.n:Int))) (.need (decide ((0:Int)<=(i:Int)/\(i:Int)<(d.ps.n:Int))&&decide (d.ps.n<=d.ps.n)) (.need (decide (i<d.ps.n)) (.ak (([i<d.ps.n,0=0,0=0,0=0,0=0,0=0]++wbP d++[(i:Int)=(i:Int),(i:Int)=(i:Int),0=0,0=0,0=0]++wbP d++[(0:Int)=0,(d.ps.get i).up.kind=p.up.kind,(d.ps.get i).up.at_.lo=p.up.at_.lo,(d.ps.get i).up.at_.hi=p.up.at_.hi,(d.ps.get i).up.wide.lo=p.up.wide.lo,(d.ps.get i).up.wide.hi=p.up.wide.hi,(d.ps.get i).up.deep.lo=p.up.deep.lo,(d.ps.get i).up.deep.hi=p.up.deep.hi,(d.ps.get i).right.kind=p.right.kind,(d.ps.get i).right.at_.lo=p.right.at_.lo,(d.ps.get i).right.at_.hi=p.right.at_.hi,(d.ps.get i).right.wide.lo=p.right.wide.lo,(d.ps.get i).right.wide.hi=p.right.wide.hi,(d.ps.get i).right.deep.lo=p.right.deep.lo,(d.ps.get i).right.deep.hi=p.right.deep.hi,(d.ps.get i).down.kind=p.down.kind,(d.ps.get i).down.at_.lo=p.down.at_.lo,(d.ps.get i).down.at_.hi=p.down.at_.hi,(d.ps.get i).down.wide.lo=p.down.wide.lo,(d.ps.get i).down.wide.hi=p.down.wide.hi,(d.ps.get i).down.deep.lo=p.down.deep.lo,(d.ps.get i).down.deep.hi=p.down.deep.hi,(d.ps.get i).left.kind=p.left.kind,(d.ps.get i).left.at_.lo=p.left.at_.lo,(d.ps.get i).left.at_.hi=p.left.at_.hi,(d.ps.get i).left.wide.lo=p.left.wide.lo,(d.ps.get i).left.wide.hi=p.left.wide.hi,(d.ps.get i).left.deep.lo=p.left.deep.lo,(d.ps.get i).left.deep.hi=p.left.deep.hi])++wab d++[cO=cO]++wab d++([cO=cO,E.1=E.1,E.2=E.2]++wae d)) (.asm (True) (.all (λ(g0:Nat->Value)=>.leaf (.tup (.nilp::.ptr 78 0 0::List.append (wbJ d) ([vi (i64.wrap ((i:Int)+1))]))) ([(K6 d),(K0 d),(K4 d i),(32,.mp F.1 F.2)]))))))) (.leaf (.tup [.ptr 0 0 0,.ptr 78 0 0,.ptr 48 0 0]) ([(K0 d),(K4 d i),(32,.mp E.1 E.2)])):=by kernel_rfl
noncomputable abbrev QHU(p:QX)(q:QX)(s:Nat):List AV:=
  (.ptr 8 0 0::.ptr 48 0 0::.slz 0 0 d.ps.n cO::vi (d.ps.n:Int)::vi (i:Int)::vi (i:Int)::.ptr 56 0 0::.slz 0 0 d.ps.n cO::.int false .i64 (d.ps.n:Int)::List.append (wax k p q s) ([vj 1]))
abbrev jh:List Prop:=
  ([0=0,0=0,0=0,0=0,0=0]++wbP d++[(i:Int)=(i:Int),(i:Int)=(i:Int),0=0,0=0,0=0]++wbP d)
abbrev QAu:List Prop:=
  [(k:Int)=(k:Int),(k:Int)=(k:Int),0=0,0=0]
abbrev YM:List Prop:=
  [p.up.kind=p.up.kind,p.up.at_.lo=p.up.at_.lo,p.up.at_.hi=p.up.at_.hi,p.up.wide.lo=p.up.wide.lo]
abbrev Xz:List Prop:=
  (waG p)
abbrev QEv:List Prop:=
  [(s:Int)=(s:Int),(s:Int)=(s:Int),0=0,0=0]
abbrev Z0:List Prop:=
  [q.up.kind=q.up.kind,q.up.at_.lo=q.up.at_.lo,q.up.at_.hi=q.up.at_.hi,q.up.wide.lo=q.up.wide.lo]
abbrev WP:List Prop:=
  (wa1 q)
abbrev waz(x:Edge):List Prop:=[x.at_.lo=x.at_.lo,x.at_.hi=x.at_.hi,x.wide.lo=x.wide.lo,x.wide.hi=x.wide.hi,x.deep.lo=x.deep.lo,x.deep.hi=x.deep.hi]
abbrev QDG:List Prop:=
  (waz x)
abbrev VA:List Prop:=
  ([d.pK.aK=d.pK.aK]++waD d++[0 =
  0,d.ps.n=d.ps.n,cO=cO])
theorem Qf7(E F:ECt)(p q:QX)(x:Edge)(i k s t t':Nat):QE 8 (QHU d i k p q s) (((K6 d)::(K0 d)::(K4 d i)::List.append (wav p q) ([(WB x),(32,.mp (JH [(i:Int),(s:Int),(k:Int),(t:Int)] (KQ (i:Int) (s:Int) (k:Int) (t:Int)) (Value.int i64 (JA d.pK x q.up).1) E.2 E.1) (clL [(i:Int),(s:Int),(k:Int),(t:Int)] E.2 E.1))]))) (Vm d F p q x i k s t')=(some ((jh d i)++(QAu k)++(YM p)++(Xz p)++(QEv s)++(Z0 q)++(WP q)++[(1:Int)=(t':Int),x.kind=x.kind]++(QDG x) ++ (YM p)++(Xz p)++(Z0 q)++(WP q)++[d.pK.length=d.pK.length]++(VA d)++[d.pK.length=d.pK.length]++(VA d)++([JH [(i:Int),(s:Int),(k:Int),(t:Int)] (KQ (i:Int) (s:Int) (k:Int) (t:Int)) (Value.int i64 (JA d.pK x q.up).1) E.2 E.1=F.1,clL [(i:Int),(s:Int),(k:Int),(t:Int)] E.2 E.1=F.2]++wae d))):=by kernel_rfl
abbrev wad(q:QX):List Prop:=(waB q)
abbrev wa9(d:Puz):List Prop:=(wbs d)
abbrev QP8(E:ECt)(F:ECt)(d:Puz)(i:Nat)(k:Nat)(p:QX)(q:QX)(s:Nat)(t':Nat)(x:Edge):List Prop:=
  (((wa0 d i k)++wac p++([(s:Int)=(s:Int),(s:Int)=(s:Int),0 =
  0,0=0]++wad q++[(1
  : Int)=(t':Int),x.kind=x.kind,x.at_.lo=x.at_.lo,x.at_.hi=x.at_.hi,x.wide.lo=x.wide.lo,x.wide.hi=x.wide.hi,x.deep.lo=x.deep.lo,x.deep.hi=x.deep.hi])++wac p++(wad q))++wab d++[cO=cO]++wab d++([cO=cO,E.1=F.1,E.2=F.2]++wa9 d))
theorem Qds(E F:ECt)(p q:QX)(x:Edge)(i k s t':Nat):QE 8 (QHU d i k p q s) ((Vi E d i p q x)) (Vm d F p q x i k s t')=(some (QP8 E F d i k p q s t' x)):=by kernel_rfl
theorem QZI(E F:ECt)(p q:QX)(x:Edge)(i k s t':Nat):QE 8 (QHU d i k p q s) ((Vi E d i p q x)) (Vm d F p q x i k s t')=(some (QP8 E F d i k p q s t' x)):=by kernel_rfl
noncomputable abbrev QHK(p:QX)(q:QX)(s:Nat):List AV:=
  (.ptr 8 0 0::.ptr 48 0 0::.slz 0 0 d.ps.n cO::vi (d.ps.n:Int)::vi (i:Int)::vi (i:Int)::.ptr 56 0 0::.slz 0 0 d.ps.n cO::.int false .i64 (d.ps.n:Int)::List.append (wax k p q s) ([vj 2]))
theorem Qeo(E F:ECt)(p q:QX)(x:Edge)(i k s t t':Nat):QE 8 (QHK d i k p q s) (((K6 d)::(K0 d)::(K4 d i)::List.append (wav p q) ([(WB x),(32,.mp (JH [(i:Int),(s:Int),(k:Int),(t:Int)] (KQ (i:Int) (s:Int) (k:Int) (t:Int)) (Value.int i64 (JA d.pK x q.right).1) E.2 E.1) (clL [(i:Int),(s:Int),(k:Int),(t:Int)] E.2 E.1))]))) (Vm d F p q x i k s t')=(some ((jh d i)++(QAu k)++(YM p)++(Xz p)++(QEv s)++(Z0 q)++(WP q)++[(2:Int)=(t':Int),x.kind=x.kind]++(QDG x) ++ (YM p)++(Xz p)++(Z0 q)++(WP q)++[d.pK.length=d.pK.length]++(VA d)++[d.pK.length=d.pK.length]++(VA d)++([JH [(i:Int),(s:Int),(k:Int),(t:Int)] (KQ (i:Int) (s:Int) (k:Int) (t:Int)) (Value.int i64 (JA d.pK x q.right).1) E.2 E.1=F.1,clL [(i:Int),(s:Int),(k:Int),(t:Int)] E.2 E.1=F.2]++wae d))):=by kernel_rfl
abbrev QK1(E:ECt)(F:ECt)(d:Puz)(i:Nat)(k:Nat)(p:QX)(q:QX)(s:Nat)(t':Nat)(x:Edge):List Prop:=
  (((wa0 d i k)++wac p++([(s:Int)=(s:Int),(s:Int)=(s:Int),0 =
  0,0=0]++wad q++([(2
  : Int)=(t':Int),x.kind=x.kind]++waz x))++wac p++(wad q))++wab d++[cO=cO]++wab d++([cO=cO,E.1=F.1,E.2=F.2]++wae d))
theorem QVg(E F:ECt)(p q:QX)(x:Edge)(i k s t':Nat):QE 8 (QHK d i k p q s) ((Vi E d i p q x)) (Vm d F p q x i k s t')=(some (QK1 E F d i k p q s t' x)):=by kernel_rfl
theorem QXI(E F:ECt)(p q:QX)(x:Edge)(i k s t':Nat):QE 8 (QHK d i k p q s) ((Vi E d i p q x)) (Vm d F p q x i k s t')=(some (QK1 E F d i k p q s t' x)):=by kernel_rfl
noncomputable abbrev QIL(p:QX)(q:QX)(s:Nat):List AV:=
  (.ptr 8 0 0::.ptr 48 0 0::.slz 0 0 d.ps.n cO::vi (d.ps.n:Int)::vi (i:Int)::vi (i:Int)::.ptr 56 0 0::.slz 0 0 d.ps.n cO::.int false .i64 (d.ps.n:Int)::List.append (wax k p q s) ([vj 3]))
theorem QbD(E F:ECt)(p q:QX)(x:Edge)(i k s t t':Nat):QE 8 (QIL d i k p q s) (((K6 d)::(K0 d)::(K4 d i)::List.append (wav p q) ([(WB x),(32,.mp (JH [(i:Int),(s:Int),(k:Int),(t:Int)] (KQ (i:Int) (s:Int) (k:Int) (t:Int)) (Value.int i64 (JA d.pK x q.down).1) E.2 E.1) (clL [(i:Int),(s:Int),(k:Int),(t:Int)] E.2 E.1))]))) (Vm d F p q x i k s t')=(some ((jh d i)++(QAu k)++(YM p)++(Xz p)++(QEv s)++(Z0 q)++(WP q)++[(3:Int)=(t':Int),x.kind=x.kind]++(QDG x) ++ (YM p)++(Xz p)++(Z0 q)++(WP q)++[d.pK.length=d.pK.length]++(VA d)++[d.pK.length=d.pK.length]++(VA d)++([JH [(i:Int),(s:Int),(k:Int),(t:Int)] (KQ (i:Int) (s:Int) (k:Int) (t:Int)) (Value.int i64 (JA d.pK x q.down).1) E.2 E.1=F.1,clL [(i:Int),(s:Int),(k:Int),(t:Int)] E.2 E.1=F.2]++wae d))):=by kernel_rfl
abbrev QQJ(E:ECt)(F:ECt)(d:Puz)(i:Nat)(k:Nat)(p:QX)(q:QX)(s:Nat)(t':Nat)(x:Edge):List Prop:=
  (((wa0 d i k)++wac p++([(s:Int)=(s:Int),(s:Int)=(s:Int),0 =
  0,0=0]++wad q++([(3
  : Int)=(t':Int),x.kind=x.kind]++waz x))++wac p++(wad q))++wab d++[cO=cO]++wab d++([cO=cO,E.1=F.1,E.2=F.2]++wae d))
theorem QVk(E F:ECt)(p q:QX)(x:Edge)(i k s t':Nat):QE 8 (QIL d i k p q s) ((Vi E d i p q x)) (Vm d F p q x i k s t')=(some (QQJ E F d i k p q s t' x)):=by kernel_rfl
theorem QUN(E F:ECt)(p q:QX)(x:Edge)(i k s t':Nat):QE 8 (QIL d i k p q s) ((Vi E d i p q x)) (Vm d F p q x i k s t')=(some (QQJ E F d i k p q s t' x)):=by kernel_rfl
noncomputable abbrev QJv(p:QX)(q:QX)(s:Nat):List AV:=
  (.ptr 8 0 0::.ptr 48 0 0::.slz 0 0 d.ps.n cO::vi (d.ps.n:Int)::vi (i:Int)::vi (i:Int)::.ptr 56 0 0::.slz 0 0 d.ps.n cO::.int false .i64 (d.ps.n:Int)::List.append (wax k p q s) ([vj 4]))
theorem QaV(E F:ECt)(p q:QX)(x:Edge)(i k s t t':Nat):QE 8 (QJv d i k p q s) (((K6 d)::(K0 d)::(K4 d i)::List.append (wav p q) ([(WB x),(32,.mp (JH [(i:Int),(s:Int),(k:Int),(t:Int)] (KQ (i:Int) (s:Int) (k:Int) (t:Int)) (Value.int i64 (JA d.pK x q.left).1) E.2 E.1) (clL [(i:Int),(s:Int),(k:Int),(t:Int)] E.2 E.1))]))) (Vm d F p q x i k s t')=(some ((jh d i)++(QAu k)++(YM p)++(Xz p)++(QEv s)++(Z0 q)++(WP q)++[(4:Int)=(t':Int),x.kind=x.kind]++(QDG x) ++ (YM p)++(Xz p)++(Z0 q)++(WP q)++[d.pK.length=d.pK.length]++(VA d)++[d.pK.length=d.pK.length]++(VA d)++([JH [(i:Int),(s:Int),(k:Int),(t:Int)] (KQ (i:Int) (s:Int) (k:Int) (t:Int)) (Value.int i64 (JA d.pK x q.left).1) E.2 E.1=F.1,clL [(i:Int),(s:Int),(k:Int),(t:Int)] E.2 E.1=F.2]++wae d))):=by kernel_rfl
abbrev QTu(E:ECt)(F:ECt)(d:Puz)(i:Nat)(k:Nat)(p:QX)(q:QX)(s:Nat)(t':Nat)(x:Edge):List Prop:=
  (((wa0 d i k)++wac p++([(s:Int)=(s:Int),(s:Int)=(s:Int),0 =
  0,0=0]++wad q++([(4
  : Int)=(t':Int),x.kind=x.kind]++waz x))++wac p++(wad q))++wab d++[cO=cO]++wab d++([cO=cO,E.1=F.1,E.2=F.2]++wae d))
theorem QfP(E F:ECt)(p q:QX)(x:Edge)(i k s t':Nat):QE 8 (QJv d i k p q s) ((Vi E d i p q x)) (Vm d F p q x i k s t')=(some (QTu E F d i k p q s t' x)):=by kernel_rfl
theorem QdD(E F:ECt)(p q:QX)(x:Edge)(i k s t':Nat):QE 8 (QJv d i k p q s) ((Vi E d i p q x)) (Vm d F p q x i k s t')=(some (QTu E F d i k p q s t' x)):=by kernel_rfl
theorem QaJ(E F:ECt)(p q:QX)(i k s:Nat):QE 8 (.ptr 8 0 0::.ptr 48 0 0::.slz 0 0 d.ps.n cO::List.append (way d i) ([.slz 0 0 d.ps.n cO,vi (d.ps.n:Int),vi (k:Int),vi (k:Int),.ptr 64 0 0,.agg (Ki p),vi (s:Int)])) (((K6 d)::(K0 d)::(K4 d i)::List.append (wav p q) ([(32,.mp E.1 E.2)]))) (QH5 d F p q i k s)=(some ((jh d i)++(QAu k)++(YM p)++(Xz p)++[(s:Int)=(s:Int)]++(YM p)++(Xz p)++(Z0 q)++(WP q)++[d.pK.length=d.pK.length]++(VA d)++[d.pK.length=d.pK.length]++(VA d)++([E.1=F.1,E.2=F.2]++wae d))):=by kernel_rfl
noncomputable abbrev QFV(p:QX)(s:Nat):List AV:=
  (.ptr 8 0 0::.ptr 48 0 0::.slz 0 0 d.ps.n cO::List.append (way d i) ([.slz 0 0 d.ps.n cO,.int false .i64 (d.ps.n:Int),vi (k:Int),vi (k:Int),.ptr 64 0 0,.agg (Ki p),vi (i64.wrap ((s:Int)+1))]))
abbrev QE2(F:ECt)(F':ECt)(d:Puz)(i:Nat)(k:Nat)(p:QX)(q:QX)(s:Nat)(s':Nat):List Prop:=
  (((wa0 d i k)++wac p++[i64.wrap ((s:Int)+1)=(s':Int)]++wac p++(wad q))++wab d++[cO=cO]++wab d++([cO=cO,F.1=F'.1,F.2=F'.2]++wae d))
theorem Qgp(F F':ECt)(p q:QX)(i k s s':Nat):QE 8 (QFV d i k p s) (((K6 d)::(K0 d)::(K4 d i)::List.append (wav p q) ([(32,.mp F.1 F.2)]))) (Ww d F' p q i k s')=(some (QE2 F F' d i k p q s s')):=by kernel_rfl
theorem Qhf(F F':ECt)(p q:QX)(i k s s':Nat):QE 8 (QFV d i k p s) (((K6 d)::(K0 d)::(K4 d i)::List.append (wav p q) ([(32,.mp F.1 F.2)]))) (Ww d F' p q i k s')=(some (QE2 F F' d i k p q s s')):=by kernel_rfl
theorem QUQ(F F':ECt)(p q:QX)(i k s s':Nat):QE 8 (QFV d i k p s) (((K6 d)::(K0 d)::(K4 d i)::List.append (wav p q) ([(32,.mp F.1 F.2)]))) (Ww d F' p q i k s')=(some (QE2 F F' d i k p q s s')):=by kernel_rfl
theorem QVe(F F':ECt)(p q:QX)(i k s s':Nat):QE 8 (QFV d i k p s) (((K6 d)::(K0 d)::(K4 d i)::List.append (wav p q) ([(32,.mp F.1 F.2)]))) (Ww d F' p q i k s')=(some (QE2 F F' d i k p q s s')):=by kernel_rfl
theorem Qdd(E F':ECt)(p:QX)(i k:Nat):QE 8 (.ptr 8 0 0::.ptr 48 0 0::.slz 0 0 d.ps.n cO::List.append (way d i) ([.slz 0 0 d.ps.n cO,vi (d.ps.n:Int),vi (k:Int)])) ([(K6 d),(K0 d),(K4 d i),(56,.cells 7 70 (Ki p)),(32,.mp E.1 E.2)]) (QIj d F' p i k)=(some ((jh d i)++[(k:Int)=(k:Int)]++(YM p)++(Xz p)++[d.pK.length=d.pK.length]++(VA d)++[d.pK.length=d.pK.length]++(VA d)++([E.1=F'.1,E.2=F'.2]++wae d))):=by kernel_rfl
theorem Qc7(F F':ECt)(p:QX)(i k k':Nat):QE 8 (.ptr 8 0 0::.ptr 48 0 0::.slz 0 0 d.ps.n cO::List.append (way d i) ([.slz 0 0 d.ps.n cO,vi (d.ps.n:Int),vi (i64.wrap ((k:Int)+1))])) ([(K6 d),(K0 d),(K4 d i),(56,.cells 7 70 (Ki p)),(32,.mp F.1 F.2)]) (H6 d F' p i k')=(some ((jh d i)++[i64.wrap ((k:Int)+1)=(k':Int)]++(YM p)++(Xz p)++[d.pK.length=d.pK.length]++(VA d) ++ [d.pK.length=d.pK.length]++(VA d)++([F.1=F'.1,F.2=F'.2]++wae d))):=by kernel_rfl
abbrev QNc:List Prop:=
  [0=0,0=0,0=0,0=0]
theorem QhA(E F':ECt)(i:Nat):QE 8 (List.append (wbJ d) ([vi (i:Int)])) ([(K6 d),(K0 d),(K4 d i),(32,.mp E.1 E.2)]) (QJJ d F' i)=(some (QNc++([0=0]++wbP d++[(i:Int)=(i:Int),d.pK.length=d.pK.length])++(VA d) ++ [d.pK.length=d.pK.length]++(VA d)++([E.1=F'.1,E.2=F'.2]++wae d))):=by kernel_rfl
theorem Qch(F F':ECt)(i i':Nat):QE 8 (List.append (wbJ d) ([vi (i64.wrap ((i:Int)+1))])) ([(K6 d),(K0 d),(K4 d i), (32,.mp F.1 F.2)]) (QAg d F' i')=(some (QNc++([0=0]++wbP d++[i64.wrap ((i:Int)+1)=(i':Int),d.pK.length=d.pK.length])++(VA d)++[d.pK.length=d.pK.length]++(VA d)++([F.1=F'.1,F.2=F'.2]++wae d))):=by kernel_rfl
theorem QZr(E F':ECt):QE 8 [.ptr 48 0 0] ([(K0 d),(0,.frz QPr d.ps.n λi=>QA.enc (d.ps.get i)),(32,.mp E.1 E.2)]) (QGl d F')=(some ([0=0,0=0,d.pK.length=d.pK.length] ++ (VA d)++([E.1=F'.1,E.2=F'.2]++wae d))):=by kernel_rfl
