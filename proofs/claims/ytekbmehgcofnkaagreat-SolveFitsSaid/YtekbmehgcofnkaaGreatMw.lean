/- - -/
import Derived.Test.YtekbmehgcofnkaaGreatMv
open Go.Proofs.Tryz
open Go.IntKind (i64)
set_option maxRecDepth 100000
namespace Go.Proofs.YtekbmehgcofnkaaGreat
open Go.SX Go.SX.Told
abbrev ECt:=List MapEntry×Nat
variable (d:Puz)(p:QY)(i:Nat)(q:QY)(k:Nat)(x:Edge)(s:Nat)
def K1:Edge:=match s with
 | 0=>p.up
 | 1=>p.right
 | 2=>p.down
 | _=>p.left
def QPF:List AV:=KS d++[.map 32,.nils]
def nbB(E:ECt):List (Nat×Blk):=[(8,.cells 0 28 (KS d)),(48,.cells 0 152 (QPF d)),(32,.mp E.1 E.2)]++Qi.blk 0 d.ps
def QJk:List (Nat×AV):=[(1,.ptr 8 0 0),(3,.ptr 48 0 0),(19,.slz 0 0 d.ps.n (.of 0)),(20,.int false .i64 d.ps.n),(21,.int false .i64 i)]
def QF3:List (Nat×AV):=QJk d i++[(4,.int false .i64 i),(5,.ptr 56 0 0),(27,.slz 0 0 d.ps.n (.of 0)),(28,.int false .i64 d.ps.n),(29,.int false .i64 k)]
def QIF(p:QY)(s:Nat):List (Nat×AV):=QF3 d i k++[(6,.int false .i64 k),(7,.ptr 64 0 0),(35,Enc.enc p),(36,.int false .i64 s)]
def QcD(p q:QY)(s t:Nat):List (Nat×AV):=QIF d i k p s++[(8,.int false .i64 s),(9,.ptr 72 0 0),(41,Enc.enc q),(42,.int false .i64 t)]
def pcB(id:Nat)(p:QY):Nat×Blk:=(id,.cells 7 70 (Enc.enc p).cells)
def edB(id:Nat)(x:Edge):Nat×Blk:=(id,.cells 0 55 (Enc.enc x).cells)
def QAU(E:ECt)(i:Nat):JSt:=⟨78,QJk d i,nbB d E,104⟩
def QHb(E:ECt):JSt:=⟨78,[(3,.ptr 48 0 0)],[(48,.cells 0 152 (QPF d)),(32,.mp E.1 E.2)]++Qi.blk 0 d.ps,104⟩
def QBe(E:ECt)(p:QY)(i k:Nat):JSt:=⟨78,QF3 d i k,pcB 56 p::nbB d E,104⟩
def QGs(E:ECt)(i:Nat):JSt:=⟨78,QJk d i,nbB d E,104⟩
def W8(E:ECt)(p q:QY)(i k s:Nat):JSt:=⟨78,QIF d i k p s,pcB 56 p::pcB 64 q::nbB d E,104⟩
def QHk(E:ECt)(p:QY)(i k:Nat):JSt:=⟨78,QF3 d i k,pcB 56 p::nbB d E,104⟩
def Vs(E:ECt)(p q:QY)(x:Edge)(i k s t:Nat):JSt:=⟨78,QcD d i k p q s t,edB 72 x::pcB 56 p::pcB 64 q::nbB d E,104⟩
def QF8(E:ECt)(p q:QY)(i k s:Nat):JSt:=⟨78,QIF d i k p s,pcB 56 p::pcB 64 q::nbB d E,104⟩
def QRj:List Nat:=[1,3,19,20,21]
def QSg:List Nat:=[1,3,19,20,21,4,5,27,28,29]
def QMq:List Nat:=[1,3,19,20,21,4,5,27,28,29,6,7,35,36]
def QWL:List Nat:=[1,3,19,20,21,4,5,27,28,29,6,7,35,36,8,9,41,42]
def QMV:Ex->List Nat
 | .normal=>QRj
 | .exit _=>[3]
 | .ret=>[]
def QLQ:Ex->List Nat
 | .normal=>QSg
 | .exit _=>QRj
 | .ret=>[]
def QSc:Ex->List Nat
 | .normal=>QMq
 | .exit _=>QSg
 | .ret=>[]
def QNg:Ex->List Nat
 | .normal=>QWL
 | .exit _=>QMq
 | .ret=>[]
noncomputable abbrev Kr:List AV:=
  ((Enc.enc (p:QY)).cells)
noncomputable abbrev JF:List AV:=
  ((Enc.enc (q:QY)).cells)
noncomputable abbrev waw(k:Nat)(p:QY)(q:QY)(s:Nat):List AV:=[vi (k:Int),vi (k:Int),.ptr 64 0 0,.agg (Kr p),vi (s:Int),vi (s :
  Int),.ptr 72 0 0,.agg (JF q)]
noncomputable abbrev QG3(p:QY)(q:QY)(s:Nat):List AV:=
  (.nilp::.ptr 78 0 0::.ptr 8 0 0::.ptr 48 0 0::.slz 0 0 d.ps.n cO::vi (d.ps.n:Int)::vi (i:Int)::vi (i:Int)::.ptr 56 0 0::.slz 0 0
  d.ps.n cO::vi (d.ps.n:Int)::List.append (waw k p q s) ([vj 1]))
noncomputable abbrev JH:Nat×Blk:=
  (8,.cells 0 28 (waf d))
noncomputable abbrev K9:Nat×Blk:=
  (48,.cells 0 152 (List.append (waf d) ([.map 32,.nils])))
abbrev QUF:List CK:=
  (wae)
noncomputable abbrev JC(i:Nat):Nat×Blk:=
  (0,.frz QUF d.ps.n λi=>QA.enc (d.ps.get i))
noncomputable abbrev WK:Nat×Blk:=
  (72,.cells 0 55 [vi x.kind,vi x.at_.lo,vi x.at_.hi,vi x.wide.lo,vi x.wide.hi,vi x.deep.lo,.int
  false .i64 x.deep.hi])
noncomputable abbrev wau(p:QY)(q:QY):List (Nat×Blk):=[(56,.cells 7 70 (Kr p)),(64,.cells 7 70 (JF q))]
noncomputable abbrev Vw(E:ECt)(d:Puz)(i:Nat)(p:QY)(q:QY)(x:Edge):List (Nat×Blk):=
  ((JH d)::(K9 d)::(JC d i)::List.append (wau p q) ([(WK x),(32,.mp E.1 E.2)]))
noncomputable abbrev QIb(p:QY)(q:QY)(s:Nat):List AV:=
  (.nilp::.ptr 78 0 0::.ptr 8 0 0::.ptr 48 0 0::.slz 0 0 d.ps.n cO::vi (d.ps.n:Int)::vi (i:Int)::vi (i:Int)::.ptr 56 0 0::.slz 0 0
  d.ps.n cO::vi (d.ps.n:Int)::List.append (waw k p q s) ([vj 2]))
noncomputable abbrev QJp(p:QY)(q:QY)(s:Nat):List AV:=
  (.nilp::.ptr 78 0 0::.ptr 8 0 0::.ptr 48 0 0::.slz 0 0 d.ps.n cO::vi (d.ps.n:Int)::vi (i:Int)::vi (i:Int)::.ptr 56 0 0::.slz 0 0
  d.ps.n cO::vi (d.ps.n:Int)::List.append (waw k p q s) ([vj 3]))
noncomputable abbrev QIM(p:QY)(q:QY)(s:Nat):List AV:=
  (.nilp::.ptr 78 0 0::.ptr 8 0 0::.ptr 48 0 0::.slz 0 0 d.ps.n cO::vi (d.ps.n:Int)::vi (i:Int)::vi (i:Int)::.ptr 56 0 0::.slz 0 0
  d.ps.n cO::vi (d.ps.n:Int)::List.append (waw k p q s) ([vj 4]))
noncomputable abbrev wax(d:Puz)(i:Nat):List AV:=[vi (d.ps.n:Int),vi (i:Int),vi (i:Int),.ptr 56 0 0]
theorem QgB(E:ECt)(p q:QY)(x:Edge)(i k s t:Nat)(g:Nat->Value):exec (mkF prog KQ) (hnd (mkF prog KQ) 1) (QU (QU (QU (QH f60 0)))) (JSt.inst (Vs d E p q x i k s t) g) (Q9 [] QNg) = .br (decide ((t:Int)<4)) (.need (decide ((0:Int)<=(t:Int)/\(t:Int)<4)) (.br (decide ((t:Int)=0)) (.need (true) (.br ((i:Int) != (k:Int)) (.br ((Kq d.pK x q.up).1 != 0) (.need (wf4 i64 E.1) (.leaf (.tup (QG3 d i k p q s)) (((JH d)::(K9 d)::(JC d i)::List.append (wau p q) ([(WK x),(32,.mp (JS [(i:Int),(s:Int),(k:Int),(t:Int)] (KX (i:Int) (s:Int) (k:Int) (t:Int)) (Value.int i64 (Kq d.pK x q.up).1) E.2 E.1) (clL [(i:Int),(s:Int),(k:Int),(t:Int)] E.2 E.1))]))))) (.leaf (.tup (QG3 d i k p q s)) ((Vw E d i p q x)))) (.leaf (.tup (QG3 d i k p q s)) ((Vw E d i p q x))))) (.br (decide ((t:Int)=1)) (.need (true) (.br ((i:Int) != (k:Int)) (.br ((Kq d.pK x q.right).1 != 0) (.need (wf4 i64 E.1) (.leaf (.tup (QIb d i k p q s)) (((JH d)::(K9 d)::(JC d i)::List.append (wau p q) ([(WK x),(32,.mp (JS [(i:Int),(s:Int),(k:Int),(t:Int)] (KX (i:Int) (s:Int) (k:Int) (t:Int)) (Value.int i64 (Kq d.pK x q.right).1) E.2 E.1) (clL [(i:Int),(s:Int),(k:Int),(t:Int)] E.2 E.1))]))))) (.leaf (.tup (QIb d i k p q s)) ((Vw E d i p q x)))) (.leaf (.tup (QIb d i k p q s)) ((Vw E d i p q x))))) (.br (decide ((t:Int)=2)) (.need (true) (.br ((i:Int) != (k:Int)) (.br ((Kq d.pK x q.down).1 != 0) (.need (wf4 i64 E.1) (.leaf (.tup (QJp d i k p q s)) (((JH d)::(K9 d)::(JC d i)::List.append (wau p q) ([(WK x),(32,.mp (JS [(i:Int),(s:Int),(k:Int),(t:Int)] (KX (i:Int) (s:Int) (k:Int) (t:Int)) (Value.int i64 (Kq d.pK x q.down).1) E.2 E.1) (clL [(i:Int),(s:Int),(k:Int),(t:Int)] E.2 E.1))]))))) (.leaf (.tup (QJp d i k p q s)) ((Vw E d i p q x)))) (.leaf (.tup (QJp d i k p q s)) ((Vw E d i p q x))))) (.need (true) (.br ((i:Int) != (k:Int)) (.br ((Kq d.pK x q.left).1 != 0) (.need (wf4 i64 E.1) (.leaf (.tup (QIM d i k p q s)) (((JH d)::(K9 d)::(JC d i)::List.append (wau p q) ([(WK x),(32,.mp (JS [(i:Int),(s:Int),(k:Int),(t:Int)] (KX (i:Int) (s:Int) (k:Int) (t:Int)) (Value.int i64 (Kq d.pK x q.left).1) E.2 E.1) (clL [(i:Int),(s:Int),(k:Int),(t:Int)] E.2 E.1))]))))) (.leaf (.tup (QIM d i k p q s)) ((Vw E d i p q x)))) (.leaf (.tup (QIM d i k p q s)) ((Vw E d i p q x))))))))) (.leaf (.tup (.ptr 6 0 0::.ptr 78 0 0::.ptr 8 0 0::.ptr 48 0 0::.slz 0 0 d.ps.n cO::List.append (wax d i) ([.slz 0 0 d.ps.n cO,vi (d.ps.n:Int),vi (k:Int),vi (k:Int),.ptr 64 0 0,.agg (Kr p),vi (s:Int)]))) (((JH d)::(K9 d)::(JC d i)::List.append (wau p q) ([(32,.mp E.1 E.2)])))):=by kernel_rfl
abbrev QF1(P:Program)(d:Puz)(E F:ECt)(p q:QY)(x:Edge)(i k s:Nat):Hnd:={ hnd (mkF P KQ) 1 with loop:=λ_=>KC 8 [] (Vs d E p q x i k s (0:Nat)) [(True,.exit 6,QF8 d F p q i k s)] }
noncomputable abbrev QEq(p:QY)(s:Nat):List AV:=
  (.nilp::.ptr 78 0 0::.ptr 8 0 0::.ptr 48 0 0::.slz 0 0 d.ps.n cO::List.append (wax d i) ([.slz 0 0
  d.ps.n cO,vi (d.ps.n:Int),vi (k:Int),vi (k:Int),.ptr 64 0 0,.agg (Kr p),vi (i64.wrap ((s:Int) +
  1))]))
abbrev waE(p:QY):List Prop:=[p.up.wide.hi=p.up.wide.hi,p.up.deep.lo=p.up.deep.lo,p.up.deep.hi=p.up.deep.hi,p.right.kind=p.right.kind,p.right.at_.lo=p.right.at_.lo,p.right.at_.hi=p.right.at_.hi,p.right.wide.lo=p.right.wide.lo,p.right.wide.hi=p.right.wide.hi,p.right.deep.lo=p.right.deep.lo,p.right.deep.hi=p.right.deep.hi,p.down.kind=p.down.kind,p.down.at_.lo=p.down.at_.lo,p.down.at_.hi=p.down.at_.hi,p.down.wide.lo=p.down.wide.lo,p.down.wide.hi=p.down.wide.hi,p.down.deep.lo=p.down.deep.lo,p.down.deep.hi=p.down.deep.hi,p.left.kind=p.left.kind,p.left.at_.lo=p.left.at_.lo,p.left.at_.hi=p.left.at_.hi,p.left.wide.lo=p.left.wide.lo,p.left.wide.hi=p.left.wide.hi,p.left.deep.lo=p.left.deep.lo,p.left.deep.hi=p.left.deep.hi]
abbrev wab(p:QY):List Prop:=([p.up.kind=p.up.kind,p.up.at_.lo=p.up.at_.lo,p.up.at_.hi=p.up.at_.hi,p.up.wide.lo=p.up.wide.lo]++waE p)
abbrev wa0(q:QY):List Prop:=[q.up.wide.hi=q.up.wide.hi,q.up.deep.lo=q.up.deep.lo,q.up.deep.hi=q.up.deep.hi,q.right.kind=q.right.kind,q.right.at_.lo=q.right.at_.lo,q.right.at_.hi=q.right.at_.hi,q.right.wide.lo=q.right.wide.lo,q.right.wide.hi=q.right.wide.hi,q.right.deep.lo=q.right.deep.lo,q.right.deep.hi=q.right.deep.hi,q.down.kind=q.down.kind,q.down.at_.lo=q.down.at_.lo,q.down.at_.hi=q.down.at_.hi,q.down.wide.lo=q.down.wide.lo,q.down.wide.hi=q.down.wide.hi,q.down.deep.lo=q.down.deep.lo,q.down.deep.hi=q.down.deep.hi,q.left.kind=q.left.kind,q.left.at_.lo=q.left.at_.lo,q.left.at_.hi=q.left.at_.hi,q.left.wide.lo=q.left.wide.lo,q.left.wide.hi=q.left.wide.hi,q.left.deep.lo=q.left.deep.lo,q.left.deep.hi=q.left.deep.hi]
abbrev waA(q:QY):List Prop:=([q.up.kind=q.up.kind,q.up.at_.lo=q.up.at_.lo,q.up.at_.hi=q.up.at_.hi,q.up.wide.lo=q.up.wide.lo]++wa0 q)
abbrev waZ(d:Puz)(i:Nat)(k:Nat):List Prop:=([0=0,0=0,0=0,0=0,0=0]++wbF d++[(i:Int)=(i:Int),(i:Int)=(i:Int),0=0,0=0,0=0]++wbF d++[(k:Int)=(k:Int),(k:Int)=(k:Int),0=0,0=0])
noncomputable abbrev wbC(F:ECt)(p:QY)(q:QY):List (Nat×Blk):=[(56,.cells 7 70 (Kr p)),(64,.cells 7 70 (JF q)),(32,.mp F.1 F.2)]
noncomputable abbrev wbG(E:ECt)(d:Puz):List Prop:=[E.1=E.1,E.2=E.2,d.ps.n<=d.ps.n,QB 28 d.ps.n (λi=>QA.enc (d.ps.get i)) λi=>QA.enc (d.ps.get i)]
noncomputable abbrev wbN(d:Puz):List AV:=[.ptr 8 0 0,.ptr 48 0 0,.slz 0 0 d.ps.n cO,vi (d.ps.n:Int)]
theorem QX0(E F:ECt)(p q:QY)(x:Edge)(i k s:Nat)(g:Nat->Value):exec (mkF prog KQ) (QF1 prog d E F p q x i k s) (QU (QU (QH f60 0))) (JSt.inst (W8 d E p q i k s) g) (Q9 [] QSc) = .br (decide ((s:Int)<4)) (.need (decide ((0:Int)<=(s:Int)/\(s:Int)<4)) (.br (decide ((s:Int)=0)) (.ak (((waZ d i k)++wab p++([(0:Int)=(s:Int),(s:Int)=(s:Int),0=0,0=0]++waA q++[(0:Int)=0,p.up.kind=x.kind,p.up.at_.lo=x.at_.lo,p.up.at_.hi=x.at_.hi,p.up.wide.lo=x.wide.lo,p.up.wide.hi=x.wide.hi,p.up.deep.lo=x.deep.lo,p.up.deep.hi=x.deep.hi])++wab p++(waA q))++waa d++[cO=cO]++waa d++([cO=cO]++wbG E d)) (.asm (True) (.all (λ(g0:Nat->Value)=>.leaf (.tup (QEq d i k p s)) (((JH d)::(K9 d)::(JC d i)::wbC F p q)))))) (.br (decide ((s:Int)=1)) (.ak (((waZ d i k)++wab p++([(1:Int)=(s:Int),(s:Int)=(s:Int),0=0,0=0]++waA q++[(0:Int)=0,p.right.kind=x.kind,p.right.at_.lo=x.at_.lo,p.right.at_.hi=x.at_.hi,p.right.wide.lo=x.wide.lo,p.right.wide.hi=x.wide.hi,p.right.deep.lo=x.deep.lo,p.right.deep.hi=x.deep.hi])++wab p++(waA q))++waa d++[cO=cO]++waa d++([cO=cO]++wbG E d)) (.asm (True) (.all (λ(g1:Nat->Value)=>.leaf (.tup (QEq d i k p s)) (((JH d)::(K9 d)::(JC d i)::wbC F p q)))))) (.br (decide ((s:Int)=2)) (.ak (((waZ d i k)++wab p++([(2:Int)=(s:Int),(s:Int)=(s:Int),0=0,0=0]++waA q++[(0:Int)=0,p.down.kind=x.kind,p.down.at_.lo=x.at_.lo,p.down.at_.hi=x.at_.hi,p.down.wide.lo=x.wide.lo,p.down.wide.hi=x.wide.hi,p.down.deep.lo=x.deep.lo,p.down.deep.hi=x.deep.hi])++wab p++(waA q))++waa d++[cO=cO]++waa d++([cO=cO]++wbG E d)) (.asm (True) (.all (λ(g2:Nat->Value)=>.leaf (.tup (QEq d i k p s)) (((JH d)::(K9 d)::(JC d i)::wbC F p q)))))) (.ak (((waZ d i k)++wab p++([(3:Int)=(s:Int),(s:Int)=(s:Int),0=0,0=0]++waA q++[(0:Int)=0,p.left.kind=x.kind,p.left.at_.lo=x.at_.lo,p.left.at_.hi=x.at_.hi,p.left.wide.lo=x.wide.lo,p.left.wide.hi=x.wide.hi,p.left.deep.lo=x.deep.lo,p.left.deep.hi=x.deep.hi])++wab p++(waA q))++waa d++[cO=cO]++waa d++([cO=cO]++wbG E d)) (.asm (True) (.all (λ(g3:Nat->Value)=>.leaf (.tup (QEq d i k p s)) (((JH d)::(K9 d)::(JC d i)::wbC F p q)))))))))) (.leaf (.tup (.ptr 4 0 0::.ptr 78 0 0::List.append (wbN d) ([vi (i:Int),vi (i:Int),.ptr 56 0 0,.slz 0 0 d.ps.n cO,vi (d.ps.n:Int),vi (k:Int)]))) ([(JH d),(K9 d),(JC d i),(56,.cells 7 70 (Kr p)),(32,.mp E.1 E.2)])):=by kernel_rfl
abbrev QIp(P:Program)(d:Puz)(E F:ECt)(p q:QY)(i k:Nat):Hnd:={ hnd (mkF P KQ) 1 with loop:=λ_=>JT (k<d.ps.n) (KC 8 [] (W8 d E p q i k (0:Nat)) [(True,.exit 4,QHk d F p i k)]) }
theorem QVn(E F:ECt)(p q:QY)(i k:Nat)(g:Nat->Value):exec (mkF prog KQ) (QIp prog d E F p q i k) (QU (QH f60 0)) (JSt.inst (QBe d E p i k) g) (Q9 [] QLQ) = .br (decide ((k:Int)<(d.ps.n:Int))) (.need (decide ((0:Int)<=(k:Int)/\(k:Int)<(d.ps.n:Int))&&decide (d.ps.n<=d.ps.n)) (.need (decide (k<d.ps.n)) (.ak ((([k<d.ps.n]++waZ d i k)++wab p++[(0:Int)=0]++wab p++[(d.ps.get k).up.kind=q.up.kind,(d.ps.get k).up.at_.lo=q.up.at_.lo,(d.ps.get k).up.at_.hi=q.up.at_.hi,(d.ps.get k).up.wide.lo=q.up.wide.lo,(d.ps.get k).up.wide.hi=q.up.wide.hi,(d.ps.get k).up.deep.lo=q.up.deep.lo,(d.ps.get k).up.deep.hi=q.up.deep.hi,(d.ps.get k).right.kind=q.right.kind,(d.ps.get k).right.at_.lo=q.right.at_.lo,(d.ps.get k).right.at_.hi=q.right.at_.hi,(d.ps.get k).right.wide.lo=q.right.wide.lo,(d.ps.get k).right.wide.hi=q.right.wide.hi,(d.ps.get k).right.deep.lo=q.right.deep.lo,(d.ps.get k).right.deep.hi=q.right.deep.hi,(d.ps.get k).down.kind=q.down.kind,(d.ps.get k).down.at_.lo=q.down.at_.lo,(d.ps.get k).down.at_.hi=q.down.at_.hi,(d.ps.get k).down.wide.lo=q.down.wide.lo,(d.ps.get k).down.wide.hi=q.down.wide.hi,(d.ps.get k).down.deep.lo=q.down.deep.lo,(d.ps.get k).down.deep.hi=q.down.deep.hi,(d.ps.get k).left.kind=q.left.kind,(d.ps.get k).left.at_.lo=q.left.at_.lo,(d.ps.get k).left.at_.hi=q.left.at_.hi,(d.ps.get k).left.wide.lo=q.left.wide.lo,(d.ps.get k).left.wide.hi=q.left.wide.hi,(d.ps.get k).left.deep.lo=q.left.deep.lo,(d.ps.get k).left.deep.hi=q.left.deep.hi])++waa d++[cO=cO]++waa d++([cO=cO,E.1=E.1,E.2=E.2]++wad d)) (.asm (True) (.all (λ(g0:Nat -> Value)=>.leaf (.tup (.nilp::.ptr 78 0 0::.ptr 8 0 0::.ptr 48 0 0::.slz 0 0 d.ps.n cO::List.append (wax d i) ([.slz 0 0 d.ps.n cO,vi (d.ps.n:Int),vi (i64.wrap ((k:Int)+1))]))) ([(JH d),(K9 d),(JC d i),(56,.cells 7 70 (Kr p)),(32,.mp F.1 F.2)]))))))) (.leaf (.tup (.ptr 2 0 0::.ptr 78 0 0::List.append (wbN d) ([vi (i:Int)]))) ([(JH d),(K9 d),(JC d i),(32,.mp E.1 E.2)])):=by kernel_rfl
abbrev QIC(P:Program)(d:Puz)(E F:ECt)(p:QY)(i:Nat):Hnd:={ hnd (mkF P KQ) 1 with loop:=λ_=>JT (i<d.ps.n) (KC 8 [] (QBe d E p i (0:Nat)) [(True,.exit 2,QGs d F i)]) }
theorem QZp(E F:ECt)(p:QY)(i:Nat)(g:Nat->Value):exec (mkF prog KQ) (QIC prog d E F p i) (QH f60 0) (JSt.inst (QAU d E i) g) (Q9 [] QMV) = .br (decide ((i:Int)<(d.ps.n:Int))) (.need (decide ((0:Int)<=(i:Int)/\(i:Int)<(d.ps.n:Int))&&decide (d.ps.n<=d.ps.n)) (.need (decide (i<d.ps.n)) (.ak (([i<d.ps.n,0=0,0=0,0=0,0=0,0=0]++wbF d++[(i:Int)=(i:Int),(i:Int)=(i:Int),0=0,0=0,0=0]++wbF d++[(0:Int)=0,(d.ps.get i).up.kind=p.up.kind,(d.ps.get i).up.at_.lo=p.up.at_.lo,(d.ps.get i).up.at_.hi=p.up.at_.hi,(d.ps.get i).up.wide.lo=p.up.wide.lo,(d.ps.get i).up.wide.hi=p.up.wide.hi,(d.ps.get i).up.deep.lo=p.up.deep.lo,(d.ps.get i).up.deep.hi=p.up.deep.hi,(d.ps.get i).right.kind=p.right.kind,(d.ps.get i).right.at_.lo=p.right.at_.lo,(d.ps.get i).right.at_.hi=p.right.at_.hi,(d.ps.get i).right.wide.lo=p.right.wide.lo,(d.ps.get i).right.wide.hi=p.right.wide.hi,(d.ps.get i).right.deep.lo=p.right.deep.lo,(d.ps.get i).right.deep.hi=p.right.deep.hi,(d.ps.get i).down.kind=p.down.kind,(d.ps.get i).down.at_.lo=p.down.at_.lo,(d.ps.get i).down.at_.hi=p.down.at_.hi,(d.ps.get i).down.wide.lo=p.down.wide.lo,(d.ps.get i).down.wide.hi=p.down.wide.hi,(d.ps.get i).down.deep.lo=p.down.deep.lo,(d.ps.get i).down.deep.hi=p.down.deep.hi,(d.ps.get i).left.kind=p.left.kind,(d.ps.get i).left.at_.lo=p.left.at_.lo,(d.ps.get i).left.at_.hi=p.left.at_.hi,(d.ps.get i).left.wide.lo=p.left.wide.lo,(d.ps.get i).left.wide.hi=p.left.wide.hi,(d.ps.get i).left.deep.lo=p.left.deep.lo,(d.ps.get i).left.deep.hi=p.left.deep.hi])++waa d++[cO=cO]++waa d++([cO=cO,E.1=E.1,E.2=E.2]++wad d)) (.asm (True) (.all (λ(g0:Nat->Value)=>.leaf (.tup (.nilp::.ptr 78 0 0::List.append (wbN d) ([vi (i64.wrap ((i:Int)+1))]))) ([(JH d),(K9 d),(JC d i),(32,.mp F.1 F.2)]))))))) (.leaf (.tup [.ptr 0 0 0,.ptr 78 0 0,.ptr 48 0 0]) ([(K9 d),(JC d i),(32,.mp E.1 E.2)])):=by kernel_rfl
noncomputable abbrev QGU(p:QY)(q:QY)(s:Nat):List AV:=
  (.ptr 8 0 0::.ptr 48 0 0::.slz 0 0 d.ps.n cO::vi (d.ps.n:Int)::vi (i:Int)::vi (i:Int)::.ptr 56 0 0::.slz 0 0 d.ps.n cO::.int false .i64 (d.ps.n:Int)::List.append (waw k p q s) ([vj 1]))
abbrev ve:List Prop:=
  ([0=0,0=0,0=0,0=0,0=0]++wbF d++[(i:Int)=(i:Int),(i:Int)=(i:Int),0=0,0=0,0=0]++wbF d)
abbrev QBW:List Prop:=
  [(k:Int)=(k:Int),(k:Int)=(k:Int),0=0,0=0]
abbrev X4:List Prop:=
  [p.up.kind=p.up.kind,p.up.at_.lo=p.up.at_.lo,p.up.at_.hi=p.up.at_.hi,p.up.wide.lo=p.up.wide.lo]
abbrev YJ:List Prop:=
  (waE p)
abbrev QCh:List Prop:=
  [(s:Int)=(s:Int),(s:Int)=(s:Int),0=0,0=0]
abbrev Zb:List Prop:=
  [q.up.kind=q.up.kind,q.up.at_.lo=q.up.at_.lo,q.up.at_.hi=q.up.at_.hi,q.up.wide.lo=q.up.wide.lo]
abbrev WI:List Prop:=
  (wa0 q)
abbrev waz(x:Edge):List Prop:=[x.at_.lo=x.at_.lo,x.at_.hi=x.at_.hi,x.wide.lo=x.wide.lo,x.wide.hi=x.wide.hi,x.deep.lo=x.deep.lo,x.deep.hi=x.deep.hi]
abbrev QE9:List Prop:=
  (waz x)
abbrev VA:List Prop:=
  ([d.pK.aK=d.pK.aK]++waC d++[0 =
  0,d.ps.n=d.ps.n,cO=cO])
theorem QgZ(E F:ECt)(p q:QY)(x:Edge)(i k s t t':Nat):QF 8 (QGU d i k p q s) (((JH d)::(K9 d)::(JC d i)::List.append (wau p q) ([(WK x),(32,.mp (JS [(i:Int),(s:Int),(k:Int),(t:Int)] (KX (i:Int) (s:Int) (k:Int) (t:Int)) (Value.int i64 (Kq d.pK x q.up).1) E.2 E.1) (clL [(i:Int),(s:Int),(k:Int),(t:Int)] E.2 E.1))]))) (Vs d F p q x i k s t')=(some ((ve d i)++(QBW k)++(X4 p)++(YJ p)++(QCh s)++(Zb q)++(WI q)++[(1:Int)=(t':Int),x.kind=x.kind]++(QE9 x) ++ (X4 p)++(YJ p)++(Zb q)++(WI q)++[d.pK.length=d.pK.length]++(VA d)++[d.pK.length=d.pK.length]++(VA d)++([JS [(i:Int),(s:Int),(k:Int),(t:Int)] (KX (i:Int) (s:Int) (k:Int) (t:Int)) (Value.int i64 (Kq d.pK x q.up).1) E.2 E.1=F.1,clL [(i:Int),(s:Int),(k:Int),(t:Int)] E.2 E.1=F.2]++wad d))):=by kernel_rfl
abbrev wac(q:QY):List Prop:=(waA q)
abbrev wa7(d:Puz):List Prop:=[d.ps.n<=d.ps.n,QB 28 d.ps.n (λi=>
  QA.enc (d.ps.get i)) λi=>QA.enc (d.ps.get i)]
abbrev QUi(E:ECt)(F:ECt)(d:Puz)(i:Nat)(k:Nat)(p:QY)(q:QY)(s:Nat)(t':Nat)(x:Edge):List Prop:=
  (((waZ d i k)++wab p++([(s:Int)=(s:Int),(s:Int)=(s:Int),0 =
  0,0=0]++wac q++[(1
  : Int)=(t':Int),x.kind=x.kind,x.at_.lo=x.at_.lo,x.at_.hi=x.at_.hi,x.wide.lo=x.wide.lo,x.wide.hi=x.wide.hi,x.deep.lo=x.deep.lo,x.deep.hi=x.deep.hi])++wab p++(wac q))++waa d++[cO=cO]++waa d++([cO=cO,E.1=F.1,E.2=F.2]++wa7 d))
theorem QXH(E F:ECt)(p q:QY)(x:Edge)(i k s t':Nat):QF 8 (QGU d i k p q s) ((Vw E d i p q x)) (Vs d F p q x i k s t')=(some (QUi E F d i k p q s t' x)):=by kernel_rfl
theorem Qif(E F:ECt)(p q:QY)(x:Edge)(i k s t':Nat):QF 8 (QGU d i k p q s) ((Vw E d i p q x)) (Vs d F p q x i k s t')=(some (QUi E F d i k p q s t' x)):=by kernel_rfl
noncomputable abbrev QG8(p:QY)(q:QY)(s:Nat):List AV:=
  (.ptr 8 0 0::.ptr 48 0 0::.slz 0 0 d.ps.n cO::vi (d.ps.n:Int)::vi (i:Int)::vi (i:Int)::.ptr 56 0 0::.slz 0 0 d.ps.n cO::.int false .i64 (d.ps.n:Int)::List.append (waw k p q s) ([vj 2]))
theorem QWH(E F:ECt)(p q:QY)(x:Edge)(i k s t t':Nat):QF 8 (QG8 d i k p q s) (((JH d)::(K9 d)::(JC d i)::List.append (wau p q) ([(WK x),(32,.mp (JS [(i:Int),(s:Int),(k:Int),(t:Int)] (KX (i:Int) (s:Int) (k:Int) (t:Int)) (Value.int i64 (Kq d.pK x q.right).1) E.2 E.1) (clL [(i:Int),(s:Int),(k:Int),(t:Int)] E.2 E.1))]))) (Vs d F p q x i k s t')=(some ((ve d i)++(QBW k)++(X4 p)++(YJ p)++(QCh s)++(Zb q)++(WI q)++[(2:Int)=(t':Int),x.kind=x.kind]++(QE9 x) ++ (X4 p)++(YJ p)++(Zb q)++(WI q)++[d.pK.length=d.pK.length]++(VA d)++[d.pK.length=d.pK.length]++(VA d)++([JS [(i:Int),(s:Int),(k:Int),(t:Int)] (KX (i:Int) (s:Int) (k:Int) (t:Int)) (Value.int i64 (Kq d.pK x q.right).1) E.2 E.1=F.1,clL [(i:Int),(s:Int),(k:Int),(t:Int)] E.2 E.1=F.2]++wad d))):=by kernel_rfl
abbrev QPE(E:ECt)(F:ECt)(d:Puz)(i:Nat)(k:Nat)(p:QY)(q:QY)(s:Nat)(t':Nat)(x:Edge):List Prop:=
  (((waZ d i k)++wab p++([(s:Int)=(s:Int),(s:Int)=(s:Int),0 =
  0,0=0]++wac q++([(2
  : Int)=(t':Int),x.kind=x.kind]++waz x))++wab p++(wac q))++waa d++[cO=cO]++waa d++([cO=cO,E.1=F.1,E.2=F.2]++wad d))
theorem QcY(E F:ECt)(p q:QY)(x:Edge)(i k s t':Nat):QF 8 (QG8 d i k p q s) ((Vw E d i p q x)) (Vs d F p q x i k s t')=(some (QPE E F d i k p q s t' x)):=by kernel_rfl
theorem QeM(E F:ECt)(p q:QY)(x:Edge)(i k s t':Nat):QF 8 (QG8 d i k p q s) ((Vw E d i p q x)) (Vs d F p q x i k s t')=(some (QPE E F d i k p q s t' x)):=by kernel_rfl
noncomputable abbrev QHc(p:QY)(q:QY)(s:Nat):List AV:=
  (.ptr 8 0 0::.ptr 48 0 0::.slz 0 0 d.ps.n cO::vi (d.ps.n:Int)::vi (i:Int)::vi (i:Int)::.ptr 56 0 0::.slz 0 0 d.ps.n cO::.int false .i64 (d.ps.n:Int)::List.append (waw k p q s) ([vj 3]))
theorem Qda(E F:ECt)(p q:QY)(x:Edge)(i k s t t':Nat):QF 8 (QHc d i k p q s) (((JH d)::(K9 d)::(JC d i)::List.append (wau p q) ([(WK x),(32,.mp (JS [(i:Int),(s:Int),(k:Int),(t:Int)] (KX (i:Int) (s:Int) (k:Int) (t:Int)) (Value.int i64 (Kq d.pK x q.down).1) E.2 E.1) (clL [(i:Int),(s:Int),(k:Int),(t:Int)] E.2 E.1))]))) (Vs d F p q x i k s t')=(some ((ve d i)++(QBW k)++(X4 p)++(YJ p)++(QCh s)++(Zb q)++(WI q)++[(3:Int)=(t':Int),x.kind=x.kind]++(QE9 x) ++ (X4 p)++(YJ p)++(Zb q)++(WI q)++[d.pK.length=d.pK.length]++(VA d)++[d.pK.length=d.pK.length]++(VA d)++([JS [(i:Int),(s:Int),(k:Int),(t:Int)] (KX (i:Int) (s:Int) (k:Int) (t:Int)) (Value.int i64 (Kq d.pK x q.down).1) E.2 E.1=F.1,clL [(i:Int),(s:Int),(k:Int),(t:Int)] E.2 E.1=F.2]++wad d))):=by kernel_rfl
abbrev QKb(E:ECt)(F:ECt)(d:Puz)(i:Nat)(k:Nat)(p:QY)(q:QY)(s:Nat)(t':Nat)(x:Edge):List Prop:=
  (((waZ d i k)++wab p++([(s:Int)=(s:Int),(s:Int)=(s:Int),0 =
  0,0=0]++wac q++([(3
  : Int)=(t':Int),x.kind=x.kind]++waz x))++wab p++(wac q))++waa d++[cO=cO]++waa d++([cO=cO,E.1=F.1,E.2=F.2]++wad d))
theorem Qd0(E F:ECt)(p q:QY)(x:Edge)(i k s t':Nat):QF 8 (QHc d i k p q s) ((Vw E d i p q x)) (Vs d F p q x i k s t')=(some (QKb E F d i k p q s t' x)):=by kernel_rfl
theorem Qii(E F:ECt)(p q:QY)(x:Edge)(i k s t':Nat):QF 8 (QHc d i k p q s) ((Vw E d i p q x)) (Vs d F p q x i k s t')=(some (QKb E F d i k p q s t' x)):=by kernel_rfl
noncomputable abbrev QHu(p:QY)(q:QY)(s:Nat):List AV:=
  (.ptr 8 0 0::.ptr 48 0 0::.slz 0 0 d.ps.n cO::vi (d.ps.n:Int)::vi (i:Int)::vi (i:Int)::.ptr 56 0 0::.slz 0 0 d.ps.n cO::.int false .i64 (d.ps.n:Int)::List.append (waw k p q s) ([vj 4]))
theorem QZd(E F:ECt)(p q:QY)(x:Edge)(i k s t t':Nat):QF 8 (QHu d i k p q s) (((JH d)::(K9 d)::(JC d i)::List.append (wau p q) ([(WK x),(32,.mp (JS [(i:Int),(s:Int),(k:Int),(t:Int)] (KX (i:Int) (s:Int) (k:Int) (t:Int)) (Value.int i64 (Kq d.pK x q.left).1) E.2 E.1) (clL [(i:Int),(s:Int),(k:Int),(t:Int)] E.2 E.1))]))) (Vs d F p q x i k s t')=(some ((ve d i)++(QBW k)++(X4 p)++(YJ p)++(QCh s)++(Zb q)++(WI q)++[(4:Int)=(t':Int),x.kind=x.kind]++(QE9 x) ++ (X4 p)++(YJ p)++(Zb q)++(WI q)++[d.pK.length=d.pK.length]++(VA d)++[d.pK.length=d.pK.length]++(VA d)++([JS [(i:Int),(s:Int),(k:Int),(t:Int)] (KX (i:Int) (s:Int) (k:Int) (t:Int)) (Value.int i64 (Kq d.pK x q.left).1) E.2 E.1=F.1,clL [(i:Int),(s:Int),(k:Int),(t:Int)] E.2 E.1=F.2]++wad d))):=by kernel_rfl
abbrev QQY(E:ECt)(F:ECt)(d:Puz)(i:Nat)(k:Nat)(p:QY)(q:QY)(s:Nat)(t':Nat)(x:Edge):List Prop:=
  (((waZ d i k)++wab p++([(s:Int)=(s:Int),(s:Int)=(s:Int),0 =
  0,0=0]++wac q++([(4
  : Int)=(t':Int),x.kind=x.kind]++waz x))++wab p++(wac q))++waa d++[cO=cO]++waa d++([cO=cO,E.1=F.1,E.2=F.2]++wad d))
theorem QZ1(E F:ECt)(p q:QY)(x:Edge)(i k s t':Nat):QF 8 (QHu d i k p q s) ((Vw E d i p q x)) (Vs d F p q x i k s t')=(some (QQY E F d i k p q s t' x)):=by kernel_rfl
theorem Qiq(E F:ECt)(p q:QY)(x:Edge)(i k s t':Nat):QF 8 (QHu d i k p q s) ((Vw E d i p q x)) (Vs d F p q x i k s t')=(some (QQY E F d i k p q s t' x)):=by kernel_rfl
theorem Qfb(E F:ECt)(p q:QY)(i k s:Nat):QF 8 (.ptr 8 0 0::.ptr 48 0 0::.slz 0 0 d.ps.n cO::List.append (wax d i) ([.slz 0 0 d.ps.n cO,vi (d.ps.n:Int),vi (k:Int),vi (k:Int),.ptr 64 0 0,.agg (Kr p),vi (s:Int)])) (((JH d)::(K9 d)::(JC d i)::List.append (wau p q) ([(32,.mp E.1 E.2)]))) (QF8 d F p q i k s)=(some ((ve d i)++(QBW k)++(X4 p)++(YJ p)++[(s:Int)=(s:Int)]++(X4 p)++(YJ p)++(Zb q)++(WI q)++[d.pK.length=d.pK.length]++(VA d)++[d.pK.length=d.pK.length]++(VA d)++([E.1=F.1,E.2=F.2]++wad d))):=by kernel_rfl
noncomputable abbrev QFm(p:QY)(s:Nat):List AV:=
  (.ptr 8 0 0::.ptr 48 0 0::.slz 0 0 d.ps.n cO::List.append (wax d i) ([.slz 0 0 d.ps.n cO,.int false .i64 (d.ps.n:Int),vi (k:Int),vi (k:Int),.ptr 64 0 0,.agg (Kr p),vi (i64.wrap ((s:Int)+1))]))
abbrev QEy(F:ECt)(F':ECt)(d:Puz)(i:Nat)(k:Nat)(p:QY)(q:QY)(s:Nat)(s':Nat):List Prop:=
  (((waZ d i k)++wab p++[i64.wrap ((s:Int)+1)=(s':Int)]++wab p++(wac q))++waa d++[cO=cO]++waa d++([cO=cO,F.1=F'.1,F.2=F'.2]++wad d))
theorem Qhy(F F':ECt)(p q:QY)(i k s s':Nat):QF 8 (QFm d i k p s) (((JH d)::(K9 d)::(JC d i)::List.append (wau p q) ([(32,.mp F.1 F.2)]))) (W8 d F' p q i k s')=(some (QEy F F' d i k p q s s')):=by kernel_rfl
theorem QiE(F F':ECt)(p q:QY)(i k s s':Nat):QF 8 (QFm d i k p s) (((JH d)::(K9 d)::(JC d i)::List.append (wau p q) ([(32,.mp F.1 F.2)]))) (W8 d F' p q i k s')=(some (QEy F F' d i k p q s s')):=by kernel_rfl
theorem QVx(F F':ECt)(p q:QY)(i k s s':Nat):QF 8 (QFm d i k p s) (((JH d)::(K9 d)::(JC d i)::List.append (wau p q) ([(32,.mp F.1 F.2)]))) (W8 d F' p q i k s')=(some (QEy F F' d i k p q s s')):=by kernel_rfl
theorem QVO(F F':ECt)(p q:QY)(i k s s':Nat):QF 8 (QFm d i k p s) (((JH d)::(K9 d)::(JC d i)::List.append (wau p q) ([(32,.mp F.1 F.2)]))) (W8 d F' p q i k s')=(some (QEy F F' d i k p q s s')):=by kernel_rfl
theorem QYU(E F':ECt)(p:QY)(i k:Nat):QF 8 (.ptr 8 0 0::.ptr 48 0 0::.slz 0 0 d.ps.n cO::List.append (wax d i) ([.slz 0 0 d.ps.n cO,vi (d.ps.n:Int),vi (k:Int)])) ([(JH d),(K9 d),(JC d i),(56,.cells 7 70 (Kr p)),(32,.mp E.1 E.2)]) (QHk d F' p i k)=(some ((ve d i)++[(k:Int)=(k:Int)]++(X4 p)++(YJ p)++[d.pK.length=d.pK.length]++(VA d)++[d.pK.length=d.pK.length]++(VA d)++([E.1=F'.1,E.2=F'.2]++wad d))):=by kernel_rfl
theorem Qgs(F F':ECt)(p:QY)(i k k':Nat):QF 8 (.ptr 8 0 0::.ptr 48 0 0::.slz 0 0 d.ps.n cO::List.append (wax d i) ([.slz 0 0 d.ps.n cO,vi (d.ps.n:Int),vi (i64.wrap ((k:Int)+1))])) ([(JH d),(K9 d),(JC d i),(56,.cells 7 70 (Kr p)),(32,.mp F.1 F.2)]) (QBe d F' p i k')=(some ((ve d i)++[i64.wrap ((k:Int)+1)=(k':Int)]++(X4 p)++(YJ p)++[d.pK.length=d.pK.length]++(VA d) ++ [d.pK.length=d.pK.length]++(VA d)++([F.1=F'.1,F.2=F'.2]++wad d))):=by kernel_rfl
abbrev QMk:List Prop:=
  [0=0,0=0,0=0,0=0]
theorem QiX(E F':ECt)(i:Nat):QF 8 (List.append (wbN d) ([vi (i:Int)])) ([(JH d),(K9 d),(JC d i),(32,.mp E.1 E.2)]) (QGs d F' i)=(some (QMk++([0=0]++wbF d++[(i:Int)=(i:Int),d.pK.length=d.pK.length])++(VA d) ++ [d.pK.length=d.pK.length]++(VA d)++([E.1=F'.1,E.2=F'.2]++wad d))):=by kernel_rfl
theorem QgA(F F':ECt)(i i':Nat):QF 8 (List.append (wbN d) ([vi (i64.wrap ((i:Int)+1))])) ([(JH d),(K9 d),(JC d i), (32,.mp F.1 F.2)]) (QAU d F' i')=(some (QMk++([0=0]++wbF d++[i64.wrap ((i:Int)+1)=(i':Int),d.pK.length=d.pK.length])++(VA d)++[d.pK.length=d.pK.length]++(VA d)++([F.1=F'.1,F.2=F'.2]++wad d))):=by kernel_rfl
theorem QYv(E F':ECt):QF 8 [.ptr 48 0 0] ([(K9 d),(0,.frz QUF d.ps.n λi=>QA.enc (d.ps.get i)),(32,.mp E.1 E.2)]) (QHb d F')=(some ([0=0,0=0,d.pK.length=d.pK.length] ++ (VA d)++([E.1=F'.1,E.2=F'.2]++wad d))):=by kernel_rfl
