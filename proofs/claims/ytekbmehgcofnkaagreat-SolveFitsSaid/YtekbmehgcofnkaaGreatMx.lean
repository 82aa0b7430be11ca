/- - -/
import Derived.Test.YtekbmehgcofnkaaGreatMw
open Go.Proofs.Tryz
open Go.IntKind (i64)
set_option maxRecDepth 100000
namespace Go.Proofs.YtekbmehgcofnkaaGreat
open Go.SX Go.SX.Told
abbrev ECt:=List MapEntry×Nat
variable (d:Puz)(p:QW)(i:Nat)(q:QW)(k:Nat)(x:Edge)(s:Nat)
def Vs:Edge:=match s with
 | 0=>p.up
 | 1=>p.right
 | 2=>p.down
 | _=>p.left
def QRW:List AV:=KR d++[.map 32,.nils]
def nbB(E:ECt):List (Nat×Blk):=[(8,.cells 0 28 (KR d)),(48,.cells 0 152 (QRW d)),(32,.mp E.1 E.2)]++Ql.blk 0 d.ps
def QGv:List (Nat×AV):=[(1,.ptr 8 0 0),(3,.ptr 48 0 0),(19,.slz 0 0 d.ps.n (.of 0)),(20,.int false .i64 d.ps.n),(21,.int false .i64 i)]
def QIl:List (Nat×AV):=QGv d i++[(4,.int false .i64 i),(5,.ptr 56 0 0),(27,.slz 0 0 d.ps.n (.of 0)),(28,.int false .i64 d.ps.n),(29,.int false .i64 k)]
def QHC(p:QW)(s:Nat):List (Nat×AV):=QIl d i k++[(6,.int false .i64 k),(7,.ptr 64 0 0),(35,Enc.enc p),(36,.int false .i64 s)]
def QcE(p q:QW)(s t:Nat):List (Nat×AV):=QHC d i k p s++[(8,.int false .i64 s),(9,.ptr 72 0 0),(41,Enc.enc q),(42,.int false .i64 t)]
def pcB(id:Nat)(p:QW):Nat×Blk:=(id,.cells 7 70 (Enc.enc p).cells)
def edB(id:Nat)(x:Edge):Nat×Blk:=(id,.cells 0 55 (Enc.enc x).cells)
def QBI(E:ECt)(i:Nat):JSt:=⟨78,QGv d i,nbB d E,104⟩
def QIr(E:ECt):JSt:=⟨78,[(3,.ptr 48 0 0)],[(48,.cells 0 152 (QRW d)),(32,.mp E.1 E.2)]++Ql.blk 0 d.ps,104⟩
def QAq(E:ECt)(p:QW)(i k:Nat):JSt:=⟨78,QIl d i k,pcB 56 p::nbB d E,104⟩
def QGt(E:ECt)(i:Nat):JSt:=⟨78,QGv d i,nbB d E,104⟩
def WG(E:ECt)(p q:QW)(i k s:Nat):JSt:=⟨78,QHC d i k p s,pcB 56 p::pcB 64 q::nbB d E,104⟩
def QFT(E:ECt)(p:QW)(i k:Nat):JSt:=⟨78,QIl d i k,pcB 56 p::nbB d E,104⟩
def VQ(E:ECt)(p q:QW)(x:Edge)(i k s t:Nat):JSt:=⟨78,QcE d i k p q s t,edB 72 x::pcB 56 p::pcB 64 q::nbB d E,104⟩
def QHi(E:ECt)(p q:QW)(i k s:Nat):JSt:=⟨78,QHC d i k p s,pcB 56 p::pcB 64 q::nbB d E,104⟩
def QKQ:List Nat:=[1,3,19,20,21]
def QOy:List Nat:=[1,3,19,20,21,4,5,27,28,29]
def QO4:List Nat:=[1,3,19,20,21,4,5,27,28,29,6,7,35,36]
def QTp:List Nat:=[1,3,19,20,21,4,5,27,28,29,6,7,35,36,8,9,41,42]
def QPR:Ex->List Nat
 | .normal=>QKQ
 | .exit _=>[3]
 | .ret=>[]
def QOX:Ex->List Nat
 | .normal=>QOy
 | .exit _=>QKQ
 | .ret=>[]
def QJm:Ex->List Nat
 | .normal=>QO4
 | .exit _=>QOy
 | .ret=>[]
def QLk:Ex->List Nat
 | .normal=>QTp
 | .exit _=>QO4
 | .ret=>[]
noncomputable abbrev Kd:List AV:=
  ((Enc.enc (p:QW)).cells)
noncomputable abbrev K2:List AV:=
  ((Enc.enc (q:QW)).cells)
noncomputable abbrev waD(k:Nat)(p:QW)(q:QW)(s:Nat):List AV:=[vi (k:Int),vi (k:Int),.ptr 64 0 0,.agg (Kd p),vi (s:Int),vi (s :
  Int),.ptr 72 0 0,.agg (K2 q)]
noncomputable abbrev QH3(p:QW)(q:QW)(s:Nat):List AV:=
  (.nilp::.ptr 78 0 0::.ptr 8 0 0::.ptr 48 0 0::.slz 0 0 d.ps.n cO::vi (d.ps.n:Int)::vi (i:Int)::vi (i:Int)::.ptr 56 0 0::.slz 0 0
  d.ps.n cO::vi (d.ps.n:Int)::List.append (waD k p q s) ([vj 1]))
noncomputable abbrev K3:Nat×Blk:=
  (8,.cells 0 28 (waf d))
noncomputable abbrev Kv:Nat×Blk:=
  (48,.cells 0 152 (List.append (waf d) ([.map 32,.nils])))
abbrev QPi:List CK:=
  (List.append (waa) ((List.append (waG) ((List.append (wbk) ([.int .i64]))))))
noncomputable abbrev Kx(i:Nat):Nat×Blk:=
  (0,.frz QPi d.ps.n λi=>QA.enc (d.ps.get i))
noncomputable abbrev Zw:Nat×Blk:=
  (72,.cells 0 55 [vi x.kind,vi x.at_.lo,vi x.at_.hi,vi x.wide.lo,vi x.wide.hi,vi x.deep.lo,.int
  false .i64 x.deep.hi])
noncomputable abbrev waB(p:QW)(q:QW):List (Nat×Blk):=[(56,.cells 7 70 (Kd p)),(64,.cells 7 70 (K2 q))]
noncomputable abbrev VY(E:ECt)(d:Puz)(i:Nat)(p:QW)(q:QW)(x:Edge):List (Nat×Blk):=
  ((K3 d)::(Kv d)::(Kx d i)::List.append (waB p q) ([(Zw x),(32,.mp E.1 E.2)]))
noncomputable abbrev QGG(p:QW)(q:QW)(s:Nat):List AV:=
  (.nilp::.ptr 78 0 0::.ptr 8 0 0::.ptr 48 0 0::.slz 0 0 d.ps.n cO::vi (d.ps.n:Int)::vi (i:Int)::vi (i:Int)::.ptr 56 0 0::.slz 0 0
  d.ps.n cO::vi (d.ps.n:Int)::List.append (waD k p q s) ([vj 2]))
noncomputable abbrev QIf(p:QW)(q:QW)(s:Nat):List AV:=
  (.nilp::.ptr 78 0 0::.ptr 8 0 0::.ptr 48 0 0::.slz 0 0 d.ps.n cO::vi (d.ps.n:Int)::vi (i:Int)::vi (i:Int)::.ptr 56 0 0::.slz 0 0
  d.ps.n cO::vi (d.ps.n:Int)::List.append (waD k p q s) ([vj 3]))
noncomputable abbrev QHy(p:QW)(q:QW)(s:Nat):List AV:=
  (.nilp::.ptr 78 0 0::.ptr 8 0 0::.ptr 48 0 0::.slz 0 0 d.ps.n cO::vi (d.ps.n:Int)::vi (i:Int)::vi (i:Int)::.ptr 56 0 0::.slz 0 0
  d.ps.n cO::vi (d.ps.n:Int)::List.append (waD k p q s) ([vj 4]))
noncomputable abbrev waE(d:Puz)(i:Nat):List AV:=[vi (d.ps.n:Int),vi (i:Int),vi (i:Int),.ptr 56 0 0]
theorem QWU(E:ECt)(p q:QW)(x:Edge)(i k s t:Nat)(g:Nat->Value):exec (mkF prog KF) (hnd (mkF prog KF) 1) (QS (QS (QS (QJ f60 0)))) (JSt.inst (VQ d E p q x i k s t) g) (Q9 [] QLk) = .br (decide ((t:Int)<4)) (.need (decide ((0:Int)<=(t:Int)/\(t:Int)<4)) (.br (decide ((t:Int)=0)) (.need (true) (.br ((i:Int) != (k:Int)) (.br ((JJ d.pK x q.up).1 != 0) (.need (wf4 i64 E.1) (.leaf (.tup (QH3 d i k p q s)) (((K3 d)::(Kv d)::(Kx d i)::List.append (waB p q) ([(Zw x),(32,.mp (JA [(i:Int),(s:Int),(k:Int),(t:Int)] (KK (i:Int) (s:Int) (k:Int) (t:Int)) (Value.int i64 (JJ d.pK x q.up).1) E.2 E.1) (clL [(i:Int),(s:Int),(k:Int),(t:Int)] E.2 E.1))]))))) (.leaf (.tup (QH3 d i k p q s)) ((VY E d i p q x)))) (.leaf (.tup (QH3 d i k p q s)) ((VY E d i p q x))))) (.br (decide ((t:Int)=1)) (.need (true) (.br ((i:Int) != (k:Int)) (.br ((JJ d.pK x q.right).1 != 0) (.need (wf4 i64 E.1) (.leaf (.tup (QGG d i k p q s)) (((K3 d)::(Kv d)::(Kx d i)::List.append (waB p q) ([(Zw x),(32,.mp (JA [(i:Int),(s:Int),(k:Int),(t:Int)] (KK (i:Int) (s:Int) (k:Int) (t:Int)) (Value.int i64 (JJ d.pK x q.right).1) E.2 E.1) (clL [(i:Int),(s:Int),(k:Int),(t:Int)] E.2 E.1))]))))) (.leaf (.tup (QGG d i k p q s)) ((VY E d i p q x)))) (.leaf (.tup (QGG d i k p q s)) ((VY E d i p q x))))) (.br (decide ((t:Int)=2)) (.need (true) (.br ((i:Int) != (k:Int)) (.br ((JJ d.pK x q.down).1 != 0) (.need (wf4 i64 E.1) (.leaf (.tup (QIf d i k p q s)) (((K3 d)::(Kv d)::(Kx d i)::List.append (waB p q) ([(Zw x),(32,.mp (JA [(i:Int),(s:Int),(k:Int),(t:Int)] (KK (i:Int) (s:Int) (k:Int) (t:Int)) (Value.int i64 (JJ d.pK x q.down).1) E.2 E.1) (clL [(i:Int),(s:Int),(k:Int),(t:Int)] E.2 E.1))]))))) (.leaf (.tup (QIf d i k p q s)) ((VY E d i p q x)))) (.leaf (.tup (QIf d i k p q s)) ((VY E d i p q x))))) (.need (true) (.br ((i:Int) != (k:Int)) (.br ((JJ d.pK x q.left).1 != 0) (.need (wf4 i64 E.1) (.leaf (.tup (QHy d i k p q s)) (((K3 d)::(Kv d)::(Kx d i)::List.append (waB p q) ([(Zw x),(32,.mp (JA [(i:Int),(s:Int),(k:Int),(t:Int)] (KK (i:Int) (s:Int) (k:Int) (t:Int)) (Value.int i64 (JJ d.pK x q.left).1) E.2 E.1) (clL [(i:Int),(s:Int),(k:Int),(t:Int)] E.2 E.1))]))))) (.leaf (.tup (QHy d i k p q s)) ((VY E d i p q x)))) (.leaf (.tup (QHy d i k p q s)) ((VY E d i p q x))))))))) (.leaf (.tup (.ptr 6 0 0::.ptr 78 0 0::.ptr 8 0 0::.ptr 48 0 0::.slz 0 0 d.ps.n cO::List.append (waE d i) ([.slz 0 0 d.ps.n cO,vi (d.ps.n:Int),vi (k:Int),vi (k:Int),.ptr 64 0 0,.agg (Kd p),vi (s:Int)]))) (((K3 d)::(Kv d)::(Kx d i)::List.append (waB p q) ([(32,.mp E.1 E.2)])))):=by kernel_rfl
abbrev QHh(P:Program)(d:Puz)(E F:ECt)(p q:QW)(x:Edge)(i k s:Nat):Hnd:={ hnd (mkF P KF) 1 with loop:=λ_=>KE 8 [] (VQ d E p q x i k s (0:Nat)) [(True,.exit 6,QHi d F p q i k s)] }
noncomputable abbrev QCN(p:QW)(s:Nat):List AV:=
  (.nilp::.ptr 78 0 0::.ptr 8 0 0::.ptr 48 0 0::.slz 0 0 d.ps.n cO::List.append (waE d i) ([.slz 0 0
  d.ps.n cO,vi (d.ps.n:Int),vi (k:Int),vi (k:Int),.ptr 64 0 0,.agg (Kd p),vi (i64.wrap ((s:Int) +
  1))]))
abbrev waU(p:QW):List Prop:=[p.up.wide.hi=p.up.wide.hi,p.up.deep.lo=p.up.deep.lo,p.up.deep.hi=p.up.deep.hi,p.right.kind=p.right.kind,p.right.at_.lo=p.right.at_.lo,p.right.at_.hi=p.right.at_.hi,p.right.wide.lo=p.right.wide.lo,p.right.wide.hi=p.right.wide.hi,p.right.deep.lo=p.right.deep.lo,p.right.deep.hi=p.right.deep.hi,p.down.kind=p.down.kind,p.down.at_.lo=p.down.at_.lo,p.down.at_.hi=p.down.at_.hi,p.down.wide.lo=p.down.wide.lo,p.down.wide.hi=p.down.wide.hi,p.down.deep.lo=p.down.deep.lo,p.down.deep.hi=p.down.deep.hi,p.left.kind=p.left.kind,p.left.at_.lo=p.left.at_.lo,p.left.at_.hi=p.left.at_.hi,p.left.wide.lo=p.left.wide.lo,p.left.wide.hi=p.left.wide.hi,p.left.deep.lo=p.left.deep.lo,p.left.deep.hi=p.left.deep.hi]
abbrev wac(p:QW):List Prop:=([p.up.kind=p.up.kind,p.up.at_.lo=p.up.at_.lo,p.up.at_.hi=p.up.at_.hi,p.up.wide.lo=p.up.wide.lo]++waU p)
abbrev wbu(q:QW):List Prop:=[q.up.wide.hi=q.up.wide.hi,q.up.deep.lo=q.up.deep.lo,q.up.deep.hi=q.up.deep.hi,q.right.kind=q.right.kind,q.right.at_.lo=q.right.at_.lo,q.right.at_.hi=q.right.at_.hi,q.right.wide.lo=q.right.wide.lo,q.right.wide.hi=q.right.wide.hi,q.right.deep.lo=q.right.deep.lo,q.right.deep.hi=q.right.deep.hi,q.down.kind=q.down.kind,q.down.at_.lo=q.down.at_.lo,q.down.at_.hi=q.down.at_.hi,q.down.wide.lo=q.down.wide.lo,q.down.wide.hi=q.down.wide.hi,q.down.deep.lo=q.down.deep.lo,q.down.deep.hi=q.down.deep.hi,q.left.kind=q.left.kind,q.left.at_.lo=q.left.at_.lo,q.left.at_.hi=q.left.at_.hi,q.left.wide.lo=q.left.wide.lo,q.left.wide.hi=q.left.wide.hi,q.left.deep.lo=q.left.deep.lo,q.left.deep.hi=q.left.deep.hi]
abbrev waH(q:QW):List Prop:=([q.up.kind=q.up.kind,q.up.at_.lo=q.up.at_.lo,q.up.at_.hi=q.up.at_.hi,q.up.wide.lo=q.up.wide.lo]++wbu q)
abbrev wbl(d:Puz)(i:Nat)(k:Nat):List Prop:=([0=0,0=0,0=0,0=0,0=0]++wcI d++[(i:Int)=(i:Int),(i:Int)=(i:Int),0=0,0=0,0=0]++wcI d++[(k:Int)=(k:Int),(k:Int)=(k:Int),0=0,0=0])
abbrev wcs(d:Puz):List Prop:=[d.ps.n<=d.ps.n,QB 28 d.ps.n (λi=>QA.enc (d.ps.get i)) λi=>QA.enc (d.ps.get i)]
noncomputable abbrev wcJ(d:Puz):List AV:=[.ptr 8 0 0,.ptr 48 0 0,.slz 0 0 d.ps.n cO,vi (d.ps.n:Int)]
noncomputable abbrev wcR(F:ECt)(p:QW)(q:QW):List (Nat×Blk):=[(56,.cells 7 70 (Kd p)),(64,.cells 7 70 (K2 q)),(32,.mp F.1 F.2)]
theorem Qcl(E F:ECt)(p q:QW)(x:Edge)(i k s:Nat)(g:Nat->Value):exec (mkF prog KF) (QHh prog d E F p q x i k s) (QS (QS (QJ f60 0))) (JSt.inst (WG d E p q i k s) g) (Q9 [] QJm) = .br (decide ((s:Int)<4)) (.need (decide ((0:Int)<=(s:Int)/\(s:Int)<4)) (.br (decide ((s:Int)=0)) (.ak (((wbl d i k)++wac p++([(0:Int)=(s:Int),(s:Int)=(s:Int),0=0,0=0]++waH q++[(0:Int)=0,p.up.kind=x.kind,p.up.at_.lo=x.at_.lo,p.up.at_.hi=x.at_.hi,p.up.wide.lo=x.wide.lo,p.up.wide.hi=x.wide.hi,p.up.deep.lo=x.deep.lo,p.up.deep.hi=x.deep.hi])++wac p++(waH q))++wab d++[cO=cO]++wab d++([cO=cO,E.1=E.1,E.2=E.2]++wcs d)) (.asm (True) (.all (λ(g0:Nat->Value)=>.leaf (.tup (QCN d i k p s)) (((K3 d)::(Kv d)::(Kx d i)::wcR F p q)))))) (.br (decide ((s:Int)=1)) (.ak (((wbl d i k)++wac p++([(1:Int)=(s:Int),(s:Int)=(s:Int),0=0,0=0]++waH q++[(0:Int)=0,p.right.kind=x.kind,p.right.at_.lo=x.at_.lo,p.right.at_.hi=x.at_.hi,p.right.wide.lo=x.wide.lo,p.right.wide.hi=x.wide.hi,p.right.deep.lo=x.deep.lo,p.right.deep.hi=x.deep.hi])++wac p++(waH q))++wab d++[cO=cO]++wab d++([cO=cO,E.1=E.1,E.2=E.2]++wcs d)) (.asm (True) (.all (λ(g1:Nat->Value)=>.leaf (.tup (QCN d i k p s)) (((K3 d)::(Kv d)::(Kx d i)::wcR F p q)))))) (.br (decide ((s:Int)=2)) (.ak (((wbl d i k)++wac p++([(2:Int)=(s:Int),(s:Int)=(s:Int),0=0,0=0]++waH q++[(0:Int)=0,p.down.kind=x.kind,p.down.at_.lo=x.at_.lo,p.down.at_.hi=x.at_.hi,p.down.wide.lo=x.wide.lo,p.down.wide.hi=x.wide.hi,p.down.deep.lo=x.deep.lo,p.down.deep.hi=x.deep.hi])++wac p++(waH q))++wab d++[cO=cO]++wab d++([cO=cO,E.1=E.1,E.2=E.2]++wcs d)) (.asm (True) (.all (λ(g2:Nat->Value)=>.leaf (.tup (QCN d i k p s)) (((K3 d)::(Kv d)::(Kx d i)::wcR F p q)))))) (.ak (((wbl d i k)++wac p++([(3:Int)=(s:Int),(s:Int)=(s:Int),0=0,0=0]++waH q++[(0:Int)=0,p.left.kind=x.kind,p.left.at_.lo=x.at_.lo,p.left.at_.hi=x.at_.hi,p.left.wide.lo=x.wide.lo,p.left.wide.hi=x.wide.hi,p.left.deep.lo=x.deep.lo,p.left.deep.hi=x.deep.hi])++wac p++(waH q))++wab d++[cO=cO]++wab d++([cO=cO,E.1=E.1,E.2=E.2]++wcs d)) (.asm (True) (.all (λ(g3:Nat->Value)=>.leaf (.tup (QCN d i k p s)) (((K3 d)::(Kv d)::(Kx d i)::wcR F p q)))))))))) (.leaf (.tup (.ptr 4 0 0::.ptr 78 0 0::List.append (wcJ d) ([vi (i:Int),vi (i:Int),.ptr 56 0 0,.slz 0 0 d.ps.n cO,vi (d.ps.n:Int),vi (k:Int)]))) ([(K3 d),(Kv d),(Kx d i),(56,.cells 7 70 (Kd p)),(32,.mp E.1 E.2)])):=by kernel_rfl
abbrev QH6(P:Program)(d:Puz)(E F:ECt)(p q:QW)(i k:Nat):Hnd:={ hnd (mkF P KF) 1 with loop:=λ_=>JI (k<d.ps.n) (KE 8 [] (WG d E p q i k (0:Nat)) [(True,.exit 4,QFT d F p i k)]) }
theorem QTq(E F:ECt)(p q:QW)(i k:Nat)(g:Nat->Value):exec (mkF prog KF) (QH6 prog d E F p q i k) (QS (QJ f60 0)) (JSt.inst (QAq d E p i k) g) (Q9 [] QOX) = .br (decide ((k:Int)<(d.ps.n:Int))) (.need (decide ((0:Int)<=(k:Int)/\(k:Int)<(d.ps.n:Int))&&decide (d.ps.n<=d.ps.n)) (.need (decide (k<d.ps.n)) (.ak ((([k<d.ps.n]++wbl d i k)++wac p++[(0:Int)=0]++wac p++[(d.ps.get k).up.kind=q.up.kind,(d.ps.get k).up.at_.lo=q.up.at_.lo,(d.ps.get k).up.at_.hi=q.up.at_.hi,(d.ps.get k).up.wide.lo=q.up.wide.lo,(d.ps.get k).up.wide.hi=q.up.wide.hi,(d.ps.get k).up.deep.lo=q.up.deep.lo,(d.ps.get k).up.deep.hi=q.up.deep.hi,(d.ps.get k).right.kind=q.right.kind,(d.ps.get k).right.at_.lo=q.right.at_.lo,(d.ps.get k).right.at_.hi=q.right.at_.hi,(d.ps.get k).right.wide.lo=q.right.wide.lo,(d.ps.get k).right.wide.hi=q.right.wide.hi,(d.ps.get k).right.deep.lo=q.right.deep.lo,(d.ps.get k).right.deep.hi=q.right.deep.hi,(d.ps.get k).down.kind=q.down.kind,(d.ps.get k).down.at_.lo=q.down.at_.lo,(d.ps.get k).down.at_.hi=q.down.at_.hi,(d.ps.get k).down.wide.lo=q.down.wide.lo,(d.ps.get k).down.wide.hi=q.down.wide.hi,(d.ps.get k).down.deep.lo=q.down.deep.lo,(d.ps.get k).down.deep.hi=q.down.deep.hi,(d.ps.get k).left.kind=q.left.kind,(d.ps.get k).left.at_.lo=q.left.at_.lo,(d.ps.get k).left.at_.hi=q.left.at_.hi,(d.ps.get k).left.wide.lo=q.left.wide.lo,(d.ps.get k).left.wide.hi=q.left.wide.hi,(d.ps.get k).left.deep.lo=q.left.deep.lo,(d.ps.get k).left.deep.hi=q.left.deep.hi])++wab d++[cO=cO]++wab d++([cO=cO,E.1=E.1,E.2=E.2]++wae d)) (.asm (True) (.all (λ(g0:Nat -> Value)=>.leaf (.tup (.nilp::.ptr 78 0 0::.ptr 8 0 0::.ptr 48 0 0::.slz 0 0 d.ps.n cO::List.append (waE d i) ([.slz 0 0 d.ps.n cO,vi (d.ps.n:Int),vi (i64.wrap ((k:Int)+1))]))) ([(K3 d),(Kv d),(Kx d i),(56,.cells 7 70 (Kd p)),(32,.mp F.1 F.2)]))))))) (.leaf (.tup (.ptr 2 0 0::.ptr 78 0 0::List.append (wcJ d) ([vi (i:Int)]))) ([(K3 d),(Kv d),(Kx d i),(32,.mp E.1 E.2)])):=by kernel_rfl
abbrev QFU(P:Program)(d:Puz)(E F:ECt)(p:QW)(i:Nat):Hnd:={ hnd (mkF P KF) 1 with loop:=λ_=>JI (i<d.ps.n) (KE 8 [] (QAq d E p i (0:Nat)) [(True,.exit 2,QGt d F i)]) }
theorem QXr(E F:ECt)(p:QW)(i:Nat)(g:Nat->Value):exec (mkF prog KF) (QFU prog d E F p i) (QJ f60 0) (JSt.inst (QBI d E i) g) (Q9 [] QPR) = .br (decide ((i:Int)<(d.ps.n:Int))) (.need (decide ((0:Int)<=(i:Int)/\(i:Int)<(d.ps.n:Int))&&decide (d.ps.n<=d.ps.n)) (.need (decide (i<d.ps.n)) (.ak (([i<d.ps.n,0=0,0=0,0=0,0=0,0=0]++wcI d++[(i:Int)=(i:Int),(i:Int)=(i:Int),0=0,0=0,0=0]++wcI d++[(0:Int)=0,(d.ps.get i).up.kind=p.up.kind,(d.ps.get i).up.at_.lo=p.up.at_.lo,(d.ps.get i).up.at_.hi=p.up.at_.hi,(d.ps.get i).up.wide.lo=p.up.wide.lo,(d.ps.get i).up.wide.hi=p.up.wide.hi,(d.ps.get i).up.deep.lo=p.up.deep.lo,(d.ps.get i).up.deep.hi=p.up.deep.hi,(d.ps.get i).right.kind=p.right.kind,(d.ps.get i).right.at_.lo=p.right.at_.lo,(d.ps.get i).right.at_.hi=p.right.at_.hi,(d.ps.get i).right.wide.lo=p.right.wide.lo,(d.ps.get i).right.wide.hi=p.right.wide.hi,(d.ps.get i).right.deep.lo=p.right.deep.lo,(d.ps.get i).right.deep.hi=p.right.deep.hi,(d.ps.get i).down.kind=p.down.kind,(d.ps.get i).down.at_.lo=p.down.at_.lo,(d.ps.get i).down.at_.hi=p.down.at_.hi,(d.ps.get i).down.wide.lo=p.down.wide.lo,(d.ps.get i).down.wide.hi=p.down.wide.hi,(d.ps.get i).down.deep.lo=p.down.deep.lo,(d.ps.get i).down.deep.hi=p.down.deep.hi,(d.ps.get i).left.kind=p.left.kind,(d.ps.get i).left.at_.lo=p.left.at_.lo,(d.ps.get i).left.at_.hi=p.left.at_.hi,(d.ps.get i).left.wide.lo=p.left.wide.lo,(d.ps.get i).left.wide.hi=p.left.wide.hi,(d.ps.get i).left.deep.lo=p.left.deep.lo,(d.ps.get i).left.deep.hi=p.left.deep.hi])++wab d++[cO=cO]++wab d++([cO=cO,E.1=E.1,E.2=E.2]++wae d)) (.asm (True) (.all (λ(g0:Nat->Value)=>.leaf (.tup (.nilp::.ptr 78 0 0::List.append (wcJ d) ([vi (i64.wrap ((i:Int)+1))]))) ([(K3 d),(Kv d),(Kx d i),(32,.mp F.1 F.2)]))))))) (.leaf (.tup [.ptr 0 0 0,.ptr 78 0 0,.ptr 48 0 0]) ([(Kv d),(Kx d i),(32,.mp E.1 E.2)])):=by kernel_rfl
noncomputable abbrev QFK(p:QW)(q:QW)(s:Nat):List AV:=
  (.ptr 8 0 0::.ptr 48 0 0::.slz 0 0 d.ps.n cO::vi (d.ps.n:Int)::vi (i:Int)::vi (i:Int)::.ptr 56 0 0::.slz 0 0 d.ps.n cO::.int false .i64 (d.ps.n:Int)::List.append (waD k p q s) ([vj 1]))
abbrev qz:List Prop:=
  ([0=0,0=0,0=0,0=0,0=0]++wcI d++[(i:Int)=(i:Int),(i:Int)=(i:Int),0=0,0=0,0=0]++wcI d)
abbrev HQ:List Prop:=
  [(k:Int)=(k:Int),(k:Int)=(k:Int),0=0,0=0]
abbrev Xd:List Prop:=
  [p.up.kind=p.up.kind,p.up.at_.lo=p.up.at_.lo,p.up.at_.hi=p.up.at_.hi,p.up.wide.lo=p.up.wide.lo]
abbrev X5:List Prop:=
  (waU p)
abbrev QEA:List Prop:=
  [(s:Int)=(s:Int),(s:Int)=(s:Int),0=0,0=0]
abbrev Zv:List Prop:=
  [q.up.kind=q.up.kind,q.up.at_.lo=q.up.at_.lo,q.up.at_.hi=q.up.at_.hi,q.up.wide.lo=q.up.wide.lo]
abbrev Zs:List Prop:=
  (wbu q)
abbrev wa1(x:Edge):List Prop:=[x.at_.lo=x.at_.lo,x.at_.hi=x.at_.hi,x.wide.lo=x.wide.lo,x.wide.hi=x.wide.hi,x.deep.lo=x.deep.lo,x.deep.hi=x.deep.hi]
abbrev QCt:List Prop:=
  (wa1 x)
abbrev Jr:List Prop:=
  ([d.pK.aK=d.pK.aK]++waP d++[0 =
  0,d.ps.n=d.ps.n,cO=cO])
theorem QaA(E F:ECt)(p q:QW)(x:Edge)(i k s t t':Nat):QG 8 (QFK d i k p q s) (((K3 d)::(Kv d)::(Kx d i)::List.append (waB p q) ([(Zw x),(32,.mp (JA [(i:Int),(s:Int),(k:Int),(t:Int)] (KK (i:Int) (s:Int) (k:Int) (t:Int)) (Value.int i64 (JJ d.pK x q.up).1) E.2 E.1) (clL [(i:Int),(s:Int),(k:Int),(t:Int)] E.2 E.1))]))) (VQ d F p q x i k s t')=(some ((qz d i)++(HQ k)++(Xd p)++(X5 p)++(QEA s)++(Zv q)++(Zs q)++[(1:Int)=(t':Int),x.kind=x.kind]++(QCt x) ++ (Xd p)++(X5 p)++(Zv q)++(Zs q)++[d.pK.length=d.pK.length]++(Jr d)++[d.pK.length=d.pK.length]++(Jr d)++([JA [(i:Int),(s:Int),(k:Int),(t:Int)] (KK (i:Int) (s:Int) (k:Int) (t:Int)) (Value.int i64 (JJ d.pK x q.up).1) E.2 E.1=F.1,clL [(i:Int),(s:Int),(k:Int),(t:Int)] E.2 E.1=F.2]++wae d))):=by kernel_rfl
abbrev wad(q:QW):List Prop:=(waH q)
abbrev wbM(d:Puz):List Prop:=(wcs d)
abbrev QK1(E:ECt)(F:ECt)(d:Puz)(i:Nat)(k:Nat)(p:QW)(q:QW)(s:Nat)(t':Nat)(x:Edge):List Prop:=
  (((wbl d i k)++wac p++([(s:Int)=(s:Int),(s:Int)=(s:Int),0 =
  0,0=0]++wad q++([(1
  : Int)=(t':Int),x.kind=x.kind]++wa1 x))++wac p++(wad q))++wab d++[cO=cO]++wab d++([cO=cO,E.1=F.1,E.2=F.2]++wbM d))
theorem Qeq(E F:ECt)(p q:QW)(x:Edge)(i k s t':Nat):QG 8 (QFK d i k p q s) ((VY E d i p q x)) (VQ d F p q x i k s t')=(some (QK1 E F d i k p q s t' x)):=by kernel_rfl
theorem QTL(E F:ECt)(p q:QW)(x:Edge)(i k s t':Nat):QG 8 (QFK d i k p q s) ((VY E d i p q x)) (VQ d F p q x i k s t')=(some (QK1 E F d i k p q s t' x)):=by kernel_rfl
noncomputable abbrev QHM(p:QW)(q:QW)(s:Nat):List AV:=
  (.ptr 8 0 0::.ptr 48 0 0::.slz 0 0 d.ps.n cO::vi (d.ps.n:Int)::vi (i:Int)::vi (i:Int)::.ptr 56 0 0::.slz 0 0 d.ps.n cO::.int false .i64 (d.ps.n:Int)::List.append (waD k p q s) ([vj 2]))
theorem QVA(E F:ECt)(p q:QW)(x:Edge)(i k s t t':Nat):QG 8 (QHM d i k p q s) (((K3 d)::(Kv d)::(Kx d i)::List.append (waB p q) ([(Zw x),(32,.mp (JA [(i:Int),(s:Int),(k:Int),(t:Int)] (KK (i:Int) (s:Int) (k:Int) (t:Int)) (Value.int i64 (JJ d.pK x q.right).1) E.2 E.1) (clL [(i:Int),(s:Int),(k:Int),(t:Int)] E.2 E.1))]))) (VQ d F p q x i k s t')=(some ((qz d i)++(HQ k)++(Xd p)++(X5 p)++(QEA s)++(Zv q)++(Zs q)++[(2:Int)=(t':Int),x.kind=x.kind]++(QCt x) ++ (Xd p)++(X5 p)++(Zv q)++(Zs q)++[d.pK.length=d.pK.length]++(Jr d)++[d.pK.length=d.pK.length]++(Jr d)++([JA [(i:Int),(s:Int),(k:Int),(t:Int)] (KK (i:Int) (s:Int) (k:Int) (t:Int)) (Value.int i64 (JJ d.pK x q.right).1) E.2 E.1=F.1,clL [(i:Int),(s:Int),(k:Int),(t:Int)] E.2 E.1=F.2]++wae d))):=by kernel_rfl
abbrev QQr(E:ECt)(F:ECt)(d:Puz)(i:Nat)(k:Nat)(p:QW)(q:QW)(s:Nat)(t':Nat)(x:Edge):List Prop:=
  (((wbl d i k)++wac p++([(s:Int)=(s:Int),(s:Int)=(s:Int),0 =
  0,0=0]++wad q++([(2
  : Int)=(t':Int),x.kind=x.kind]++wa1 x))++wac p++(wad q))++wab d++[cO=cO]++wab d++([cO=cO,E.1=F.1,E.2=F.2]++wae d))
theorem QWX(E F:ECt)(p q:QW)(x:Edge)(i k s t':Nat):QG 8 (QHM d i k p q s) ((VY E d i p q x)) (VQ d F p q x i k s t')=(some (QQr E F d i k p q s t' x)):=by kernel_rfl
theorem Qbu(E F:ECt)(p q:QW)(x:Edge)(i k s t':Nat):QG 8 (QHM d i k p q s) ((VY E d i p q x)) (VQ d F p q x i k s t')=(some (QQr E F d i k p q s t' x)):=by kernel_rfl
noncomputable abbrev QIb(p:QW)(q:QW)(s:Nat):List AV:=
  (.ptr 8 0 0::.ptr 48 0 0::.slz 0 0 d.ps.n cO::vi (d.ps.n:Int)::vi (i:Int)::vi (i:Int)::.ptr 56 0 0::.slz 0 0 d.ps.n cO::.int false .i64 (d.ps.n:Int)::List.append (waD k p q s) ([vj 3]))
theorem QcF(E F:ECt)(p q:QW)(x:Edge)(i k s t t':Nat):QG 8 (QIb d i k p q s) (((K3 d)::(Kv d)::(Kx d i)::List.append (waB p q) ([(Zw x),(32,.mp (JA [(i:Int),(s:Int),(k:Int),(t:Int)] (KK (i:Int) (s:Int) (k:Int) (t:Int)) (Value.int i64 (JJ d.pK x q.down).1) E.2 E.1) (clL [(i:Int),(s:Int),(k:Int),(t:Int)] E.2 E.1))]))) (VQ d F p q x i k s t')=(some ((qz d i)++(HQ k)++(Xd p)++(X5 p)++(QEA s)++(Zv q)++(Zs q)++[(3:Int)=(t':Int),x.kind=x.kind]++(QCt x) ++ (Xd p)++(X5 p)++(Zv q)++(Zs q)++[d.pK.length=d.pK.length]++(Jr d)++[d.pK.length=d.pK.length]++(Jr d)++([JA [(i:Int),(s:Int),(k:Int),(t:Int)] (KK (i:Int) (s:Int) (k:Int) (t:Int)) (Value.int i64 (JJ d.pK x q.down).1) E.2 E.1=F.1,clL [(i:Int),(s:Int),(k:Int),(t:Int)] E.2 E.1=F.2]++wae d))):=by kernel_rfl
abbrev QLq(E:ECt)(F:ECt)(d:Puz)(i:Nat)(k:Nat)(p:QW)(q:QW)(s:Nat)(t':Nat)(x:Edge):List Prop:=
  (((wbl d i k)++wac p++([(s:Int)=(s:Int),(s:Int)=(s:Int),0 =
  0,0=0]++wad q++([(3
  : Int)=(t':Int),x.kind=x.kind]++wa1 x))++wac p++(wad q))++wab d++[cO=cO]++wab d++([cO=cO,E.1=F.1,E.2=F.2]++wae d))
theorem QXl(E F:ECt)(p q:QW)(x:Edge)(i k s t':Nat):QG 8 (QIb d i k p q s) ((VY E d i p q x)) (VQ d F p q x i k s t')=(some (QLq E F d i k p q s t' x)):=by kernel_rfl
theorem QXi(E F:ECt)(p q:QW)(x:Edge)(i k s t':Nat):QG 8 (QIb d i k p q s) ((VY E d i p q x)) (VQ d F p q x i k s t')=(some (QLq E F d i k p q s t' x)):=by kernel_rfl
noncomputable abbrev QGq(p:QW)(q:QW)(s:Nat):List AV:=
  (.ptr 8 0 0::.ptr 48 0 0::.slz 0 0 d.ps.n cO::vi (d.ps.n:Int)::vi (i:Int)::vi (i:Int)::.ptr 56 0 0::.slz 0 0 d.ps.n cO::.int false .i64 (d.ps.n:Int)::List.append (waD k p q s) ([vj 4]))
theorem QbE(E F:ECt)(p q:QW)(x:Edge)(i k s t t':Nat):QG 8 (QGq d i k p q s) (((K3 d)::(Kv d)::(Kx d i)::List.append (waB p q) ([(Zw x),(32,.mp (JA [(i:Int),(s:Int),(k:Int),(t:Int)] (KK (i:Int) (s:Int) (k:Int) (t:Int)) (Value.int i64 (JJ d.pK x q.left).1) E.2 E.1) (clL [(i:Int),(s:Int),(k:Int),(t:Int)] E.2 E.1))]))) (VQ d F p q x i k s t')=(some ((qz d i)++(HQ k)++(Xd p)++(X5 p)++(QEA s)++(Zv q)++(Zs q)++[(4:Int)=(t':Int),x.kind=x.kind]++(QCt x) ++ (Xd p)++(X5 p)++(Zv q)++(Zs q)++[d.pK.length=d.pK.length]++(Jr d)++[d.pK.length=d.pK.length]++(Jr d)++([JA [(i:Int),(s:Int),(k:Int),(t:Int)] (KK (i:Int) (s:Int) (k:Int) (t:Int)) (Value.int i64 (JJ d.pK x q.left).1) E.2 E.1=F.1,clL [(i:Int),(s:Int),(k:Int),(t:Int)] E.2 E.1=F.2]++wae d))):=by kernel_rfl
abbrev QPw(E:ECt)(F:ECt)(d:Puz)(i:Nat)(k:Nat)(p:QW)(q:QW)(s:Nat)(t':Nat)(x:Edge):List Prop:=
  (((wbl d i k)++wac p++([(s:Int)=(s:Int),(s:Int)=(s:Int),0 =
  0,0=0]++wad q++([(4
  : Int)=(t':Int),x.kind=x.kind]++wa1 x))++wac p++(wad q))++wab d++[cO=cO]++wab d++([cO=cO,E.1=F.1,E.2=F.2]++wae d))
theorem QeP(E F:ECt)(p q:QW)(x:Edge)(i k s t':Nat):QG 8 (QGq d i k p q s) ((VY E d i p q x)) (VQ d F p q x i k s t')=(some (QPw E F d i k p q s t' x)):=by kernel_rfl
theorem Qct(E F:ECt)(p q:QW)(x:Edge)(i k s t':Nat):QG 8 (QGq d i k p q s) ((VY E d i p q x)) (VQ d F p q x i k s t')=(some (QPw E F d i k p q s t' x)):=by kernel_rfl
theorem QVW(E F:ECt)(p q:QW)(i k s:Nat):QG 8 (.ptr 8 0 0::.ptr 48 0 0::.slz 0 0 d.ps.n cO::List.append (waE d i) ([.slz 0 0 d.ps.n cO,vi (d.ps.n:Int),vi (k:Int),vi (k:Int),.ptr 64 0 0,.agg (Kd p),vi (s:Int)])) (((K3 d)::(Kv d)::(Kx d i)::List.append (waB p q) ([(32,.mp E.1 E.2)]))) (QHi d F p q i k s)=(some ((qz d i)++(HQ k)++(Xd p)++(X5 p)++[(s:Int)=(s:Int)]++(Xd p)++(X5 p)++(Zv q)++(Zs q)++[d.pK.length=d.pK.length]++(Jr d)++[d.pK.length=d.pK.length]++(Jr d)++([E.1=F.1,E.2=F.2]++wae d))):=by kernel_rfl
noncomputable abbrev QBv(p:QW)(s:Nat):List AV:=
  (.ptr 8 0 0::.ptr 48 0 0::.slz 0 0 d.ps.n cO::List.append (waE d i) ([.slz 0 0 d.ps.n cO,.int false .i64 (d.ps.n:Int),vi (k:Int),vi (k:Int),.ptr 64 0 0,.agg (Kd p),vi (i64.wrap ((s:Int)+1))]))
abbrev QCu(F:ECt)(F':ECt)(d:Puz)(i:Nat)(k:Nat)(p:QW)(q:QW)(s:Nat)(s':Nat):List Prop:=
  (((wbl d i k)++wac p++[i64.wrap ((s:Int)+1)=(s':Int)]++wac p++(wad q))++wab d++[cO=cO]++wab d++([cO=cO,F.1=F'.1,F.2=F'.2]++wae d))
theorem QWE(F F':ECt)(p q:QW)(i k s s':Nat):QG 8 (QBv d i k p s) (((K3 d)::(Kv d)::(Kx d i)::List.append (waB p q) ([(32,.mp F.1 F.2)]))) (WG d F' p q i k s')=(some (QCu F F' d i k p q s s')):=by kernel_rfl
theorem QfQ(F F':ECt)(p q:QW)(i k s s':Nat):QG 8 (QBv d i k p s) (((K3 d)::(Kv d)::(Kx d i)::List.append (waB p q) ([(32,.mp F.1 F.2)]))) (WG d F' p q i k s')=(some (QCu F F' d i k p q s s')):=by kernel_rfl
theorem QdJ(F F':ECt)(p q:QW)(i k s s':Nat):QG 8 (QBv d i k p s) (((K3 d)::(Kv d)::(Kx d i)::List.append (waB p q) ([(32,.mp F.1 F.2)]))) (WG d F' p q i k s')=(some (QCu F F' d i k p q s s')):=by kernel_rfl
theorem QbC(F F':ECt)(p q:QW)(i k s s':Nat):QG 8 (QBv d i k p s) (((K3 d)::(Kv d)::(Kx d i)::List.append (waB p q) ([(32,.mp F.1 F.2)]))) (WG d F' p q i k s')=(some (QCu F F' d i k p q s s')):=by kernel_rfl
theorem QcW(E F':ECt)(p:QW)(i k:Nat):QG 8 (.ptr 8 0 0::.ptr 48 0 0::.slz 0 0 d.ps.n cO::List.append (waE d i) ([.slz 0 0 d.ps.n cO,vi (d.ps.n:Int),vi (k:Int)])) ([(K3 d),(Kv d),(Kx d i),(56,.cells 7 70 (Kd p)),(32,.mp E.1 E.2)]) (QFT d F' p i k)=(some ((qz d i)++[(k:Int)=(k:Int)]++(Xd p)++(X5 p)++[d.pK.length=d.pK.length]++(Jr d)++[d.pK.length=d.pK.length]++(Jr d)++([E.1=F'.1,E.2=F'.2]++wae d))):=by kernel_rfl
theorem QTW(F F':ECt)(p:QW)(i k k':Nat):QG 8 (.ptr 8 0 0::.ptr 48 0 0::.slz 0 0 d.ps.n cO::List.append (waE d i) ([.slz 0 0 d.ps.n cO,vi (d.ps.n:Int),vi (i64.wrap ((k:Int)+1))])) ([(K3 d),(Kv d),(Kx d i),(56,.cells 7 70 (Kd p)),(32,.mp F.1 F.2)]) (QAq d F' p i k')=(some ((qz d i)++[i64.wrap ((k:Int)+1)=(k':Int)]++(Xd p)++(X5 p)++[d.pK.length=d.pK.length]++(Jr d) ++ [d.pK.length=d.pK.length]++(Jr d)++([F.1=F'.1,F.2=F'.2]++wae d))):=by kernel_rfl
abbrev QOc:List Prop:=
  [0=0,0=0,0=0,0=0]
theorem QaB(E F':ECt)(i:Nat):QG 8 (List.append (wcJ d) ([vi (i:Int)])) ([(K3 d),(Kv d),(Kx d i),(32,.mp E.1 E.2)]) (QGt d F' i)=(some (QOc++([0=0]++wcI d++[(i:Int)=(i:Int),d.pK.length=d.pK.length])++(Jr d) ++ [d.pK.length=d.pK.length]++(Jr d)++([E.1=F'.1,E.2=F'.2]++wae d))):=by kernel_rfl
theorem QW2(F F':ECt)(i i':Nat):QG 8 (List.append (wcJ d) ([vi (i64.wrap ((i:Int)+1))])) ([(K3 d),(Kv d),(Kx d i), (32,.mp F.1 F.2)]) (QBI d F' i')=(some (QOc++([0=0]++wcI d++[i64.wrap ((i:Int)+1)=(i':Int),d.pK.length=d.pK.length])++(Jr d)++[d.pK.length=d.pK.length]++(Jr d)++([F.1=F'.1,F.2=F'.2]++wae d))):=by kernel_rfl
theorem QcK(E F':ECt):QG 8 [.ptr 48 0 0] ([(Kv d),(0,.frz QPi d.ps.n λi=>QA.enc (d.ps.get i)),(32,.mp E.1 E.2)]) (QIr d F')=(some ([0=0,0=0,d.pK.length=d.pK.length] ++ (Jr d)++([E.1=F'.1,E.2=F'.2]++wae d))):=by kernel_rfl
