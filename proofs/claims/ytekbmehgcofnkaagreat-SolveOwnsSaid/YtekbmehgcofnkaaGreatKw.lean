/- - -/
import Derived.Test.YtekbmehgcofnkaaGreatKv
set_option linter.all false
noncomputable section
open Go.Proofs.Tryz
open Go.IntKind (i64)
set_option maxRecDepth 100000
namespace Go.Proofs.YtekbmehgcofnkaaGreat
open Go.SX Go.SX.Told
abbrev ECt:=List MapEntry×Nat
variable (d:Puz)(p:QV)(i:Nat)(q:QV)(k:Nat)(x:Edge)(s:Nat)
def ZW:Edge:=match s with
 | 0=>p.up
 | 1=>p.right
 | 2=>p.down
 | _=>p.left
def QRh:List AV:=KT d++[.map 32,.nils]
def nbB(E:ECt):List (Nat×Blk):=[(8,.cells 0 28 (KT d)),(48,.cells 0 152 (QRh d)),(32,.mp E.1 E.2)]++Qi.blk 0 d.ps
def QFM:List (Nat×AV):=[(1,.ptr 8 0 0),(3,.ptr 48 0 0),(19,.slz 0 0 d.ps.n (.of 0)),(20,.int false .i64 d.ps.n),(21,.int false .i64 i)]
def QGX:List (Nat×AV):=QFM d i++[(4,.int false .i64 i),(5,.ptr 56 0 0),(27,.slz 0 0 d.ps.n (.of 0)),(28,.int false .i64 d.ps.n),(29,.int false .i64 k)]
def QGY(p:QV)(s:Nat):List (Nat×AV):=QGX d i k++[(6,.int false .i64 k),(7,.ptr 64 0 0),(35,Enc.enc p),(36,.int false .i64 s)]
def QVj(p q:QV)(s t:Nat):List (Nat×AV):=QGY d i k p s++[(8,.int false .i64 s),(9,.ptr 72 0 0),(41,Enc.enc q),(42,.int false .i64 t)]
def pcB(id:Nat)(p:QV):Nat×Blk:=(id,.cells 7 70 (Enc.enc p).cells)
def edB(id:Nat)(x:Edge):Nat×Blk:=(id,.cells 0 55 (Enc.enc x).cells)
def QAr(E:ECt)(i:Nat):JSt:=⟨78,QFM d i,nbB d E,104⟩
def QIA(E:ECt):JSt:=⟨78,[(3,.ptr 48 0 0)],[(48,.cells 0 152 (QRh d)),(32,.mp E.1 E.2)]++Qi.blk 0 d.ps,104⟩
def QAV(E:ECt)(p:QV)(i k:Nat):JSt:=⟨78,QGX d i k,pcB 56 p::nbB d E,104⟩
def QFE(E:ECt)(i:Nat):JSt:=⟨78,QFM d i,nbB d E,104⟩
def qe(E:ECt)(p q:QV)(i k s:Nat):JSt:=⟨78,QGY d i k p s,pcB 56 p::pcB 64 q::nbB d E,104⟩
def QGC(E:ECt)(p:QV)(i k:Nat):JSt:=⟨78,QGX d i k,pcB 56 p::nbB d E,104⟩
def Ve(E:ECt)(p q:QV)(x:Edge)(i k s t:Nat):JSt:=⟨78,QVj d i k p q s t,edB 72 x::pcB 56 p::pcB 64 q::nbB d E,104⟩
def QII(E:ECt)(p q:QV)(i k s:Nat):JSt:=⟨78,QGY d i k p s,pcB 56 p::pcB 64 q::nbB d E,104⟩
def QMR:List Nat:=[1,3,19,20,21]
def QMg:List Nat:=[1,3,19,20,21,4,5,27,28,29]
def QLt:List Nat:=[1,3,19,20,21,4,5,27,28,29,6,7,35,36]
def Qcu:List Nat:=[1,3,19,20,21,4,5,27,28,29,6,7,35,36,8,9,41,42]
def QN8:Ex->List Nat
 | .normal=>QMR
 | .exit _=>[3]
 | .ret=>[]
def QLf:Ex->List Nat
 | .normal=>QMg
 | .exit _=>QMR
 | .ret=>[]
def QMc:Ex->List Nat
 | .normal=>QLt
 | .exit _=>QMg
 | .ret=>[]
def QL0:Ex->List Nat
 | .normal=>Qcu
 | .exit _=>QLt
 | .ret=>[]
abbrev Ka:List AV:=
  ((Enc.enc (p:QV)).cells)
abbrev K7:List AV:=
  ((Enc.enc (q:QV)).cells)
abbrev wbM(k:Nat)(p:QV):List AV:=[vi (k:Int),vi (k:Int),.ptr 64 0 0,.agg (Ka p)]
abbrev waz(k:Nat)(p:QV)(q:QV)(s:Nat):List AV:=(List.append (wbM k p) ([vi (s:Int),vi (s :
  Int),.ptr 72 0 0,.agg (K7 q)]))
abbrev QGJ(p:QV)(q:QV)(s:Nat):List AV:=
  (.nilp::.ptr 78 0 0::.ptr 8 0 0::.ptr 48 0 0::.slz 0 0 d.ps.n cO::vi (d.ps.n:Int)::vi (i:Int)::vi (i:Int)::.ptr 56 0 0::.slz 0 0
  d.ps.n cO::vi (d.ps.n:Int)::List.append (waz k p q s) ([vj 1]))
abbrev K5:Nat×Blk:=
  (8,.cells 0 28 (waf d))
abbrev Kx:Nat×Blk:=
  (48,.cells 0 152 (List.append (waf d) ([.map 32,.nils])))
abbrev QKD:List CK:=
  (wae)
abbrev K0(i:Nat):Nat×Blk:=
  (0,.frz QKD d.ps.n λi=>QA.enc (d.ps.get i))
abbrev Zb:Nat×Blk:=
  (72,.cells 0 55 [vi x.kind,vi x.at_.lo,vi x.at_.hi,vi x.wide.lo,vi x.wide.hi,vi x.deep.lo,.int
  false .i64 x.deep.hi])
abbrev waw(p:QV)(q:QV):List (Nat×Blk):=[(56,.cells 7 70 (Ka p)),(64,.cells 7 70 (K7 q))]
abbrev VQ(E:ECt)(d:Puz)(i:Nat)(p:QV)(q:QV)(x:Edge):List (Nat×Blk):=
  ((K5 d)::(Kx d)::(K0 d i)::List.append (waw p q) ([(Zb x),(32,.mp E.1 E.2)]))
abbrev QFG(p:QV)(q:QV)(s:Nat):List AV:=
  (.nilp::.ptr 78 0 0::.ptr 8 0 0::.ptr 48 0 0::.slz 0 0 d.ps.n cO::vi (d.ps.n:Int)::vi (i:Int)::vi (i:Int)::.ptr 56 0 0::.slz 0 0
  d.ps.n cO::vi (d.ps.n:Int)::List.append (waz k p q s) ([vj 2]))
abbrev QIS(p:QV)(q:QV)(s:Nat):List AV:=
  (.nilp::.ptr 78 0 0::.ptr 8 0 0::.ptr 48 0 0::.slz 0 0 d.ps.n cO::vi (d.ps.n:Int)::vi (i:Int)::vi (i:Int)::.ptr 56 0 0::.slz 0 0
  d.ps.n cO::vi (d.ps.n:Int)::List.append (waz k p q s) ([vj 3]))
abbrev QFi(p:QV)(q:QV)(s:Nat):List AV:=
  (.nilp::.ptr 78 0 0::.ptr 8 0 0::.ptr 48 0 0::.slz 0 0 d.ps.n cO::vi (d.ps.n:Int)::vi (i:Int)::vi (i:Int)::.ptr 56 0 0::.slz 0 0
  d.ps.n cO::vi (d.ps.n:Int)::List.append (waz k p q s) ([vj 4]))
abbrev wbp(d:Puz):List AV:=[.ptr 8 0 0,.ptr 48 0 0,.slz 0 0 d.ps.n cO,vi (d.ps.n:Int)]
abbrev waF(d:Puz)(i:Nat):List AV:=(List.append (wbp d) ([vi (i:Int),vi (i:Int),.ptr 56 0 0,.slz 0 0 d.ps.n cO,vi (d.ps.n:Int)]))
theorem QZ7(E:ECt)(p q:QV)(x:Edge)(i k s t:Nat)(g:Nat->Value):exec (mkF prog KG) (hnd (mkF prog KG) 1) (QY (QY (QY (QH f60 0)))) (JSt.inst (Ve d E p q x i k s t) g) (Q8 [] QL0) = .br (decide ((t:Int)<4)) (.need (decide ((0:Int)<=(t:Int)/\(t:Int)<4)) (.br (decide ((t:Int)=0)) (.need (true) (.br ((i:Int) != (k:Int)) (.br ((Jo d.pK x q.up).1 != 0) (.need (wf4 i64 E.1) (.leaf (.tup (QGJ d i k p q s)) (((K5 d)::(Kx d)::(K0 d i)::List.append (waw p q) ([(Zb x),(32,.mp (JE [(i:Int),(s:Int),(k:Int),(t:Int)] (KM (i:Int) (s:Int) (k:Int) (t:Int)) (Value.int i64 (Jo d.pK x q.up).1) E.2 E.1) (clL [(i:Int),(s:Int),(k:Int),(t:Int)] E.2 E.1))]))))) (.leaf (.tup (QGJ d i k p q s)) ((VQ E d i p q x)))) (.leaf (.tup (QGJ d i k p q s)) ((VQ E d i p q x))))) (.br (decide ((t:Int)=1)) (.need (true) (.br ((i:Int) != (k:Int)) (.br ((Jo d.pK x q.right).1 != 0) (.need (wf4 i64 E.1) (.leaf (.tup (QFG d i k p q s)) (((K5 d)::(Kx d)::(K0 d i)::List.append (waw p q) ([(Zb x),(32,.mp (JE [(i:Int),(s:Int),(k:Int),(t:Int)] (KM (i:Int) (s:Int) (k:Int) (t:Int)) (Value.int i64 (Jo d.pK x q.right).1) E.2 E.1) (clL [(i:Int),(s:Int),(k:Int),(t:Int)] E.2 E.1))]))))) (.leaf (.tup (QFG d i k p q s)) ((VQ E d i p q x)))) (.leaf (.tup (QFG d i k p q s)) ((VQ E d i p q x))))) (.br (decide ((t:Int)=2)) (.need (true) (.br ((i:Int) != (k:Int)) (.br ((Jo d.pK x q.down).1 != 0) (.need (wf4 i64 E.1) (.leaf (.tup (QIS d i k p q s)) (((K5 d)::(Kx d)::(K0 d i)::List.append (waw p q) ([(Zb x),(32,.mp (JE [(i:Int),(s:Int),(k:Int),(t:Int)] (KM (i:Int) (s:Int) (k:Int) (t:Int)) (Value.int i64 (Jo d.pK x q.down).1) E.2 E.1) (clL [(i:Int),(s:Int),(k:Int),(t:Int)] E.2 E.1))]))))) (.leaf (.tup (QIS d i k p q s)) ((VQ E d i p q x)))) (.leaf (.tup (QIS d i k p q s)) ((VQ E d i p q x))))) (.need (true) (.br ((i:Int) != (k:Int)) (.br ((Jo d.pK x q.left).1 != 0) (.need (wf4 i64 E.1) (.leaf (.tup (QFi d i k p q s)) (((K5 d)::(Kx d)::(K0 d i)::List.append (waw p q) ([(Zb x),(32,.mp (JE [(i:Int),(s:Int),(k:Int),(t:Int)] (KM (i:Int) (s:Int) (k:Int) (t:Int)) (Value.int i64 (Jo d.pK x q.left).1) E.2 E.1) (clL [(i:Int),(s:Int),(k:Int),(t:Int)] E.2 E.1))]))))) (.leaf (.tup (QFi d i k p q s)) ((VQ E d i p q x)))) (.leaf (.tup (QFi d i k p q s)) ((VQ E d i p q x))))))))) (.leaf (.tup (.ptr 6 0 0::.ptr 78 0 0::List.append (waF d i) ((List.append (wbM k p) ([vi (s:Int)]))))) (((K5 d)::(Kx d)::(K0 d i)::List.append (waw p q) ([(32,.mp E.1 E.2)])))):=by kernel_rfl
abbrev QE4(P:Program)(d:Puz)(E F:ECt)(p q:QV)(x:Edge)(i k s:Nat):Hnd:={ hnd (mkF P KG) 1 with loop:=λ_=>Q4 8 [] (Ve d E p q x i k s (0:Nat)) [(True,.exit 6,QII d F p q i k s)] }
abbrev QBg(p:QV)(s:Nat):List AV:=
  (.nilp::.ptr 78 0 0::List.append (waF d i) ((List.append (wbM k p) ([vi (i64.wrap ((s:Int) +
  1))]))))
abbrev waE(p:QV):List Prop:=[p.up.wide.hi=p.up.wide.hi,p.up.deep.lo=p.up.deep.lo,p.up.deep.hi=p.up.deep.hi,p.right.kind=p.right.kind,p.right.at_.lo=p.right.at_.lo,p.right.at_.hi=p.right.at_.hi,p.right.wide.lo=p.right.wide.lo,p.right.wide.hi=p.right.wide.hi,p.right.deep.lo=p.right.deep.lo,p.right.deep.hi=p.right.deep.hi,p.down.kind=p.down.kind,p.down.at_.lo=p.down.at_.lo,p.down.at_.hi=p.down.at_.hi,p.down.wide.lo=p.down.wide.lo,p.down.wide.hi=p.down.wide.hi,p.down.deep.lo=p.down.deep.lo,p.down.deep.hi=p.down.deep.hi,p.left.kind=p.left.kind,p.left.at_.lo=p.left.at_.lo,p.left.at_.hi=p.left.at_.hi,p.left.wide.lo=p.left.wide.lo,p.left.wide.hi=p.left.wide.hi,p.left.deep.lo=p.left.deep.lo,p.left.deep.hi=p.left.deep.hi]
abbrev wab(p:QV):List Prop:=([p.up.kind=p.up.kind,p.up.at_.lo=p.up.at_.lo,p.up.at_.hi=p.up.at_.hi,p.up.wide.lo=p.up.wide.lo]++waE p)
abbrev wa0(q:QV):List Prop:=[q.up.wide.hi=q.up.wide.hi,q.up.deep.lo=q.up.deep.lo,q.up.deep.hi=q.up.deep.hi,q.right.kind=q.right.kind,q.right.at_.lo=q.right.at_.lo,q.right.at_.hi=q.right.at_.hi,q.right.wide.lo=q.right.wide.lo,q.right.wide.hi=q.right.wide.hi,q.right.deep.lo=q.right.deep.lo,q.right.deep.hi=q.right.deep.hi,q.down.kind=q.down.kind,q.down.at_.lo=q.down.at_.lo,q.down.at_.hi=q.down.at_.hi,q.down.wide.lo=q.down.wide.lo,q.down.wide.hi=q.down.wide.hi,q.down.deep.lo=q.down.deep.lo,q.down.deep.hi=q.down.deep.hi,q.left.kind=q.left.kind,q.left.at_.lo=q.left.at_.lo,q.left.at_.hi=q.left.at_.hi,q.left.wide.lo=q.left.wide.lo,q.left.wide.hi=q.left.wide.hi,q.left.deep.lo=q.left.deep.lo,q.left.deep.hi=q.left.deep.hi]
abbrev waA(q:QV):List Prop:=([q.up.kind=q.up.kind,q.up.at_.lo=q.up.at_.lo,q.up.at_.hi=q.up.at_.hi,q.up.wide.lo=q.up.wide.lo]++wa0 q)
abbrev waZ(d:Puz)(i:Nat)(k:Nat):List Prop:=([0=0,0=0,0=0,0=0,0=0]++wb6 d++[(i:Int)=(i:Int),(i:Int)=(i:Int),0=0,0=0,0=0]++wb6 d++[(k:Int)=(k:Int),(k:Int)=(k:Int),0=0,0=0])
abbrev wbr(E:ECt)(d:Puz):List Prop:=[E.1=E.1,E.2=E.2,d.ps.n<=d.ps.n,QB 28 d.ps.n (λi=>QA.enc (d.ps.get i)) λi=>QA.enc (d.ps.get i)]
abbrev wbV(F:ECt)(p:QV)(q:QV):List (Nat×Blk):=[(56,.cells 7 70 (Ka p)),(64,.cells 7 70 (K7 q)),(32,.mp F.1 F.2)]
theorem QTS(E F:ECt)(p q:QV)(x:Edge)(i k s:Nat)(g:Nat->Value):exec (mkF prog KG) (QE4 prog d E F p q x i k s) (QY (QY (QH f60 0))) (JSt.inst (qe d E p q i k s) g) (Q8 [] QMc) = .br (decide ((s:Int)<4)) (.need (decide ((0:Int)<=(s:Int)/\(s:Int)<4)) (.br (decide ((s:Int)=0)) (.ak (((waZ d i k)++wab p++([(0:Int)=(s:Int),(s:Int)=(s:Int),0=0,0=0]++waA q++[(0:Int)=0,p.up.kind=x.kind,p.up.at_.lo=x.at_.lo,p.up.at_.hi=x.at_.hi,p.up.wide.lo=x.wide.lo,p.up.wide.hi=x.wide.hi,p.up.deep.lo=x.deep.lo,p.up.deep.hi=x.deep.hi])++wab p++(waA q))++waa d++[cO=cO]++waa d++([cO=cO]++wbr E d)) (.asm (True) (.all (λ(g0:Nat->Value)=>.leaf (.tup (QBg d i k p s)) (((K5 d)::(Kx d)::(K0 d i)::wbV F p q)))))) (.br (decide ((s:Int)=1)) (.ak (((waZ d i k)++wab p++([(1:Int)=(s:Int),(s:Int)=(s:Int),0=0,0=0]++waA q++[(0:Int)=0,p.right.kind=x.kind,p.right.at_.lo=x.at_.lo,p.right.at_.hi=x.at_.hi,p.right.wide.lo=x.wide.lo,p.right.wide.hi=x.wide.hi,p.right.deep.lo=x.deep.lo,p.right.deep.hi=x.deep.hi])++wab p++(waA q))++waa d++[cO=cO]++waa d++([cO=cO]++wbr E d)) (.asm (True) (.all (λ(g1:Nat->Value)=>.leaf (.tup (QBg d i k p s)) (((K5 d)::(Kx d)::(K0 d i)::wbV F p q)))))) (.br (decide ((s:Int)=2)) (.ak (((waZ d i k)++wab p++([(2:Int)=(s:Int),(s:Int)=(s:Int),0=0,0=0]++waA q++[(0:Int)=0,p.down.kind=x.kind,p.down.at_.lo=x.at_.lo,p.down.at_.hi=x.at_.hi,p.down.wide.lo=x.wide.lo,p.down.wide.hi=x.wide.hi,p.down.deep.lo=x.deep.lo,p.down.deep.hi=x.deep.hi])++wab p++(waA q))++waa d++[cO=cO]++waa d++([cO=cO]++wbr E d)) (.asm (True) (.all (λ(g2:Nat->Value)=>.leaf (.tup (QBg d i k p s)) (((K5 d)::(Kx d)::(K0 d i)::wbV F p q)))))) (.ak (((waZ d i k)++wab p++([(3:Int)=(s:Int),(s:Int)=(s:Int),0=0,0=0]++waA q++[(0:Int)=0,p.left.kind=x.kind,p.left.at_.lo=x.at_.lo,p.left.at_.hi=x.at_.hi,p.left.wide.lo=x.wide.lo,p.left.wide.hi=x.wide.hi,p.left.deep.lo=x.deep.lo,p.left.deep.hi=x.deep.hi])++wab p++(waA q))++waa d++[cO=cO]++waa d++([cO=cO]++wbr E d)) (.asm (True) (.all (λ(g3:Nat->Value)=>.leaf (.tup (QBg d i k p s)) (((K5 d)::(Kx d)::(K0 d i)::wbV F p q)))))))))) (.leaf (.tup (.ptr 4 0 0::.ptr 78 0 0::List.append (wbp d) ([vi (i:Int),vi (i:Int),.ptr 56 0 0,.slz 0 0 d.ps.n cO,vi (d.ps.n:Int),vi (k:Int)]))) ([(K5 d),(Kx d),(K0 d i),(56,.cells 7 70 (Ka p)),(32,.mp E.1 E.2)])):=by kernel_rfl
abbrev QFw(P:Program)(d:Puz)(E F:ECt)(p q:QV)(i k:Nat):Hnd:={ hnd (mkF P KG) 1 with loop:=λ_=>Kr (k<d.ps.n) (Q4 8 [] (qe d E p q i k (0:Nat)) [(True,.exit 4,QGC d F p i k)]) }
theorem Qef(E F:ECt)(p q:QV)(i k:Nat)(g:Nat->Value):exec (mkF prog KG) (QFw prog d E F p q i k) (QY (QH f60 0)) (JSt.inst (QAV d E p i k) g) (Q8 [] QLf) = .br (decide ((k:Int)<(d.ps.n:Int))) (.need (decide ((0:Int)<=(k:Int)/\(k:Int)<(d.ps.n:Int))&&decide (d.ps.n<=d.ps.n)) (.need (decide (k<d.ps.n)) (.ak ((([k<d.ps.n]++waZ d i k)++wab p++[(0:Int)=0]++wab p++[(d.ps.get k).up.kind=q.up.kind,(d.ps.get k).up.at_.lo=q.up.at_.lo,(d.ps.get k).up.at_.hi=q.up.at_.hi,(d.ps.get k).up.wide.lo=q.up.wide.lo,(d.ps.get k).up.wide.hi=q.up.wide.hi,(d.ps.get k).up.deep.lo=q.up.deep.lo,(d.ps.get k).up.deep.hi=q.up.deep.hi,(d.ps.get k).right.kind=q.right.kind,(d.ps.get k).right.at_.lo=q.right.at_.lo,(d.ps.get k).right.at_.hi=q.right.at_.hi,(d.ps.get k).right.wide.lo=q.right.wide.lo,(d.ps.get k).right.wide.hi=q.right.wide.hi,(d.ps.get k).right.deep.lo=q.right.deep.lo,(d.ps.get k).right.deep.hi=q.right.deep.hi,(d.ps.get k).down.kind=q.down.kind,(d.ps.get k).down.at_.lo=q.down.at_.lo,(d.ps.get k).down.at_.hi=q.down.at_.hi,(d.ps.get k).down.wide.lo=q.down.wide.lo,(d.ps.get k).down.wide.hi=q.down.wide.hi,(d.ps.get k).down.deep.lo=q.down.deep.lo,(d.ps.get k).down.deep.hi=q.down.deep.hi,(d.ps.get k).left.kind=q.left.kind,(d.ps.get k).left.at_.lo=q.left.at_.lo,(d.ps.get k).left.at_.hi=q.left.at_.hi,(d.ps.get k).left.wide.lo=q.left.wide.lo,(d.ps.get k).left.wide.hi=q.left.wide.hi,(d.ps.get k).left.deep.lo=q.left.deep.lo,(d.ps.get k).left.deep.hi=q.left.deep.hi])++waa d++[cO=cO]++waa d++([cO=cO,E.1=E.1,E.2=E.2]++wad d)) (.asm (True) (.all (λ(g0:Nat -> Value)=>.leaf (.tup (.nilp::.ptr 78 0 0::List.append (waF d i) ([vi (i64.wrap ((k:Int)+1))]))) ([(K5 d),(Kx d),(K0 d i),(56,.cells 7 70 (Ka p)),(32,.mp F.1 F.2)]))))))) (.leaf (.tup (.ptr 2 0 0::.ptr 78 0 0::List.append (wbp d) ([vi (i:Int)]))) ([(K5 d),(Kx d),(K0 d i),(32,.mp E.1 E.2)])):=by kernel_rfl
abbrev QG7(P:Program)(d:Puz)(E F:ECt)(p:QV)(i:Nat):Hnd:={ hnd (mkF P KG) 1 with loop:=λ_=>Kr (i<d.ps.n) (Q4 8 [] (QAV d E p i (0:Nat)) [(True,.exit 2,QFE d F i)]) }
theorem QVN(E F:ECt)(p:QV)(i:Nat)(g:Nat->Value):exec (mkF prog KG) (QG7 prog d E F p i) (QH f60 0) (JSt.inst (QAr d E i) g) (Q8 [] QN8) = .br (decide ((i:Int)<(d.ps.n:Int))) (.need (decide ((0:Int)<=(i:Int)/\(i:Int)<(d.ps.n:Int))&&decide (d.ps.n<=d.ps.n)) (.need (decide (i<d.ps.n)) (.ak (([i<d.ps.n,0=0,0=0,0=0,0=0,0=0]++wb6 d++[(i:Int)=(i:Int),(i:Int)=(i:Int),0=0,0=0,0=0]++wb6 d++[(0:Int)=0,(d.ps.get i).up.kind=p.up.kind,(d.ps.get i).up.at_.lo=p.up.at_.lo,(d.ps.get i).up.at_.hi=p.up.at_.hi,(d.ps.get i).up.wide.lo=p.up.wide.lo,(d.ps.get i).up.wide.hi=p.up.wide.hi,(d.ps.get i).up.deep.lo=p.up.deep.lo,(d.ps.get i).up.deep.hi=p.up.deep.hi,(d.ps.get i).right.kind=p.right.kind,(d.ps.get i).right.at_.lo=p.right.at_.lo,(d.ps.get i).right.at_.hi=p.right.at_.hi,(d.ps.get i).right.wide.lo=p.right.wide.lo,(d.ps.get i).right.wide.hi=p.right.wide.hi,(d.ps.get i).right.deep.lo=p.right.deep.lo,(d.ps.get i).right.deep.hi=p.right.deep.hi,(d.ps.get i).down.kind=p.down.kind,(d.ps.get i).down.at_.lo=p.down.at_.lo,(d.ps.get i).down.at_.hi=p.down.at_.hi,(d.ps.get i).down.wide.lo=p.down.wide.lo,(d.ps.get i).down.wide.hi=p.down.wide.hi,(d.ps.get i).down.deep.lo=p.down.deep.lo,(d.ps.get i).down.deep.hi=p.down.deep.hi,(d.ps.get i).left.kind=p.left.kind,(d.ps.get i).left.at_.lo=p.left.at_.lo,(d.ps.get i).left.at_.hi=p.left.at_.hi,(d.ps.get i).left.wide.lo=p.left.wide.lo,(d.ps.get i).left.wide.hi=p.left.wide.hi,(d.ps.get i).left.deep.lo=p.left.deep.lo,(d.ps.get i).left.deep.hi=p.left.deep.hi])++waa d++[cO=cO]++waa d++([cO=cO,E.1=E.1,E.2=E.2]++wad d)) (.asm (True) (.all (λ(g0:Nat->Value)=>.leaf (.tup (.nilp::.ptr 78 0 0::List.append (wbp d) ([vi (i64.wrap ((i:Int)+1))]))) ([(K5 d),(Kx d),(K0 d i),(32,.mp F.1 F.2)]))))))) (.leaf (.tup [.ptr 0 0 0,.ptr 78 0 0,.ptr 48 0 0]) ([(Kx d),(K0 d i),(32,.mp E.1 E.2)])):=by kernel_rfl
abbrev QIw(p:QV)(q:QV)(s:Nat):List AV:=
  (.ptr 8 0 0::.ptr 48 0 0::.slz 0 0 d.ps.n cO::vi (d.ps.n:Int)::vi (i:Int)::vi (i:Int)::.ptr 56 0 0::.slz 0 0 d.ps.n cO::.int false .i64 (d.ps.n:Int)::List.append (waz k p q s) ([vj 1]))
abbrev vI:List Prop:=
  ([0=0,0=0,0=0,0=0,0=0]++wb6 d++[(i:Int)=(i:Int),(i:Int)=(i:Int),0=0,0=0,0=0]++wb6 d)
abbrev HX:List Prop:=
  [(k:Int)=(k:Int),(k:Int)=(k:Int),0=0,0=0]
abbrev Xg:List Prop:=
  [p.up.kind=p.up.kind,p.up.at_.lo=p.up.at_.lo,p.up.at_.hi=p.up.at_.hi,p.up.wide.lo=p.up.wide.lo]
abbrev YE:List Prop:=
  (waE p)
abbrev wcm(s:Nat):List Prop:=[(s:Int)=(s:Int),(s:Int)=(s:Int),0=0,0=0]
abbrev QB1:List Prop:=
  (wcm s)
abbrev Zl:List Prop:=
  [q.up.kind=q.up.kind,q.up.at_.lo=q.up.at_.lo,q.up.at_.hi=q.up.at_.hi,q.up.wide.lo=q.up.wide.lo]
abbrev Zs:List Prop:=
  (wa0 q)
abbrev waL(x:Edge):List Prop:=[x.at_.lo=x.at_.lo,x.at_.hi=x.at_.hi,x.wide.lo=x.wide.lo,x.wide.hi=x.wide.hi,x.deep.lo=x.deep.lo,x.deep.hi=x.deep.hi]
abbrev QEA:List Prop:=
  (waL x)
abbrev Jx:List Prop:=
  ([d.pK.aK=d.pK.aK]++waC d++[0 =
  0,d.ps.n=d.ps.n,cO=cO])
theorem QUK(E F:ECt)(p q:QV)(x:Edge)(i k s t t':Nat):QE 8 (QIw d i k p q s) (((K5 d)::(Kx d)::(K0 d i)::List.append (waw p q) ([(Zb x),(32,.mp (JE [(i:Int),(s:Int),(k:Int),(t:Int)] (KM (i:Int) (s:Int) (k:Int) (t:Int)) (Value.int i64 (Jo d.pK x q.up).1) E.2 E.1) (clL [(i:Int),(s:Int),(k:Int),(t:Int)] E.2 E.1))]))) (Ve d F p q x i k s t')=(some ((vI d i)++(HX k)++(Xg p)++(YE p)++(QB1 s)++(Zl q)++(Zs q)++[(1:Int)=(t':Int),x.kind=x.kind]++(QEA x) ++ (Xg p)++(YE p)++(Zl q)++(Zs q)++[d.pK.length=d.pK.length]++(Jx d)++[d.pK.length=d.pK.length]++(Jx d)++([JE [(i:Int),(s:Int),(k:Int),(t:Int)] (KM (i:Int) (s:Int) (k:Int) (t:Int)) (Value.int i64 (Jo d.pK x q.up).1) E.2 E.1=F.1,clL [(i:Int),(s:Int),(k:Int),(t:Int)] E.2 E.1=F.2]++wad d))):=by kernel_rfl
abbrev wac(q:QV):List Prop:=(waA q)
abbrev wbb(d:Puz):List Prop:=[d.ps.n<=d.ps.n,QB 28 d.ps.n (λi=>
  QA.enc (d.ps.get i)) λi=>QA.enc (d.ps.get i)]
abbrev QSL(E:ECt)(F:ECt)(d:Puz)(i:Nat)(k:Nat)(p:QV)(q:QV)(s:Nat)(t':Nat)(x:Edge):List Prop:=
  (((waZ d i k)++wab p++((wcm s)++wac q++([(1
  : Int)=(t':Int),x.kind=x.kind]++waL x))++wab p++(wac q))++waa d++[cO=cO]++waa d++([cO=cO,E.1=F.1,E.2=F.2]++wbb d))
theorem QZB(E F:ECt)(p q:QV)(x:Edge)(i k s t':Nat):QE 8 (QIw d i k p q s) ((VQ E d i p q x)) (Ve d F p q x i k s t')=(some (QSL E F d i k p q s t' x)):=by kernel_rfl
theorem QTG(E F:ECt)(p q:QV)(x:Edge)(i k s t':Nat):QE 8 (QIw d i k p q s) ((VQ E d i p q x)) (Ve d F p q x i k s t')=(some (QSL E F d i k p q s t' x)):=by kernel_rfl
abbrev QIW(p:QV)(q:QV)(s:Nat):List AV:=
  (.ptr 8 0 0::.ptr 48 0 0::.slz 0 0 d.ps.n cO::vi (d.ps.n:Int)::vi (i:Int)::vi (i:Int)::.ptr 56 0 0::.slz 0 0 d.ps.n cO::.int false .i64 (d.ps.n:Int)::List.append (waz k p q s) ([vj 2]))
theorem Qbe(E F:ECt)(p q:QV)(x:Edge)(i k s t t':Nat):QE 8 (QIW d i k p q s) (((K5 d)::(Kx d)::(K0 d i)::List.append (waw p q) ([(Zb x),(32,.mp (JE [(i:Int),(s:Int),(k:Int),(t:Int)] (KM (i:Int) (s:Int) (k:Int) (t:Int)) (Value.int i64 (Jo d.pK x q.right).1) E.2 E.1) (clL [(i:Int),(s:Int),(k:Int),(t:Int)] E.2 E.1))]))) (Ve d F p q x i k s t')=(some ((vI d i)++(HX k)++(Xg p)++(YE p)++(QB1 s)++(Zl q)++(Zs q)++[(2:Int)=(t':Int),x.kind=x.kind]++(QEA x) ++ (Xg p)++(YE p)++(Zl q)++(Zs q)++[d.pK.length=d.pK.length]++(Jx d)++[d.pK.length=d.pK.length]++(Jx d)++([JE [(i:Int),(s:Int),(k:Int),(t:Int)] (KM (i:Int) (s:Int) (k:Int) (t:Int)) (Value.int i64 (Jo d.pK x q.right).1) E.2 E.1=F.1,clL [(i:Int),(s:Int),(k:Int),(t:Int)] E.2 E.1=F.2]++wad d))):=by kernel_rfl
abbrev QM4(E:ECt)(F:ECt)(d:Puz)(i:Nat)(k:Nat)(p:QV)(q:QV)(s:Nat)(t':Nat)(x:Edge):List Prop:=
  (((waZ d i k)++wab p++((wcm s)++wac q++([(2
  : Int)=(t':Int),x.kind=x.kind]++waL x))++wab p++(wac q))++waa d++[cO=cO]++waa d++([cO=cO,E.1=F.1,E.2=F.2]++wad d))
theorem QWE(E F:ECt)(p q:QV)(x:Edge)(i k s t':Nat):QE 8 (QIW d i k p q s) ((VQ E d i p q x)) (Ve d F p q x i k s t')=(some (QM4 E F d i k p q s t' x)):=by kernel_rfl
theorem Qc7(E F:ECt)(p q:QV)(x:Edge)(i k s t':Nat):QE 8 (QIW d i k p q s) ((VQ E d i p q x)) (Ve d F p q x i k s t')=(some (QM4 E F d i k p q s t' x)):=by kernel_rfl
abbrev QGw(p:QV)(q:QV)(s:Nat):List AV:=
  (.ptr 8 0 0::.ptr 48 0 0::.slz 0 0 d.ps.n cO::vi (d.ps.n:Int)::vi (i:Int)::vi (i:Int)::.ptr 56 0 0::.slz 0 0 d.ps.n cO::.int false .i64 (d.ps.n:Int)::List.append (waz k p q s) ([vj 3]))
theorem QTO(E F:ECt)(p q:QV)(x:Edge)(i k s t t':Nat):QE 8 (QGw d i k p q s) (((K5 d)::(Kx d)::(K0 d i)::List.append (waw p q) ([(Zb x),(32,.mp (JE [(i:Int),(s:Int),(k:Int),(t:Int)] (KM (i:Int) (s:Int) (k:Int) (t:Int)) (Value.int i64 (Jo d.pK x q.down).1) E.2 E.1) (clL [(i:Int),(s:Int),(k:Int),(t:Int)] E.2 E.1))]))) (Ve d F p q x i k s t')=(some ((vI d i)++(HX k)++(Xg p)++(YE p)++(QB1 s)++(Zl q)++(Zs q)++[(3:Int)=(t':Int),x.kind=x.kind]++(QEA x) ++ (Xg p)++(YE p)++(Zl q)++(Zs q)++[d.pK.length=d.pK.length]++(Jx d)++[d.pK.length=d.pK.length]++(Jx d)++([JE [(i:Int),(s:Int),(k:Int),(t:Int)] (KM (i:Int) (s:Int) (k:Int) (t:Int)) (Value.int i64 (Jo d.pK x q.down).1) E.2 E.1=F.1,clL [(i:Int),(s:Int),(k:Int),(t:Int)] E.2 E.1=F.2]++wad d))):=by kernel_rfl
abbrev QJZ(E:ECt)(F:ECt)(d:Puz)(i:Nat)(k:Nat)(p:QV)(q:QV)(s:Nat)(t':Nat)(x:Edge):List Prop:=
  (((waZ d i k)++wab p++((wcm s)++wac q++([(3
  : Int)=(t':Int),x.kind=x.kind]++waL x))++wab p++(wac q))++waa d++[cO=cO]++waa d++([cO=cO,E.1=F.1,E.2=F.2]++wad d))
theorem QUb(E F:ECt)(p q:QV)(x:Edge)(i k s t':Nat):QE 8 (QGw d i k p q s) ((VQ E d i p q x)) (Ve d F p q x i k s t')=(some (QJZ E F d i k p q s t' x)):=by kernel_rfl
theorem Qct(E F:ECt)(p q:QV)(x:Edge)(i k s t':Nat):QE 8 (QGw d i k p q s) ((VQ E d i p q x)) (Ve d F p q x i k s t')=(some (QJZ E F d i k p q s t' x)):=by kernel_rfl
abbrev QGo(p:QV)(q:QV)(s:Nat):List AV:=
  (.ptr 8 0 0::.ptr 48 0 0::.slz 0 0 d.ps.n cO::vi (d.ps.n:Int)::vi (i:Int)::vi (i:Int)::.ptr 56 0 0::.slz 0 0 d.ps.n cO::.int false .i64 (d.ps.n:Int)::List.append (waz k p q s) ([vj 4]))
theorem QTn(E F:ECt)(p q:QV)(x:Edge)(i k s t t':Nat):QE 8 (QGo d i k p q s) (((K5 d)::(Kx d)::(K0 d i)::List.append (waw p q) ([(Zb x),(32,.mp (JE [(i:Int),(s:Int),(k:Int),(t:Int)] (KM (i:Int) (s:Int) (k:Int) (t:Int)) (Value.int i64 (Jo d.pK x q.left).1) E.2 E.1) (clL [(i:Int),(s:Int),(k:Int),(t:Int)] E.2 E.1))]))) (Ve d F p q x i k s t')=(some ((vI d i)++(HX k)++(Xg p)++(YE p)++(QB1 s)++(Zl q)++(Zs q)++[(4:Int)=(t':Int),x.kind=x.kind]++(QEA x) ++ (Xg p)++(YE p)++(Zl q)++(Zs q)++[d.pK.length=d.pK.length]++(Jx d)++[d.pK.length=d.pK.length]++(Jx d)++([JE [(i:Int),(s:Int),(k:Int),(t:Int)] (KM (i:Int) (s:Int) (k:Int) (t:Int)) (Value.int i64 (Jo d.pK x q.left).1) E.2 E.1=F.1,clL [(i:Int),(s:Int),(k:Int),(t:Int)] E.2 E.1=F.2]++wad d))):=by kernel_rfl
abbrev QMP(E:ECt)(F:ECt)(d:Puz)(i:Nat)(k:Nat)(p:QV)(q:QV)(s:Nat)(t':Nat)(x:Edge):List Prop:=
  (((waZ d i k)++wab p++((wcm s)++wac q++([(4
  : Int)=(t':Int),x.kind=x.kind]++waL x))++wab p++(wac q))++waa d++[cO=cO]++waa d++([cO=cO,E.1=F.1,E.2=F.2]++wad d))
theorem Qde(E F:ECt)(p q:QV)(x:Edge)(i k s t':Nat):QE 8 (QGo d i k p q s) ((VQ E d i p q x)) (Ve d F p q x i k s t')=(some (QMP E F d i k p q s t' x)):=by kernel_rfl
theorem QTw(E F:ECt)(p q:QV)(x:Edge)(i k s t':Nat):QE 8 (QGo d i k p q s) ((VQ E d i p q x)) (Ve d F p q x i k s t')=(some (QMP E F d i k p q s t' x)):=by kernel_rfl
theorem QbE(E F:ECt)(p q:QV)(i k s:Nat):QE 8 (List.append (waF d i) ((List.append (wbM k p) ([vi (s:Int)])))) (((K5 d)::(Kx d)::(K0 d i)::List.append (waw p q) ([(32,.mp E.1 E.2)]))) (QII d F p q i k s)=(some ((vI d i)++(HX k)++(Xg p)++(YE p)++[(s:Int)=(s:Int)]++(Xg p)++(YE p)++(Zl q)++(Zs q)++[d.pK.length=d.pK.length]++(Jx d)++[d.pK.length=d.pK.length]++(Jx d)++([E.1=F.1,E.2=F.2]++wad d))):=by kernel_rfl
abbrev QDA(p:QV)(s:Nat):List AV:=
  (List.append (wbp d) ((vi (i:Int)::vi (i:Int)::.ptr 56 0 0::.slz 0 0 d.ps.n cO::.int false .i64 (d.ps.n:Int)::List.append (wbM k p) ([vi (i64.wrap ((s:Int)+1))]))))
abbrev QBj(F:ECt)(F':ECt)(d:Puz)(i:Nat)(k:Nat)(p:QV)(q:QV)(s:Nat)(s':Nat):List Prop:=
  (((waZ d i k)++wab p++[i64.wrap ((s:Int)+1)=(s':Int)]++wab p++(wac q))++waa d++[cO=cO]++waa d++([cO=cO,F.1=F'.1,F.2=F'.2]++wad d))
theorem QVi(F F':ECt)(p q:QV)(i k s s':Nat):QE 8 (QDA d i k p s) (((K5 d)::(Kx d)::(K0 d i)::List.append (waw p q) ([(32,.mp F.1 F.2)]))) (qe d F' p q i k s')=(some (QBj F F' d i k p q s s')):=by kernel_rfl
theorem QWC(F F':ECt)(p q:QV)(i k s s':Nat):QE 8 (QDA d i k p s) (((K5 d)::(Kx d)::(K0 d i)::List.append (waw p q) ([(32,.mp F.1 F.2)]))) (qe d F' p q i k s')=(some (QBj F F' d i k p q s s')):=by kernel_rfl
theorem QcC(F F':ECt)(p q:QV)(i k s s':Nat):QE 8 (QDA d i k p s) (((K5 d)::(Kx d)::(K0 d i)::List.append (waw p q) ([(32,.mp F.1 F.2)]))) (qe d F' p q i k s')=(some (QBj F F' d i k p q s s')):=by kernel_rfl
theorem QT1(F F':ECt)(p q:QV)(i k s s':Nat):QE 8 (QDA d i k p s) (((K5 d)::(Kx d)::(K0 d i)::List.append (waw p q) ([(32,.mp F.1 F.2)]))) (qe d F' p q i k s')=(some (QBj F F' d i k p q s s')):=by kernel_rfl
theorem QT6(E F':ECt)(p:QV)(i k:Nat):QE 8 (List.append (waF d i) ([vi (k:Int)])) ([(K5 d),(Kx d),(K0 d i),(56,.cells 7 70 (Ka p)),(32,.mp E.1 E.2)]) (QGC d F' p i k)=(some ((vI d i)++[(k:Int)=(k:Int)]++(Xg p)++(YE p)++[d.pK.length=d.pK.length]++(Jx d)++[d.pK.length=d.pK.length]++(Jx d)++([E.1=F'.1,E.2=F'.2]++wad d))):=by kernel_rfl
theorem QTA(F F':ECt)(p:QV)(i k k':Nat):QE 8 (List.append (waF d i) ([vi (i64.wrap ((k:Int)+1))])) ([(K5 d),(Kx d),(K0 d i),(56,.cells 7 70 (Ka p)),(32,.mp F.1 F.2)]) (QAV d F' p i k')=(some ((vI d i)++[i64.wrap ((k:Int)+1)=(k':Int)]++(Xg p)++(YE p)++[d.pK.length=d.pK.length]++(Jx d) ++ [d.pK.length=d.pK.length]++(Jx d)++([F.1=F'.1,F.2=F'.2]++wad d))):=by kernel_rfl
abbrev QKQ:List Prop:=
  [0=0,0=0,0=0,0=0]
theorem Qei(E F':ECt)(i:Nat):QE 8 (List.append (wbp d) ([vi (i:Int)])) ([(K5 d),(Kx d),(K0 d i),(32,.mp E.1 E.2)]) (QFE d F' i)=(some (QKQ++([0=0]++wb6 d++[(i:Int)=(i:Int),d.pK.length=d.pK.length])++(Jx d) ++ [d.pK.length=d.pK.length]++(Jx d)++([E.1=F'.1,E.2=F'.2]++wad d))):=by kernel_rfl
theorem QSw(F F':ECt)(i i':Nat):QE 8 (List.append (wbp d) ([vi (i64.wrap ((i:Int)+1))])) ([(K5 d),(Kx d),(K0 d i), (32,.mp F.1 F.2)]) (QAr d F' i')=(some (QKQ++([0=0]++wb6 d++[i64.wrap ((i:Int)+1)=(i':Int),d.pK.length=d.pK.length])++(Jx d)++[d.pK.length=d.pK.length]++(Jx d)++([F.1=F'.1,F.2=F'.2]++wad d))):=by kernel_rfl
theorem QWB(E F':ECt):QE 8 [.ptr 48 0 0] ([(Kx d),(0,.frz QKD d.ps.n λi=>QA.enc (d.ps.get i)),(32,.mp E.1 E.2)]) (QIA d F')=(some ([0=0,0=0,d.pK.length=d.pK.length] ++ (Jx d)++([E.1=F'.1,E.2=F'.2]++wad d))):=by kernel_rfl
