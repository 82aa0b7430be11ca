/- - -/
import Derived.Test.YtekbmehgcofnkaaGreatVv
noncomputable section
open Go.Proofs.Tryz
open Go.IntKind (i64)
set_option maxRecDepth 100000
namespace Go.Proofs.YtekbmehgcofnkaaGreat
open Go.SX Go.SX.Told
abbrev ECt:=List MapEntry×Nat
variable (d:Puz)(p:Qb)(i:Nat)(q:Qb)(k:Nat)(x:Edge)(s:Nat)
def KI:Edge:=match s with
 | 0=>p.up
 | 1=>p.right
 | 2=>p.down
 | _=>p.left
def QUV:List AV:=KZ d++[.map 32,.nils]
def nbB(E:ECt):List (Nat×Blk):=[(8,.cells 0 28 (KZ d)),(48,.cells 0 152 (QUV d)),(32,.mp E.1 E.2)]++Qg.blk 0 d.ps
def QJi:List (Nat×AV):=[(1,.ptr 8 0 0),(3,.ptr 48 0 0),(19,.slz 0 0 d.ps.n (.of 0)),(20,.int false .i64 d.ps.n),(21,.int false .i64 i)]
def QKb:List (Nat×AV):=QJi d i++[(4,.int false .i64 i),(5,.ptr 56 0 0),(27,.slz 0 0 d.ps.n (.of 0)),(28,.int false .i64 d.ps.n),(29,.int false .i64 k)]
def QHW(p:Qb)(s:Nat):List (Nat×AV):=QKb d i k++[(6,.int false .i64 k),(7,.ptr 64 0 0),(35,Enc.enc p),(36,.int false .i64 s)]
def Qb8(p q:Qb)(s t:Nat):List (Nat×AV):=QHW d i k p s++[(8,.int false .i64 s),(9,.ptr 72 0 0),(41,Enc.enc q),(42,.int false .i64 t)]
def pcB(id:Nat)(p:Qb):Nat×Blk:=(id,.cells 7 70 (Enc.enc p).cells)
def edB(id:Nat)(x:Edge):Nat×Blk:=(id,.cells 0 55 (Enc.enc x).cells)
def QB5(E:ECt)(i:Nat):JSt:=⟨78,QJi d i,nbB d E,104⟩
def QKw(E:ECt):JSt:=⟨78,[(3,.ptr 48 0 0)],[(48,.cells 0 152 (QUV d)),(32,.mp E.1 E.2)]++Qg.blk 0 d.ps,104⟩
def QBX(E:ECt)(p:Qb)(i k:Nat):JSt:=⟨78,QKb d i k,pcB 56 p::nbB d E,104⟩
def QKF(E:ECt)(i:Nat):JSt:=⟨78,QJi d i,nbB d E,104⟩
def qK(E:ECt)(p q:Qb)(i k s:Nat):JSt:=⟨78,QHW d i k p s,pcB 56 p::pcB 64 q::nbB d E,104⟩
def QJB(E:ECt)(p:Qb)(i k:Nat):JSt:=⟨78,QKb d i k,pcB 56 p::nbB d E,104⟩
def Vs(E:ECt)(p q:Qb)(x:Edge)(i k s t:Nat):JSt:=⟨78,Qb8 d i k p q s t,edB 72 x::pcB 56 p::pcB 64 q::nbB d E,104⟩
def QH7(E:ECt)(p q:Qb)(i k s:Nat):JSt:=⟨78,QHW d i k p s,pcB 56 p::pcB 64 q::nbB d E,104⟩
def QQp:List Nat:=[1,3,19,20,21]
def QRH:List Nat:=[1,3,19,20,21,4,5,27,28,29]
def QQL:List Nat:=[1,3,19,20,21,4,5,27,28,29,6,7,35,36]
def Qgv:List Nat:=[1,3,19,20,21,4,5,27,28,29,6,7,35,36,8,9,41,42]
def QPI:Ex->List Nat
 | .normal=>QQp
 | .exit _=>[3]
 | .ret=>[]
def QVs:Ex->List Nat
 | .normal=>QRH
 | .exit _=>QQp
 | .ret=>[]
def QS4:Ex->List Nat
 | .normal=>QQL
 | .exit _=>QRH
 | .ret=>[]
def QLn:Ex->List Nat
 | .normal=>Qgv
 | .exit _=>QQL
 | .ret=>[]
abbrev Ku:List AV:=
  ((Enc.enc (p:Qb)).cells)
abbrev JQ:List AV:=
  ((Enc.enc (q:Qb)).cells)
abbrev wbX(k:Nat)(p:Qb):List AV:=[vi (k:Int),vi (k:Int),.ptr 64 0 0,.agg (Ku p)]
abbrev waw(k:Nat)(p:Qb)(q:Qb)(s:Nat):List AV:=(List.append (wbX k p) ([vi (s:Int),vi (s :
  Int),.ptr 72 0 0,.agg (JQ q)]))
abbrev QID(p:Qb)(q:Qb)(s:Nat):List AV:=
  (.nilp::.ptr 78 0 0::.ptr 8 0 0::.ptr 48 0 0::.slz 0 0 d.ps.n cO::vi (d.ps.n:Int)::vi (i:Int)::vi (i:Int)::.ptr 56 0 0::.slz 0 0
  d.ps.n cO::vi (d.ps.n:Int)::List.append (waw k p q s) ([vj 1]))
abbrev JO:Nat×Blk:=
  (8,.cells 0 28 (waf d))
abbrev JD:Nat×Blk:=
  (48,.cells 0 152 (List.append (waf d) ([.map 32,.nils])))
abbrev QM5:List CK:=
  (wae)
abbrev JK(i:Nat):Nat×Blk:=
  (0,.frz QM5 d.ps.n λi=>QA.enc (d.ps.get i))
abbrev We:Nat×Blk:=
  (72,.cells 0 55 [vi x.kind,vi x.at_.lo,vi x.at_.hi,vi x.wide.lo,vi x.wide.hi,vi x.deep.lo,.int
  false .i64 x.deep.hi])
abbrev wau(p:Qb)(q:Qb):List (Nat×Blk):=[(56,.cells 7 70 (Ku p)),(64,.cells 7 70 (JQ q))]
abbrev V3(E:ECt)(d:Puz)(i:Nat)(p:Qb)(q:Qb)(x:Edge):List (Nat×Blk):=
  ((JO d)::(JD d)::(JK d i)::List.append (wau p q) ([(We x),(32,.mp E.1 E.2)]))
abbrev QJk(p:Qb)(q:Qb)(s:Nat):List AV:=
  (.nilp::.ptr 78 0 0::.ptr 8 0 0::.ptr 48 0 0::.slz 0 0 d.ps.n cO::vi (d.ps.n:Int)::vi (i:Int)::vi (i:Int)::.ptr 56 0 0::.slz 0 0
  d.ps.n cO::vi (d.ps.n:Int)::List.append (waw k p q s) ([vj 2]))
abbrev QJm(p:Qb)(q:Qb)(s:Nat):List AV:=
  (.nilp::.ptr 78 0 0::.ptr 8 0 0::.ptr 48 0 0::.slz 0 0 d.ps.n cO::vi (d.ps.n:Int)::vi (i:Int)::vi (i:Int)::.ptr 56 0 0::.slz 0 0
  d.ps.n cO::vi (d.ps.n:Int)::List.append (waw k p q s) ([vj 3]))
abbrev QIX(p:Qb)(q:Qb)(s:Nat):List AV:=
  (.nilp::.ptr 78 0 0::.ptr 8 0 0::.ptr 48 0 0::.slz 0 0 d.ps.n cO::vi (d.ps.n:Int)::vi (i:Int)::vi (i:Int)::.ptr 56 0 0::.slz 0 0
  d.ps.n cO::vi (d.ps.n:Int)::List.append (waw k p q s) ([vj 4]))
abbrev wax(d:Puz)(i:Nat):List AV:=[vi (d.ps.n:Int),vi (i:Int),vi (i:Int),.ptr 56 0 0]
theorem QdK(E:ECt)(p q:Qb)(x:Edge)(i k s t:Nat)(g:Nat->Value):exec (mkF prog KW) (hnd (mkF prog KW) 1) (QW (QW (QW (QI f60 0)))) (JSt.inst (Vs d E p q x i k s t) g) (Q5 [] QLn) = .br (decide ((t:Int)<4)) (.need (decide ((0:Int)<=(t:Int)/\(t:Int)<4)) (.br (decide ((t:Int)=0)) (.need (true) (.br ((i:Int) != (k:Int)) (.br ((JN d.pK x q.up).1 != 0) (.need (wf4 i64 E.1) (.leaf (.tup (QID d i k p q s)) (((JO d)::(JD d)::(JK d i)::List.append (wau p q) ([(We x),(32,.mp (JZ [(i:Int),(s:Int),(k:Int),(t:Int)] (Kd (i:Int) (s:Int) (k:Int) (t:Int)) (Value.int i64 (JN d.pK x q.up).1) E.2 E.1) (clL [(i:Int),(s:Int),(k:Int),(t:Int)] E.2 E.1))]))))) (.leaf (.tup (QID d i k p q s)) ((V3 E d i p q x)))) (.leaf (.tup (QID d i k p q s)) ((V3 E d i p q x))))) (.br (decide ((t:Int)=1)) (.need (true) (.br ((i:Int) != (k:Int)) (.br ((JN d.pK x q.right).1 != 0) (.need (wf4 i64 E.1) (.leaf (.tup (QJk d i k p q s)) (((JO d)::(JD d)::(JK d i)::List.append (wau p q) ([(We x),(32,.mp (JZ [(i:Int),(s:Int),(k:Int),(t:Int)] (Kd (i:Int) (s:Int) (k:Int) (t:Int)) (Value.int i64 (JN d.pK x q.right).1) E.2 E.1) (clL [(i:Int),(s:Int),(k:Int),(t:Int)] E.2 E.1))]))))) (.leaf (.tup (QJk d i k p q s)) ((V3 E d i p q x)))) (.leaf (.tup (QJk d i k p q s)) ((V3 E d i p q x))))) (.br (decide ((t:Int)=2)) (.need (true) (.br ((i:Int) != (k:Int)) (.br ((JN d.pK x q.down).1 != 0) (.need (wf4 i64 E.1) (.leaf (.tup (QJm d i k p q s)) (((JO d)::(JD d)::(JK d i)::List.append (wau p q) ([(We x),(32,.mp (JZ [(i:Int),(s:Int),(k:Int),(t:Int)] (Kd (i:Int) (s:Int) (k:Int) (t:Int)) (Value.int i64 (JN d.pK x q.down).1) E.2 E.1) (clL [(i:Int),(s:Int),(k:Int),(t:Int)] E.2 E.1))]))))) (.leaf (.tup (QJm d i k p q s)) ((V3 E d i p q x)))) (.leaf (.tup (QJm d i k p q s)) ((V3 E d i p q x))))) (.need (true) (.br ((i:Int) != (k:Int)) (.br ((JN d.pK x q.left).1 != 0) (.need (wf4 i64 E.1) (.leaf (.tup (QIX d i k p q s)) (((JO d)::(JD d)::(JK d i)::List.append (wau p q) ([(We x),(32,.mp (JZ [(i:Int),(s:Int),(k:Int),(t:Int)] (Kd (i:Int) (s:Int) (k:Int) (t:Int)) (Value.int i64 (JN d.pK x q.left).1) E.2 E.1) (clL [(i:Int),(s:Int),(k:Int),(t:Int)] E.2 E.1))]))))) (.leaf (.tup (QIX d i k p q s)) ((V3 E d i p q x)))) (.leaf (.tup (QIX d i k p q s)) ((V3 E d i p q x))))))))) (.leaf (.tup (.ptr 6 0 0::.ptr 78 0 0::.ptr 8 0 0::.ptr 48 0 0::.slz 0 0 d.ps.n cO::List.append (wax d i) ((List.append (wbp d) ((List.append (wbX k p) ([vi (s:Int)]))))))) (((JO d)::(JD d)::(JK d i)::List.append (wau p q) ([(32,.mp E.1 E.2)])))):=by kernel_rfl
abbrev QKS(P:Program)(d:Puz)(E F:ECt)(p q:Qb)(x:Edge)(i k s:Nat):Hnd:={ hnd (mkF P KW) 1 with loop:=λ_=>KF 8 [] (Vs d E p q x i k s (0:Nat)) [(True,.exit 6,QH7 d F p q i k s)] }
abbrev QC9(p:Qb)(s:Nat):List AV:=
  (.nilp::.ptr 78 0 0::.ptr 8 0 0::.ptr 48 0 0::.slz 0 0 d.ps.n cO::List.append (wax d i) ((List.append (wbp d) ((List.append (wbX k p) ([vi (i64.wrap ((s:Int) +
  1))]))))))
abbrev waG(p:Qb):List Prop:=[p.up.wide.hi=p.up.wide.hi,p.up.deep.lo=p.up.deep.lo,p.up.deep.hi=p.up.deep.hi,p.right.kind=p.right.kind,p.right.at_.lo=p.right.at_.lo,p.right.at_.hi=p.right.at_.hi,p.right.wide.lo=p.right.wide.lo,p.right.wide.hi=p.right.wide.hi,p.right.deep.lo=p.right.deep.lo,p.right.deep.hi=p.right.deep.hi,p.down.kind=p.down.kind,p.down.at_.lo=p.down.at_.lo,p.down.at_.hi=p.down.at_.hi,p.down.wide.lo=p.down.wide.lo,p.down.wide.hi=p.down.wide.hi,p.down.deep.lo=p.down.deep.lo,p.down.deep.hi=p.down.deep.hi,p.left.kind=p.left.kind,p.left.at_.lo=p.left.at_.lo,p.left.at_.hi=p.left.at_.hi,p.left.wide.lo=p.left.wide.lo,p.left.wide.hi=p.left.wide.hi,p.left.deep.lo=p.left.deep.lo,p.left.deep.hi=p.left.deep.hi]
abbrev wab(p:Qb):List Prop:=([p.up.kind=p.up.kind,p.up.at_.lo=p.up.at_.lo,p.up.at_.hi=p.up.at_.hi,p.up.wide.lo=p.up.wide.lo]++waG p)
abbrev wa0(q:Qb):List Prop:=[q.up.wide.hi=q.up.wide.hi,q.up.deep.lo=q.up.deep.lo,q.up.deep.hi=q.up.deep.hi,q.right.kind=q.right.kind,q.right.at_.lo=q.right.at_.lo,q.right.at_.hi=q.right.at_.hi,q.right.wide.lo=q.right.wide.lo,q.right.wide.hi=q.right.wide.hi,q.right.deep.lo=q.right.deep.lo,q.right.deep.hi=q.right.deep.hi,q.down.kind=q.down.kind,q.down.at_.lo=q.down.at_.lo,q.down.at_.hi=q.down.at_.hi,q.down.wide.lo=q.down.wide.lo,q.down.wide.hi=q.down.wide.hi,q.down.deep.lo=q.down.deep.lo,q.down.deep.hi=q.down.deep.hi,q.left.kind=q.left.kind,q.left.at_.lo=q.left.at_.lo,q.left.at_.hi=q.left.at_.hi,q.left.wide.lo=q.left.wide.lo,q.left.wide.hi=q.left.wide.hi,q.left.deep.lo=q.left.deep.lo,q.left.deep.hi=q.left.deep.hi]
abbrev waA(q:Qb):List Prop:=([q.up.kind=q.up.kind,q.up.at_.lo=q.up.at_.lo,q.up.at_.hi=q.up.at_.hi,q.up.wide.lo=q.up.wide.lo]++wa0 q)
abbrev waZ(d:Puz)(i:Nat)(k:Nat):List Prop:=([0=0,0=0,0=0,0=0,0=0]++wbO d++[(i:Int)=(i:Int),(i:Int)=(i:Int),0=0,0=0,0=0]++wbO d++[(k:Int)=(k:Int),(k:Int)=(k:Int),0=0,0=0])
abbrev wbI(F:ECt)(p:Qb)(q:Qb):List (Nat×Blk):=[(56,.cells 7 70 (Ku p)),(64,.cells 7 70 (JQ q)),(32,.mp F.1 F.2)]
abbrev wbP(E:ECt)(d:Puz):List Prop:=[E.1=E.1,E.2=E.2,d.ps.n<=d.ps.n,QB 28 d.ps.n (λi=>QA.enc (d.ps.get i)) λi=>QA.enc (d.ps.get i)]
theorem QbS(E F:ECt)(p q:Qb)(x:Edge)(i k s:Nat)(g:Nat->Value):exec (mkF prog KW) (QKS prog d E F p q x i k s) (QW (QW (QI f60 0))) (JSt.inst (qK d E p q i k s) g) (Q5 [] QS4) = .br (decide ((s:Int)<4)) (.need (decide ((0:Int)<=(s:Int)/\(s:Int)<4)) (.br (decide ((s:Int)=0)) (.ak (((waZ d i k)++wab p++([(0:Int)=(s:Int),(s:Int)=(s:Int),0=0,0=0]++waA q++[(0:Int)=0,p.up.kind=x.kind,p.up.at_.lo=x.at_.lo,p.up.at_.hi=x.at_.hi,p.up.wide.lo=x.wide.lo,p.up.wide.hi=x.wide.hi,p.up.deep.lo=x.deep.lo,p.up.deep.hi=x.deep.hi])++wab p++(waA q))++waa d++[cO=cO]++waa d++([cO=cO]++wbP E d)) (.asm (True) (.all (λ(g0:Nat->Value)=>.leaf (.tup (QC9 d i k p s)) (((JO d)::(JD d)::(JK d i)::wbI F p q)))))) (.br (decide ((s:Int)=1)) (.ak (((waZ d i k)++wab p++([(1:Int)=(s:Int),(s:Int)=(s:Int),0=0,0=0]++waA q++[(0:Int)=0,p.right.kind=x.kind,p.right.at_.lo=x.at_.lo,p.right.at_.hi=x.at_.hi,p.right.wide.lo=x.wide.lo,p.right.wide.hi=x.wide.hi,p.right.deep.lo=x.deep.lo,p.right.deep.hi=x.deep.hi])++wab p++(waA q))++waa d++[cO=cO]++waa d++([cO=cO]++wbP E d)) (.asm (True) (.all (λ(g1:Nat->Value)=>.leaf (.tup (QC9 d i k p s)) (((JO d)::(JD d)::(JK d i)::wbI F p q)))))) (.br (decide ((s:Int)=2)) (.ak (((waZ d i k)++wab p++([(2:Int)=(s:Int),(s:Int)=(s:Int),0=0,0=0]++waA q++[(0:Int)=0,p.down.kind=x.kind,p.down.at_.lo=x.at_.lo,p.down.at_.hi=x.at_.hi,p.down.wide.lo=x.wide.lo,p.down.wide.hi=x.wide.hi,p.down.deep.lo=x.deep.lo,p.down.deep.hi=x.deep.hi])++wab p++(waA q))++waa d++[cO=cO]++waa d++([cO=cO]++wbP E d)) (.asm (True) (.all (λ(g2:Nat->Value)=>.leaf (.tup (QC9 d i k p s)) (((JO d)::(JD d)::(JK d i)::wbI F p q)))))) (.ak (((waZ d i k)++wab p++([(3:Int)=(s:Int),(s:Int)=(s:Int),0=0,0=0]++waA q++[(0:Int)=0,p.left.kind=x.kind,p.left.at_.lo=x.at_.lo,p.left.at_.hi=x.at_.hi,p.left.wide.lo=x.wide.lo,p.left.wide.hi=x.wide.hi,p.left.deep.lo=x.deep.lo,p.left.deep.hi=x.deep.hi])++wab p++(waA q))++waa d++[cO=cO]++waa d++([cO=cO]++wbP E d)) (.asm (True) (.all (λ(g3:Nat->Value)=>.leaf (.tup (QC9 d i k p s)) (((JO d)::(JD d)::(JK d i)::wbI F p q)))))))))) (.leaf (.tup (.ptr 4 0 0::.ptr 78 0 0::.ptr 8 0 0::.ptr 48 0 0::List.append (wbp d) (vi (i:Int)::vi (i:Int)::.ptr 56 0 0::List.append (wbp d) ([vi (k:Int)])))) ([(JO d),(JD d),(JK d i),(56,.cells 7 70 (Ku p)),(32,.mp E.1 E.2)])):=by kernel_rfl
abbrev QK9(P:Program)(d:Puz)(E F:ECt)(p q:Qb)(i k:Nat):Hnd:={ hnd (mkF P KW) 1 with loop:=λ_=>Ks (k<d.ps.n) (KF 8 [] (qK d E p q i k (0:Nat)) [(True,.exit 4,QJB d F p i k)]) }
theorem Qia(E F:ECt)(p q:Qb)(i k:Nat)(g:Nat->Value):exec (mkF prog KW) (QK9 prog d E F p q i k) (QW (QI f60 0)) (JSt.inst (QBX d E p i k) g) (Q5 [] QVs) = .br (decide ((k:Int)<(d.ps.n:Int))) (.need (decide ((0:Int)<=(k:Int)/\(k:Int)<(d.ps.n:Int))&&decide (d.ps.n<=d.ps.n)) (.need (decide (k<d.ps.n)) (.ak ((([k<d.ps.n]++waZ d i k)++wab p++[(0:Int)=0]++wab p++[(d.ps.get k).up.kind=q.up.kind,(d.ps.get k).up.at_.lo=q.up.at_.lo,(d.ps.get k).up.at_.hi=q.up.at_.hi,(d.ps.get k).up.wide.lo=q.up.wide.lo,(d.ps.get k).up.wide.hi=q.up.wide.hi,(d.ps.get k).up.deep.lo=q.up.deep.lo,(d.ps.get k).up.deep.hi=q.up.deep.hi,(d.ps.get k).right.kind=q.right.kind,(d.ps.get k).right.at_.lo=q.right.at_.lo,(d.ps.get k).right.at_.hi=q.right.at_.hi,(d.ps.get k).right.wide.lo=q.right.wide.lo,(d.ps.get k).right.wide.hi=q.right.wide.hi,(d.ps.get k).right.deep.lo=q.right.deep.lo,(d.ps.get k).right.deep.hi=q.right.deep.hi,(d.ps.get k).down.kind=q.down.kind,(d.ps.get k).down.at_.lo=q.down.at_.lo,(d.ps.get k).down.at_.hi=q.down.at_.hi,(d.ps.get k).down.wide.lo=q.down.wide.lo,(d.ps.get k).down.wide.hi=q.down.wide.hi,(d.ps.get k).down.deep.lo=q.down.deep.lo,(d.ps.get k).down.deep.hi=q.down.deep.hi,(d.ps.get k).left.kind=q.left.kind,(d.ps.get k).left.at_.lo=q.left.at_.lo,(d.ps.get k).left.at_.hi=q.left.at_.hi,(d.ps.get k).left.wide.lo=q.left.wide.lo,(d.ps.get k).left.wide.hi=q.left.wide.hi,(d.ps.get k).left.deep.lo=q.left.deep.lo,(d.ps.get k).left.deep.hi=q.left.deep.hi])++waa d++[cO=cO]++waa d++([cO=cO,E.1=E.1,E.2=E.2]++wad d)) (.asm (True) (.all (λ(g0:Nat -> Value)=>.leaf (.tup (.nilp::.ptr 78 0 0::.ptr 8 0 0::.ptr 48 0 0::.slz 0 0 d.ps.n cO::List.append (wax d i) ((List.append (wbp d) ([vi (i64.wrap ((k:Int)+1))]))))) ([(JO d),(JD d),(JK d i),(56,.cells 7 70 (Ku p)),(32,.mp F.1 F.2)]))))))) (.leaf (.tup (.ptr 2 0 0::.ptr 78 0 0::.ptr 8 0 0::.ptr 48 0 0::List.append (wbp d) ([vi (i:Int)]))) ([(JO d),(JD d),(JK d i),(32,.mp E.1 E.2)])):=by kernel_rfl
abbrev QJ1(P:Program)(d:Puz)(E F:ECt)(p:Qb)(i:Nat):Hnd:={ hnd (mkF P KW) 1 with loop:=λ_=>Ks (i<d.ps.n) (KF 8 [] (QBX d E p i (0:Nat)) [(True,.exit 2,QKF d F i)]) }
theorem QWq(E F:ECt)(p:Qb)(i:Nat)(g:Nat->Value):exec (mkF prog KW) (QJ1 prog d E F p i) (QI f60 0) (JSt.inst (QB5 d E i) g) (Q5 [] QPI) = .br (decide ((i:Int)<(d.ps.n:Int))) (.need (decide ((0:Int)<=(i:Int)/\(i:Int)<(d.ps.n:Int))&&decide (d.ps.n<=d.ps.n)) (.need (decide (i<d.ps.n)) (.ak (([i<d.ps.n,0=0,0=0,0=0,0=0,0=0]++wbO d++[(i:Int)=(i:Int),(i:Int)=(i:Int),0=0,0=0,0=0]++wbO d++[(0:Int)=0,(d.ps.get i).up.kind=p.up.kind,(d.ps.get i).up.at_.lo=p.up.at_.lo,(d.ps.get i).up.at_.hi=p.up.at_.hi,(d.ps.get i).up.wide.lo=p.up.wide.lo,(d.ps.get i).up.wide.hi=p.up.wide.hi,(d.ps.get i).up.deep.lo=p.up.deep.lo,(d.ps.get i).up.deep.hi=p.up.deep.hi,(d.ps.get i).right.kind=p.right.kind,(d.ps.get i).right.at_.lo=p.right.at_.lo,(d.ps.get i).right.at_.hi=p.right.at_.hi,(d.ps.get i).right.wide.lo=p.right.wide.lo,(d.ps.get i).right.wide.hi=p.right.wide.hi,(d.ps.get i).right.deep.lo=p.right.deep.lo,(d.ps.get i).right.deep.hi=p.right.deep.hi,(d.ps.get i).down.kind=p.down.kind,(d.ps.get i).down.at_.lo=p.down.at_.lo,(d.ps.get i).down.at_.hi=p.down.at_.hi,(d.ps.get i).down.wide.lo=p.down.wide.lo,(d.ps.get i).down.wide.hi=p.down.wide.hi,(d.ps.get i).down.deep.lo=p.down.deep.lo,(d.ps.get i).down.deep.hi=p.down.deep.hi,(d.ps.get i).left.kind=p.left.kind,(d.ps.get i).left.at_.lo=p.left.at_.lo,(d.ps.get i).left.at_.hi=p.left.at_.hi,(d.ps.get i).left.wide.lo=p.left.wide.lo,(d.ps.get i).left.wide.hi=p.left.wide.hi,(d.ps.get i).left.deep.lo=p.left.deep.lo,(d.ps.get i).left.deep.hi=p.left.deep.hi])++waa d++[cO=cO]++waa d++([cO=cO,E.1=E.1,E.2=E.2]++wad d)) (.asm (True) (.all (λ(g0:Nat->Value)=>.leaf (.tup (.nilp::.ptr 78 0 0::.ptr 8 0 0::.ptr 48 0 0::List.append (wbp d) ([vi (i64.wrap ((i:Int)+1))]))) ([(JO d),(JD d),(JK d i),(32,.mp F.1 F.2)]))))))) (.leaf (.tup [.ptr 0 0 0,.ptr 78 0 0,.ptr 48 0 0]) ([(JD d),(JK d i),(32,.mp E.1 E.2)])):=by kernel_rfl
abbrev QHP(p:Qb)(q:Qb)(s:Nat):List AV:=
  (.ptr 8 0 0::.ptr 48 0 0::.slz 0 0 d.ps.n cO::vi (d.ps.n:Int)::vi (i:Int)::vi (i:Int)::.ptr 56 0 0::.slz 0 0 d.ps.n cO::.int false .i64 (d.ps.n:Int)::List.append (waw k p q s) ([vj 1]))
abbrev vZ:List Prop:=
  ([0=0,0=0,0=0,0=0,0=0]++wbO d++[(i:Int)=(i:Int),(i:Int)=(i:Int),0=0,0=0,0=0]++wbO d)
abbrev QAp:List Prop:=
  [(k:Int)=(k:Int),(k:Int)=(k:Int),0=0,0=0]
abbrev Yp:List Prop:=
  [p.up.kind=p.up.kind,p.up.at_.lo=p.up.at_.lo,p.up.at_.hi=p.up.at_.hi,p.up.wide.lo=p.up.wide.lo]
abbrev YE:List Prop:=
  (waG p)
abbrev wcn(s:Nat):List Prop:=[(s:Int)=(s:Int),(s:Int)=(s:Int),0=0,0=0]
abbrev QEQ:List Prop:=
  (wcn s)
abbrev WZ:List Prop:=
  [q.up.kind=q.up.kind,q.up.at_.lo=q.up.at_.lo,q.up.at_.hi=q.up.at_.hi,q.up.wide.lo=q.up.wide.lo]
abbrev W4:List Prop:=
  (wa0 q)
abbrev wb0(x:Edge):List Prop:=[x.at_.lo=x.at_.lo,x.at_.hi=x.at_.hi,x.wide.lo=x.wide.lo,x.wide.hi=x.wide.hi,x.deep.lo=x.deep.lo,x.deep.hi=x.deep.hi]
abbrev waz(x:Edge):List Prop:=(wb0 x)
abbrev QC4:List Prop:=
  (waz x)
abbrev VF:List Prop:=
  ([d.pK.aK=d.pK.aK]++waC d++[0 =
  0,d.ps.n=d.ps.n,cO=cO])
theorem QbF(E F:ECt)(p q:Qb)(x:Edge)(i k s t t':Nat):QF 8 (QHP d i k p q s) (((JO d)::(JD d)::(JK d i)::List.append (wau p q) ([(We x),(32,.mp (JZ [(i:Int),(s:Int),(k:Int),(t:Int)] (Kd (i:Int) (s:Int) (k:Int) (t:Int)) (Value.int i64 (JN d.pK x q.up).1) E.2 E.1) (clL [(i:Int),(s:Int),(k:Int),(t:Int)] E.2 E.1))]))) (Vs d F p q x i k s t')=(some ((vZ d i)++(QAp k)++(Yp p)++(YE p)++(QEQ s)++(WZ q)++(W4 q)++[(1:Int)=(t':Int),x.kind=x.kind]++(QC4 x) ++ (Yp p)++(YE p)++(WZ q)++(W4 q)++[d.pK.length=d.pK.length]++(VF d)++[d.pK.length=d.pK.length]++(VF d)++([JZ [(i:Int),(s:Int),(k:Int),(t:Int)] (Kd (i:Int) (s:Int) (k:Int) (t:Int)) (Value.int i64 (JN d.pK x q.up).1) E.2 E.1=F.1,clL [(i:Int),(s:Int),(k:Int),(t:Int)] E.2 E.1=F.2]++wad d))):=by kernel_rfl
abbrev wac(q:Qb):List Prop:=(waA q)
abbrev wa9(d:Puz):List Prop:=[d.ps.n<=d.ps.n,QB 28 d.ps.n (λi=>
  QA.enc (d.ps.get i)) λi=>QA.enc (d.ps.get i)]
abbrev QPZ(E:ECt)(F:ECt)(d:Puz)(i:Nat)(k:Nat)(p:Qb)(q:Qb)(s:Nat)(t':Nat)(x:Edge):List Prop:=
  (((waZ d i k)++wab p++((wcn s)++wac q++([(1
  : Int)=(t':Int),x.kind=x.kind]++wb0 x))++wab p++(wac q))++waa d++[cO=cO]++waa d++([cO=cO,E.1=F.1,E.2=F.2]++wa9 d))
theorem QYm(E F:ECt)(p q:Qb)(x:Edge)(i k s t':Nat):QF 8 (QHP d i k p q s) ((V3 E d i p q x)) (Vs d F p q x i k s t')=(some (QPZ E F d i k p q s t' x)):=by kernel_rfl
theorem QcN(E F:ECt)(p q:Qb)(x:Edge)(i k s t':Nat):QF 8 (QHP d i k p q s) ((V3 E d i p q x)) (Vs d F p q x i k s t')=(some (QPZ E F d i k p q s t' x)):=by kernel_rfl
abbrev QK2(p:Qb)(q:Qb)(s:Nat):List AV:=
  (.ptr 8 0 0::.ptr 48 0 0::.slz 0 0 d.ps.n cO::vi (d.ps.n:Int)::vi (i:Int)::vi (i:Int)::.ptr 56 0 0::.slz 0 0 d.ps.n cO::.int false .i64 (d.ps.n:Int)::List.append (waw k p q s) ([vj 2]))
theorem QWu(E F:ECt)(p q:Qb)(x:Edge)(i k s t t':Nat):QF 8 (QK2 d i k p q s) (((JO d)::(JD d)::(JK d i)::List.append (wau p q) ([(We x),(32,.mp (JZ [(i:Int),(s:Int),(k:Int),(t:Int)] (Kd (i:Int) (s:Int) (k:Int) (t:Int)) (Value.int i64 (JN d.pK x q.right).1) E.2 E.1) (clL [(i:Int),(s:Int),(k:Int),(t:Int)] E.2 E.1))]))) (Vs d F p q x i k s t')=(some ((vZ d i)++(QAp k)++(Yp p)++(YE p)++(QEQ s)++(WZ q)++(W4 q)++[(2:Int)=(t':Int),x.kind=x.kind]++(QC4 x) ++ (Yp p)++(YE p)++(WZ q)++(W4 q)++[d.pK.length=d.pK.length]++(VF d)++[d.pK.length=d.pK.length]++(VF d)++([JZ [(i:Int),(s:Int),(k:Int),(t:Int)] (Kd (i:Int) (s:Int) (k:Int) (t:Int)) (Value.int i64 (JN d.pK x q.right).1) E.2 E.1=F.1,clL [(i:Int),(s:Int),(k:Int),(t:Int)] E.2 E.1=F.2]++wad d))):=by kernel_rfl
abbrev QNP(E:ECt)(F:ECt)(d:Puz)(i:Nat)(k:Nat)(p:Qb)(q:Qb)(s:Nat)(t':Nat)(x:Edge):List Prop:=
  (((waZ d i k)++wab p++((wcn s)++wac q++([(2
  : Int)=(t':Int),x.kind=x.kind]++waz x))++wab p++(wac q))++waa d++[cO=cO]++waa d++([cO=cO,E.1=F.1,E.2=F.2]++wad d))
theorem Qk9(E F:ECt)(p q:Qb)(x:Edge)(i k s t':Nat):QF 8 (QK2 d i k p q s) ((V3 E d i p q x)) (Vs d F p q x i k s t')=(some (QNP E F d i k p q s t' x)):=by kernel_rfl
theorem Qiq(E F:ECt)(p q:Qb)(x:Edge)(i k s t':Nat):QF 8 (QK2 d i k p q s) ((V3 E d i p q x)) (Vs d F p q x i k s t')=(some (QNP E F d i k p q s t' x)):=by kernel_rfl
abbrev QIu(p:Qb)(q:Qb)(s:Nat):List AV:=
  (.ptr 8 0 0::.ptr 48 0 0::.slz 0 0 d.ps.n cO::vi (d.ps.n:Int)::vi (i:Int)::vi (i:Int)::.ptr 56 0 0::.slz 0 0 d.ps.n cO::.int false .i64 (d.ps.n:Int)::List.append (waw k p q s) ([vj 3]))
theorem QYj(E F:ECt)(p q:Qb)(x:Edge)(i k s t t':Nat):QF 8 (QIu d i k p q s) (((JO d)::(JD d)::(JK d i)::List.append (wau p q) ([(We x),(32,.mp (JZ [(i:Int),(s:Int),(k:Int),(t:Int)] (Kd (i:Int) (s:Int) (k:Int) (t:Int)) (Value.int i64 (JN d.pK x q.down).1) E.2 E.1) (clL [(i:Int),(s:Int),(k:Int),(t:Int)] E.2 E.1))]))) (Vs d F p q x i k s t')=(some ((vZ d i)++(QAp k)++(Yp p)++(YE p)++(QEQ s)++(WZ q)++(W4 q)++[(3:Int)=(t':Int),x.kind=x.kind]++(QC4 x) ++ (Yp p)++(YE p)++(WZ q)++(W4 q)++[d.pK.length=d.pK.length]++(VF d)++[d.pK.length=d.pK.length]++(VF d)++([JZ [(i:Int),(s:Int),(k:Int),(t:Int)] (Kd (i:Int) (s:Int) (k:Int) (t:Int)) (Value.int i64 (JN d.pK x q.down).1) E.2 E.1=F.1,clL [(i:Int),(s:Int),(k:Int),(t:Int)] E.2 E.1=F.2]++wad d))):=by kernel_rfl
abbrev QLt(E:ECt)(F:ECt)(d:Puz)(i:Nat)(k:Nat)(p:Qb)(q:Qb)(s:Nat)(t':Nat)(x:Edge):List Prop:=
  (((waZ d i k)++wab p++((wcn s)++wac q++([(3
  : Int)=(t':Int),x.kind=x.kind]++waz x))++wab p++(wac q))++waa d++[cO=cO]++waa d++([cO=cO,E.1=F.1,E.2=F.2]++wad d))
theorem Qek(E F:ECt)(p q:Qb)(x:Edge)(i k s t':Nat):QF 8 (QIu d i k p q s) ((V3 E d i p q x)) (Vs d F p q x i k s t')=(some (QLt E F d i k p q s t' x)):=by kernel_rfl
theorem QcK(E F:ECt)(p q:Qb)(x:Edge)(i k s t':Nat):QF 8 (QIu d i k p q s) ((V3 E d i p q x)) (Vs d F p q x i k s t')=(some (QLt E F d i k p q s t' x)):=by kernel_rfl
abbrev QIP(p:Qb)(q:Qb)(s:Nat):List AV:=
  (.ptr 8 0 0::.ptr 48 0 0::.slz 0 0 d.ps.n cO::vi (d.ps.n:Int)::vi (i:Int)::vi (i:Int)::.ptr 56 0 0::.slz 0 0 d.ps.n cO::.int false .i64 (d.ps.n:Int)::List.append (waw k p q s) ([vj 4]))
theorem Qj5(E F:ECt)(p q:Qb)(x:Edge)(i k s t t':Nat):QF 8 (QIP d i k p q s) (((JO d)::(JD d)::(JK d i)::List.append (wau p q) ([(We x),(32,.mp (JZ [(i:Int),(s:Int),(k:Int),(t:Int)] (Kd (i:Int) (s:Int) (k:Int) (t:Int)) (Value.int i64 (JN d.pK x q.left).1) E.2 E.1) (clL [(i:Int),(s:Int),(k:Int),(t:Int)] E.2 E.1))]))) (Vs d F p q x i k s t')=(some ((vZ d i)++(QAp k)++(Yp p)++(YE p)++(QEQ s)++(WZ q)++(W4 q)++[(4:Int)=(t':Int),x.kind=x.kind]++(QC4 x) ++ (Yp p)++(YE p)++(WZ q)++(W4 q)++[d.pK.length=d.pK.length]++(VF d)++[d.pK.length=d.pK.length]++(VF d)++([JZ [(i:Int),(s:Int),(k:Int),(t:Int)] (Kd (i:Int) (s:Int) (k:Int) (t:Int)) (Value.int i64 (JN d.pK x q.left).1) E.2 E.1=F.1,clL [(i:Int),(s:Int),(k:Int),(t:Int)] E.2 E.1=F.2]++wad d))):=by kernel_rfl
abbrev QNq(E:ECt)(F:ECt)(d:Puz)(i:Nat)(k:Nat)(p:Qb)(q:Qb)(s:Nat)(t':Nat)(x:Edge):List Prop:=
  (((waZ d i k)++wab p++((wcn s)++wac q++([(4
  : Int)=(t':Int),x.kind=x.kind]++waz x))++wab p++(wac q))++waa d++[cO=cO]++waa d++([cO=cO,E.1=F.1,E.2=F.2]++wad d))
theorem Qa8(E F:ECt)(p q:Qb)(x:Edge)(i k s t':Nat):QF 8 (QIP d i k p q s) ((V3 E d i p q x)) (Vs d F p q x i k s t')=(some (QNq E F d i k p q s t' x)):=by kernel_rfl
theorem Qg0(E F:ECt)(p q:Qb)(x:Edge)(i k s t':Nat):QF 8 (QIP d i k p q s) ((V3 E d i p q x)) (Vs d F p q x i k s t')=(some (QNq E F d i k p q s t' x)):=by kernel_rfl
theorem QW9(E F:ECt)(p q:Qb)(i k s:Nat):QF 8 (.ptr 8 0 0::.ptr 48 0 0::.slz 0 0 d.ps.n cO::List.append (wax d i) ((List.append (wbp d) ((List.append (wbX k p) ([vi (s:Int)])))))) (((JO d)::(JD d)::(JK d i)::List.append (wau p q) ([(32,.mp E.1 E.2)]))) (QH7 d F p q i k s)=(some ((vZ d i)++(QAp k)++(Yp p)++(YE p)++[(s:Int)=(s:Int)]++(Yp p)++(YE p)++(WZ q)++(W4 q)++[d.pK.length=d.pK.length]++(VF d)++[d.pK.length=d.pK.length]++(VF d)++([E.1=F.1,E.2=F.2]++wad d))):=by kernel_rfl
abbrev QDu(p:Qb)(s:Nat):List AV:=
  (.ptr 8 0 0::.ptr 48 0 0::.slz 0 0 d.ps.n cO::List.append (wax d i) ((.slz 0 0 d.ps.n cO::.int false .i64 (d.ps.n:Int)::List.append (wbX k p) ([vi (i64.wrap ((s:Int)+1))]))))
abbrev QEM(F:ECt)(F':ECt)(d:Puz)(i:Nat)(k:Nat)(p:Qb)(q:Qb)(s:Nat)(s':Nat):List Prop:=
  (((waZ d i k)++wab p++[i64.wrap ((s:Int)+1)=(s':Int)]++wab p++(wac q))++waa d++[cO=cO]++waa d++([cO=cO,F.1=F'.1,F.2=F'.2]++wad d))
theorem QiW(F F':ECt)(p q:Qb)(i k s s':Nat):QF 8 (QDu d i k p s) (((JO d)::(JD d)::(JK d i)::List.append (wau p q) ([(32,.mp F.1 F.2)]))) (qK d F' p q i k s')=(some (QEM F F' d i k p q s s')):=by kernel_rfl
theorem Qdx(F F':ECt)(p q:Qb)(i k s s':Nat):QF 8 (QDu d i k p s) (((JO d)::(JD d)::(JK d i)::List.append (wau p q) ([(32,.mp F.1 F.2)]))) (qK d F' p q i k s')=(some (QEM F F' d i k p q s s')):=by kernel_rfl
theorem Qc7(F F':ECt)(p q:Qb)(i k s s':Nat):QF 8 (QDu d i k p s) (((JO d)::(JD d)::(JK d i)::List.append (wau p q) ([(32,.mp F.1 F.2)]))) (qK d F' p q i k s')=(some (QEM F F' d i k p q s s')):=by kernel_rfl
theorem Qbe(F F':ECt)(p q:Qb)(i k s s':Nat):QF 8 (QDu d i k p s) (((JO d)::(JD d)::(JK d i)::List.append (wau p q) ([(32,.mp F.1 F.2)]))) (qK d F' p q i k s')=(some (QEM F F' d i k p q s s')):=by kernel_rfl
theorem Qid(E F':ECt)(p:Qb)(i k:Nat):QF 8 (.ptr 8 0 0::.ptr 48 0 0::.slz 0 0 d.ps.n cO::List.append (wax d i) ((List.append (wbp d) ([vi (k:Int)])))) ([(JO d),(JD d),(JK d i),(56,.cells 7 70 (Ku p)),(32,.mp E.1 E.2)]) (QJB d F' p i k)=(some ((vZ d i)++[(k:Int)=(k:Int)]++(Yp p)++(YE p)++[d.pK.length=d.pK.length]++(VF d)++[d.pK.length=d.pK.length]++(VF d)++([E.1=F'.1,E.2=F'.2]++wad d))):=by kernel_rfl
theorem QXX(F F':ECt)(p:Qb)(i k k':Nat):QF 8 (.ptr 8 0 0::.ptr 48 0 0::.slz 0 0 d.ps.n cO::List.append (wax d i) ((List.append (wbp d) ([vi (i64.wrap ((k:Int)+1))])))) ([(JO d),(JD d),(JK d i),(56,.cells 7 70 (Ku p)),(32,.mp F.1 F.2)]) (QBX d F' p i k')=(some ((vZ d i)++[i64.wrap ((k:Int)+1)=(k':Int)]++(Yp p)++(YE p)++[d.pK.length=d.pK.length]++(VF d) ++ [d.pK.length=d.pK.length]++(VF d)++([F.1=F'.1,F.2=F'.2]++wad d))):=by kernel_rfl
abbrev QMN:List Prop:=
  [0=0,0=0,0=0,0=0]
theorem QgI(E F':ECt)(i:Nat):QF 8 (.ptr 8 0 0::.ptr 48 0 0::List.append (wbp d) ([vi (i:Int)])) ([(JO d),(JD d),(JK d i),(32,.mp E.1 E.2)]) (QKF d F' i)=(some (QMN++([0=0]++wbO d++[(i:Int)=(i:Int),d.pK.length=d.pK.length])++(VF d) ++ [d.pK.length=d.pK.length]++(VF d)++([E.1=F'.1,E.2=F'.2]++wad d))):=by kernel_rfl
theorem QgG(F F':ECt)(i i':Nat):QF 8 (.ptr 8 0 0::.ptr 48 0 0::List.append (wbp d) ([vi (i64.wrap ((i:Int)+1))])) ([(JO d),(JD d),(JK d i), (32,.mp F.1 F.2)]) (QB5 d F' i')=(some (QMN++([0=0]++wbO d++[i64.wrap ((i:Int)+1)=(i':Int),d.pK.length=d.pK.length])++(VF d)++[d.pK.length=d.pK.length]++(VF d)++([F.1=F'.1,F.2=F'.2]++wad d))):=by kernel_rfl
theorem Qg2(E F':ECt):QF 8 [.ptr 48 0 0] ([(JD d),(0,.frz QM5 d.ps.n λi=>QA.enc (d.ps.get i)),(32,.mp E.1 E.2)]) (QKw d F')=(some ([0=0,0=0,d.pK.length=d.pK.length] ++ (VF d)++([E.1=F'.1,E.2=F'.2]++wad d))):=by kernel_rfl
