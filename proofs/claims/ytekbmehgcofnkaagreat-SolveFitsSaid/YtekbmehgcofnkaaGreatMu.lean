/- - -/
import Derived.Test.YtekbmehgcofnkaaGreatMs
import Derived.Test.YtekbmehgcofnkaaGreatMt
open Go.Proofs.Tryz
set_option maxRecDepth 100000
namespace Go.Proofs.YtekbmehgcofnkaaGreat
open Go.SX
def QKU:Int×Int×Int×Unit->Bool×AV:=λ|(n,(a,(b,_)))=>(true,.bool false (Qv n a b))
def QPl:FC:=Kk (Kn QKU)
theorem QWQ(n:Int)(a:Int)(b:Int):KX (mkE prog QEC) (hnd (mkE prog QEC) 2) false f51 (Q8.enc ((n,a,b,()):Int×Int×Int×Unit)) [] 0=QC.br (decide (a<=n)) (QC.leaf (AV.bool false (decide (n<=b))) ([])) (QC.leaf (AV.bool true false) ([])):=by kernel_rfl
theorem Qcg:QR prog 51 QPl:=by
 refine K0 QSk 2 func51 (by kernel_rfl) (by kernel_rfl) ?_
 rintro⟨n,a,b,⟨⟩⟩ hp;rw[QWQ n a b];simp only[QKU,QC.den,AV.same,AV.sameL,and_true,true_and]at hp ⊢
 (repeat' (first|(refine aI ?_ ?_)|(intro _)))<;>simp_all [Qv]<;>omega
def Yl:Tab:=Qc QEC 51 QPl
theorem QAr:Qe Yl:=QSk.add Qcg
def JW:Edge:=⟨0,⟨0,0⟩,⟨0,0⟩,⟨0,0⟩⟩
theorem QNr(p:Qx)(x:QW)(L:Rw Edge)(hn:L.n=4)(h0:L.get 0=x.up)(h1:L.get 1=x.right)(h2:L.get 2=x.down)(h3:L.get 3=x.left):(Ya p JW L != 0) = !(p.ok&&x.ok):=by
 have z:JW.ok=true:=by decide
 have e:XD p JW L=(p.ok&&x.ok):=by
  simp only[XD,z,Yg,QX,hn,h0,h1,h2,h3,QW.ok,Bool.true_and];cases p.ok<;>cases x.up.ok<;>cases x.right.ok<;>cases x.down.ok<;>cases x.left.ok<;>rfl
 have d:decide (L.n>40)=false:=by rw[hn];rfl
 simp only[Ya,e,d];cases p.ok&&x.ok<;>rfl
variable (d:Puz)(k:Nat)
def VV(i:Nat):Bool := !(d.pK.ok&&(d.ps.get i).ok)
def Puz.okN:Bool:=Qv (d.ps.n:Int) 1 9&&(Qv d.wide 1 d.ps.n&&(Qv d.high 1 d.ps.n&&IntKind.i64.wrap (d.wide*d.high)==(d.ps.n:Int)))
def Puz.ok:Bool:=d.okN&&(QX (VV d) d.ps.n 0).isNone
def KR:List AV:=[.int false .i64 d.pK.length,.int false .i64 d.pK.aK,.int false .i64 d.pK.oK,.int false .i64 d.pK.dK.lo,.int false .i64 d.pK.dK.hi,.int false .i64 d.wide,.int false .i64 d.high,.bool false d.turn,.slz 0 0 d.ps.n (.of 0)]
def ipJ:JSt:=⟨62,[(1,.ptr 8 0 0),(43,.slz 0 0 d.ps.n (.of 0)),(44,.int false .i64 d.ps.n),(45,.int false .i64 k)],[(8,.cells 0 28 (KR d))]++Ql.blk 0 d.ps,48⟩
def QF1:JSt:=⟨62,[(2,.bool false false)],[],48⟩
def QFk:JSt:=⟨62,[],[],48⟩
def QQW:Ex->List Nat
 | .normal=>[1,43,44,45]
 | .exit _=>[]
 | .ret=>[2]
noncomputable abbrev qw:List AV:=
  [vi (d.ps.get k).up.kind,vi (d.ps.get k).up.at_.lo,vi (d.ps.get k).up.at_.hi,vi (d.ps.get k).up.wide.lo,.int false .i64
  (d.ps.get k).up.wide.hi,vi (d.ps.get k).up.deep.lo,vi (d.ps.get k).up.deep.hi]
noncomputable abbrev qZ:List AV:=
  [vi (d.ps.get k).right.kind,vi (d.ps.get k).right.at_.lo,vi (d.ps.get k).right.at_.hi,vi (d.ps.get k).right.wide.lo,.int
  false .i64 (d.ps.get k).right.wide.hi,vi (d.ps.get k).right.deep.lo,vi (d.ps.get k).right.deep.hi]
noncomputable abbrev ji:List AV:=
  [vi (d.ps.get k).down.kind,vi (d.ps.get k).down.at_.lo,vi (d.ps.get k).down.at_.hi,vi (d.ps.get k).down.wide.lo,.int false
  .i64 (d.ps.get k).down.wide.hi,vi (d.ps.get k).down.deep.lo,vi (d.ps.get k).down.deep.hi]
noncomputable abbrev jB:List AV:=
  [vi (d.ps.get k).left.kind,vi (d.ps.get k).left.at_.lo,vi (d.ps.get k).left.at_.hi,vi (d.ps.get k).left.wide.lo,.int false
  .i64 (d.ps.get k).left.wide.hi,vi (d.ps.get k).left.deep.lo,vi (d.ps.get k).left.deep.hi]
noncomputable abbrev waf(d:Puz):List AV:=[vi d.pK.length,vi d.pK.aK,vi d.pK.oK,vi d.pK.dK.lo,vi d.pK.dK.hi,.int
  false .i64 d.wide,vi d.high,.bool false d.turn,.slz 0 0 d.ps.n cO]
noncomputable abbrev QQA:List (Nat×Blk):=
  [(8,.cells 0 28 (waf d)),(0,.frz (List.append (waa) ((List.append (waG) ((List.append (wbk) ([.int .i64])))))) d.ps.n λi=>QA.enc (d.ps.get i))]
theorem QXR(g:Nat->Value):exec (mkE prog Yl) (hnd (mkE prog Yl) 4) (QJ f99 0) (JSt.inst (ipJ d k) g) (Q9 [] QQW) = .br (decide ((k:Int)<(d.ps.n:Int))) (.need (decide ((0:Int)<=(k:Int)/\(k:Int)<(d.ps.n:Int))&&decide (d.ps.n<=d.ps.n)) (.need (decide (k<d.ps.n)) (.need (true&&(true&&(true&&true))&&decide (4<=1000)) (.br (Ya d.pK (Edge.mk (0:Int) (Sp.mk (0:Int) (0:Int)) (Sp.mk (0:Int) (0:Int)) (Sp.mk (0:Int) (0:Int))) (Rw.mk 4 λi=>Edge.mk (Kh [(qw d k),(qZ d k), (ji d k),(jB d k)] 0 i 0) (Sp.mk (Kh [(qw d k),(qZ d k),(ji d k),(jB d k)] 0 i 1) (Kh [(qw d k),(qZ d k),(ji d k),(jB d k)] 0 i 2)) (Sp.mk (Kh [(qw d k),(qZ d k),(ji d k),(jB d k)] 0 i 3) (Kh [(qw d k),(qZ d k),(ji d k),(jB d k)] 0 i 4)) (Sp.mk (Kh [(qw d k),(qZ d k),(ji d k),(jB d k)] 0 i 5) (Kh [(qw d k),(qZ d k),(ji d k),(jB d k)] 0 i 6))) != 0) (.leaf (.tup [.nili,.ptr 62 0 0,.bool true false]) ([])) (.leaf (.tup [.nilp,.ptr 62 0 0,.ptr 8 0 0, .slz 0 0 d.ps.n cO,vi (d.ps.n:Int),vi (IntKind.i64.wrap ((k:Int)+1))]) ((QQA d))))))) (.leaf (.tup [.ptr 0 0 0,.ptr 62 0 0]) ([])):=by kernel_rfl
theorem Qe4 :QG 8 [AV.bool true false] ([]) QF1=( some [false=false]):=by kernel_rfl
abbrev wae(d:Puz):List Prop:=[d.ps.n<=d.ps.n,QB 28 d.ps.n (λi=>QA.enc (d.ps.get i)) λi=>QA.enc (d.ps.get i)]
abbrev waP(d:Puz):List Prop:=[d.pK.oK=d.pK.oK,d.pK.dK.lo=d.pK.dK.lo,d.pK.dK.hi=d.pK.dK.hi,d.wide=d.wide,d.high=d.high,d.turn=d.turn]
abbrev wab(d:Puz):List Prop:=([d.pK.length=d.pK.length,d.pK.aK=d.pK.aK]++waP d++[0=0,d.ps.n=d.ps.n])
abbrev wcI(d:Puz):List Prop:=[d.ps.n=d.ps.n,cO=cO,(d.ps.n:Int)=(d.ps.n:Int)]
theorem QbQ(k k':Nat):QG 8 [.ptr 8 0 0,.slz 0 0 d.ps.n cO,vi (d.ps.n:Int),vi (IntKind.i64.wrap ((k:Int)+1))] ((QQA d)) (ipJ d k')=(some (([0=0,0=0,0=0]++wcI d++[IntKind.i64.wrap ((k:Int)+1)=(k':Int)])++wab d++([cO=cO]++wae d))):=by kernel_rfl
theorem QW1 :QG 8 [] ([]) QFk=( some []):=by kernel_rfl
def ipR(e:Ex)(J:JSt):Prop:=(e = .ret/\(QX (VV d) (d.ps.n-k) k).isNone=false/\J=QF1)∨(e = .exit 0/\(QX (VV d) (d.ps.n-k) k).isNone=true/\J=QFk)
