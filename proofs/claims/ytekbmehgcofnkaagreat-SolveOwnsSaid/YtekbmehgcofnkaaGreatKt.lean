/- - -/
import Derived.Test.YtekbmehgcofnkaaGreatKr
import Derived.Test.YtekbmehgcofnkaaGreatKs
set_option linter.all false
noncomputable section
open Go.Proofs.Tryz
set_option maxRecDepth 100000
namespace Go.Proofs.YtekbmehgcofnkaaGreat
open Go.SX
def QRG:Int×Int×Int×Unit->Bool×AV:=λ|(n,(a,(b,_)))=>(true,.bool false (Qy n a b))
def QSI:FC:=Kk (Ko QRG)
theorem Qcp(n:Int)(a:Int)(b:Int):KY (mkE prog QDb) (hnd (mkE prog QDb) 2) false f51 (KA.enc ((n,a,b,()):Int×Int×Int×Unit)) [] 0=QC.br (decide (a<=n)) (QC.leaf (AV.bool false (decide (n<=b))) ([])) (QC.leaf (AV.bool true false) ([])):=by kernel_rfl
theorem QfD:QR prog 51 QSI:=by
 refine Kz QPp 2 func51 (by kernel_rfl) (by kernel_rfl) ?_
 rintro⟨n,a,b,⟨⟩⟩ hp;rw[Qcp n a b];simp only[QRG,QC.den,AV.same,AV.sameL,and_true,true_and]at hp ⊢
 (repeat' (first|(refine aI ?_ ?_)|(intro _)))<;>simp_all [Qy]<;>omega
def Yu:Tab:=Qa QDb 51 QSI
theorem HU:Qc Yu:=QPp.add QfD
def Jd:Edge:=⟨0,⟨0,0⟩,⟨0,0⟩,⟨0,0⟩⟩
theorem QOr(p:Q1)(x:QV)(L:Rw Edge)(hn:L.n=4)(h0:L.get 0=x.up)(h1:L.get 1=x.right)(h2:L.get 2=x.down)(h3:L.get 3=x.left):(Yn p Jd L != 0) = !(p.ok&&x.ok):=by
 have z:Jd.ok=true:=by decide
 have e:XD p Jd L=(p.ok&&x.ok):=by
  simp only[XD,z,YU,QU,hn,h0,h1,h2,h3,QV.ok,Bool.true_and];cases p.ok<;>cases x.up.ok<;>cases x.right.ok<;>cases x.down.ok<;>cases x.left.ok<;>rfl
 have d:decide (L.n>40)=false:=by rw[hn];rfl
 simp only[Yn,e,d];cases p.ok&&x.ok<;>rfl
variable (d:Puz)(k:Nat)
def XB(i:Nat):Bool := !(d.pK.ok&&(d.ps.get i).ok)
def Puz.okN:Bool:=Qy (d.ps.n:Int) 1 9&&(Qy d.wide 1 d.ps.n&&(Qy d.high 1 d.ps.n&&IntKind.i64.wrap (d.wide*d.high)==(d.ps.n:Int)))
def Puz.ok:Bool:=d.okN&&(QU (XB d) d.ps.n 0).isNone
def KT:List AV:=[.int false .i64 d.pK.length,.int false .i64 d.pK.aK,.int false .i64 d.pK.oK,.int false .i64 d.pK.dK.lo,.int false .i64 d.pK.dK.hi,.int false .i64 d.wide,.int false .i64 d.high,.bool false d.turn,.slz 0 0 d.ps.n (.of 0)]
def ipJ:JSt:=⟨62,[(1,.ptr 8 0 0),(43,.slz 0 0 d.ps.n (.of 0)),(44,.int false .i64 d.ps.n),(45,.int false .i64 k)],[(8,.cells 0 28 (KT d))]++Qi.blk 0 d.ps,48⟩
def QHp:JSt:=⟨62,[(2,.bool false false)],[],48⟩
def QFO:JSt:=⟨62,[],[],48⟩
def QQP:Ex->List Nat
 | .normal=>[1,43,44,45]
 | .exit _=>[]
 | .ret=>[2]
abbrev qr:List AV:=
  [vi (d.ps.get k).up.kind,vi (d.ps.get k).up.at_.lo,vi (d.ps.get k).up.at_.hi,vi (d.ps.get k).up.wide.lo,.int false .i64
  (d.ps.get k).up.wide.hi,vi (d.ps.get k).up.deep.lo,vi (d.ps.get k).up.deep.hi]
abbrev jg:List AV:=
  [vi (d.ps.get k).right.kind,vi (d.ps.get k).right.at_.lo,vi (d.ps.get k).right.at_.hi,vi (d.ps.get k).right.wide.lo,.int
  false .i64 (d.ps.get k).right.wide.hi,vi (d.ps.get k).right.deep.lo,vi (d.ps.get k).right.deep.hi]
abbrev ju:List AV:=
  [vi (d.ps.get k).down.kind,vi (d.ps.get k).down.at_.lo,vi (d.ps.get k).down.at_.hi,vi (d.ps.get k).down.wide.lo,.int false
  .i64 (d.ps.get k).down.wide.hi,vi (d.ps.get k).down.deep.lo,vi (d.ps.get k).down.deep.hi]
abbrev jE:List AV:=
  [vi (d.ps.get k).left.kind,vi (d.ps.get k).left.at_.lo,vi (d.ps.get k).left.at_.hi,vi (d.ps.get k).left.wide.lo,.int false
  .i64 (d.ps.get k).left.wide.hi,vi (d.ps.get k).left.deep.lo,vi (d.ps.get k).left.deep.hi]
abbrev wbK(d:Puz):List AV:=[vi d.pK.length,vi d.pK.aK,vi d.pK.oK,vi d.pK.dK.lo]
abbrev waf(d:Puz):List AV:=(List.append (wbK d) ([vi d.pK.dK.hi,.int
  false .i64 d.wide,vi d.high,.bool false d.turn,.slz 0 0 d.ps.n cO]))
abbrev QME:List (Nat×Blk):=
  [(8,.cells 0 28 (waf d)),(0,.frz (wae) d.ps.n λi=>QA.enc (d.ps.get i))]
theorem QUl(g:Nat->Value):exec (mkE prog Yu) (hnd (mkE prog Yu) 4) (QH f99 0) (JSt.inst (ipJ d k) g) (Q8 [] QQP) = .br (decide ((k:Int)<(d.ps.n:Int))) (.need (decide ((0:Int)<=(k:Int)/\(k:Int)<(d.ps.n:Int))&&decide (d.ps.n<=d.ps.n)) (.need (decide (k<d.ps.n)) (.need (true&&(true&&(true&&true))&&decide (4<=1000)) (.br (Yn d.pK (Edge.mk (0:Int) (Sp.mk (0:Int) (0:Int)) (Sp.mk (0:Int) (0:Int)) (Sp.mk (0:Int) (0:Int))) (Rw.mk 4 λi=>Edge.mk (Kg [(qr d k),(jg d k), (ju d k),(jE d k)] 0 i 0) (Sp.mk (Kg [(qr d k),(jg d k),(ju d k),(jE d k)] 0 i 1) (Kg [(qr d k),(jg d k),(ju d k),(jE d k)] 0 i 2)) (Sp.mk (Kg [(qr d k),(jg d k),(ju d k),(jE d k)] 0 i 3) (Kg [(qr d k),(jg d k),(ju d k),(jE d k)] 0 i 4)) (Sp.mk (Kg [(qr d k),(jg d k),(ju d k),(jE d k)] 0 i 5) (Kg [(qr d k),(jg d k),(ju d k),(jE d k)] 0 i 6))) != 0) (.leaf (.tup [.nili,.ptr 62 0 0,.bool true false]) ([])) (.leaf (.tup [.nilp,.ptr 62 0 0,.ptr 8 0 0, .slz 0 0 d.ps.n cO,vi (d.ps.n:Int),vi (IntKind.i64.wrap ((k:Int)+1))]) ((QME d))))))) (.leaf (.tup [.ptr 0 0 0,.ptr 62 0 0]) ([])):=by kernel_rfl
theorem QbY :QE 8 [AV.bool true false] ([]) QHp=( some [false=false]):=by kernel_rfl
abbrev wad(d:Puz):List Prop:=[d.ps.n<=d.ps.n,QB 28 d.ps.n (λi=>QA.enc (d.ps.get i)) λi=>QA.enc (d.ps.get i)]
abbrev waC(d:Puz):List Prop:=[d.pK.oK=d.pK.oK,d.pK.dK.lo=d.pK.dK.lo,d.pK.dK.hi=d.pK.dK.hi,d.wide=d.wide,d.high=d.high,d.turn=d.turn]
abbrev waa(d:Puz):List Prop:=([d.pK.length=d.pK.length,d.pK.aK=d.pK.aK]++waC d++[0=0,d.ps.n=d.ps.n])
abbrev wb6(d:Puz):List Prop:=[d.ps.n=d.ps.n,cO=cO,(d.ps.n:Int)=(d.ps.n:Int)]
theorem Qey(k k':Nat):QE 8 [.ptr 8 0 0,.slz 0 0 d.ps.n cO,vi (d.ps.n:Int),vi (IntKind.i64.wrap ((k:Int)+1))] ((QME d)) (ipJ d k')=(some (([0=0,0=0,0=0]++wb6 d++[IntKind.i64.wrap ((k:Int)+1)=(k':Int)])++waa d++([cO=cO]++wad d))):=by kernel_rfl
theorem QbH :QE 8 [] ([]) QFO=( some []):=by kernel_rfl
def ipR(e:Ex)(J:JSt):Prop:=(e = .ret/\(QU (XB d) (d.ps.n-k) k).isNone=false/\J=QHp)∨(e = .exit 0/\(QU (XB d) (d.ps.n-k) k).isNone=true/\J=QFO)
