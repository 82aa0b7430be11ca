/- - -/
import Derived.Test.YtekbmehgcofnkaaGreatVr
import Derived.Test.YtekbmehgcofnkaaGreatVs
noncomputable section
open Go.Proofs.Tryz
set_option maxRecDepth 100000
namespace Go.Proofs.YtekbmehgcofnkaaGreat
open Go.SX
def QR9:Int×Int×Int×Unit->Bool×AV:=λ|(n,(a,(b,_)))=>(true,.bool false (Q1 n a b))
def QTk:FC:=Kj (Ko QR9)
theorem QgH(n:Int)(a:Int)(b:Int):KY (mkE prog QF4) (hnd (mkE prog QF4) 2) false f51 (KL.enc ((n,a,b,()):Int×Int×Int×Unit)) [] 0=QC.br (decide (a<=n)) (QC.leaf (AV.bool false (decide (n<=b))) ([])) (QC.leaf (AV.bool true false) ([])):=by kernel_rfl
theorem QZL:QS prog 51 QTk:=by
 refine K2 QVb 2 func51 (by kernel_rfl) (by kernel_rfl) ?_
 rintro⟨n,a,b,⟨⟩⟩ hp;rw[QgH n a b];simp only[QR9,QC.den,AV.same,AV.sameL,and_true,true_and]at hp ⊢
 (repeat' (first|(refine aI ?_ ?_)|(intro _)))<;>simp_all [Q1]<;>omega
def Y1:Tab:=Qc QF4 51 QTk
theorem QBA:Qf Y1:=QVb.add QZL
def J1:Edge:=⟨0,⟨0,0⟩,⟨0,0⟩,⟨0,0⟩⟩
theorem QUs(p:Qx)(x:Qb)(L:Rw Edge)(hn:L.n=4)(h0:L.get 0=x.up)(h1:L.get 1=x.right)(h2:L.get 2=x.down)(h3:L.get 3=x.left):(ZH p J1 L != 0) = !(p.ok&&x.ok):=by
 have z:J1.ok=true:=by decide
 have e:Xj p J1 L=(p.ok&&x.ok):=by
  simp only[Xj,z,Y9,QR,hn,h0,h1,h2,h3,Qb.ok,Bool.true_and];cases p.ok<;>cases x.up.ok<;>cases x.right.ok<;>cases x.down.ok<;>cases x.left.ok<;>rfl
 have d:decide (L.n>40)=false:=by rw[hn];rfl
 simp only[ZH,e,d];cases p.ok&&x.ok<;>rfl
variable (d:Puz)(k:Nat)
def XB(i:Nat):Bool := !(d.pK.ok&&(d.ps.get i).ok)
def Puz.okN:Bool:=Q1 (d.ps.n:Int) 1 9&&(Q1 d.wide 1 d.ps.n&&(Q1 d.high 1 d.ps.n&&IntKind.i64.wrap (d.wide*d.high)==(d.ps.n:Int)))
def Puz.ok:Bool:=d.okN&&(QR (XB d) d.ps.n 0).isNone
def KZ:List AV:=[.int false .i64 d.pK.length,.int false .i64 d.pK.aK,.int false .i64 d.pK.oK,.int false .i64 d.pK.dK.lo,.int false .i64 d.pK.dK.hi,.int false .i64 d.wide,.int false .i64 d.high,.bool false d.turn,.slz 0 0 d.ps.n (.of 0)]
def ipJ:JSt:=⟨62,[(1,.ptr 8 0 0),(43,.slz 0 0 d.ps.n (.of 0)),(44,.int false .i64 d.ps.n),(45,.int false .i64 k)],[(8,.cells 0 28 (KZ d))]++Qg.blk 0 d.ps,48⟩
def QI2:JSt:=⟨62,[(2,.bool false false)],[],48⟩
def QKD:JSt:=⟨62,[],[],48⟩
def QRg:Ex->List Nat
 | .normal=>[1,43,44,45]
 | .exit _=>[]
 | .ret=>[2]
abbrev vH:List AV:=[vi (d.ps.get k).up.kind,vi (d.ps.get k).up.at_.lo,vi (d.ps.get k).up.at_.hi,vi (d.ps.get k).up.wide.lo,.int false .i64 (d.ps.get k).up.wide.hi,vi (d.ps.get k).up.deep.lo,vi (d.ps.get k).up.deep.hi]
abbrev zZ:List AV:=[vi (d.ps.get k).right.kind,vi (d.ps.get k).right.at_.lo,vi (d.ps.get k).right.at_.hi,vi (d.ps.get k).right.wide.lo,.int false .i64 (d.ps.get k).right.wide.hi,vi (d.ps.get k).right.deep.lo,vi (d.ps.get k).right.deep.hi]
abbrev zm:List AV:=[vi (d.ps.get k).down.kind,vi (d.ps.get k).down.at_.lo,vi (d.ps.get k).down.at_.hi,vi (d.ps.get k).down.wide.lo,.int false .i64 (d.ps.get k).down.wide.hi,vi (d.ps.get k).down.deep.lo,vi (d.ps.get k).down.deep.hi]
abbrev vr:List AV:=[vi (d.ps.get k).left.kind,vi (d.ps.get k).left.at_.lo,vi (d.ps.get k).left.at_.hi,vi (d.ps.get k).left.wide.lo,.int false .i64 (d.ps.get k).left.wide.hi,vi (d.ps.get k).left.deep.lo,vi (d.ps.get k).left.deep.hi]
abbrev wbL(d:Puz):List AV:=[vi d.pK.length,vi d.pK.aK,vi d.pK.oK,vi d.pK.dK.lo]
abbrev waf(d:Puz):List AV:=(List.append (wbL d) ([vi d.pK.dK.hi,.int false .i64 d.wide,vi d.high,.bool false d.turn,.slz 0 0 d.ps.n cO]))
abbrev QU2:List (Nat×Blk):=[(8,.cells 0 28 (waf d)),(0,.frz (wae) d.ps.n λi=>QA.enc (d.ps.get i))]
abbrev wbp(d:Puz):List AV:=[.slz 0 0 d.ps.n cO,vi (d.ps.n:Int)]
theorem QfH(g:Nat->Value):exec (mkE prog Y1) (hnd (mkE prog Y1) 4) (QI f99 0) (JSt.inst (ipJ d k) g) (Q5 [] QRg) = .br (decide ((k:Int)<(d.ps.n:Int))) (.need (decide ((0:Int)<=(k:Int)/\(k:Int)<(d.ps.n:Int))&&decide (d.ps.n<=d.ps.n)) (.need (decide (k<d.ps.n)) (.need (true&&(true&&(true&&true))&&decide (4<=1000)) (.br (ZH d.pK (Edge.mk (0:Int) (Sp.mk (0:Int) (0:Int)) (Sp.mk (0:Int) (0:Int)) (Sp.mk (0:Int) (0:Int))) (Rw.mk 4 λi=>Edge.mk (KD [(vH d k),(zZ d k), (zm d k),(vr d k)] 0 i 0) (Sp.mk (KD [(vH d k),(zZ d k),(zm d k),(vr d k)] 0 i 1) (KD [(vH d k),(zZ d k),(zm d k),(vr d k)] 0 i 2)) (Sp.mk (KD [(vH d k),(zZ d k),(zm d k),(vr d k)] 0 i 3) (KD [(vH d k),(zZ d k),(zm d k),(vr d k)] 0 i 4)) (Sp.mk (KD [(vH d k),(zZ d k),(zm d k),(vr d k)] 0 i 5) (KD [(vH d k),(zZ d k),(zm d k),(vr d k)] 0 i 6))) != 0) (.leaf (.tup [.nili,.ptr 62 0 0,.bool true false]) ([])) (.leaf (.tup (.nilp::.ptr 62 0 0::.ptr 8 0 0::List.append (wbp d) ([vi (IntKind.i64.wrap ((k:Int)+1))]))) ((QU2 d))))))) (.leaf (.tup [.ptr 0 0 0,.ptr 62 0 0]) ([])):=by kernel_rfl
theorem QdU :QF 8 [AV.bool true false] ([]) QI2=( some [false=false]):=by kernel_rfl
abbrev wad(d:Puz):List Prop:=[d.ps.n<=d.ps.n,QB 28 d.ps.n (λi=>QA.enc (d.ps.get i)) λi=>QA.enc (d.ps.get i)]
abbrev waK(d:Puz):List Prop:=[d.pK.length=d.pK.length,d.pK.aK=d.pK.aK]
abbrev waC(d:Puz):List Prop:=[d.pK.oK=d.pK.oK,d.pK.dK.lo=d.pK.dK.lo,d.pK.dK.hi=d.pK.dK.hi,d.wide=d.wide,d.high=d.high,d.turn=d.turn]
abbrev waa(d:Puz):List Prop:=((waK d)++waC d++[0=0,d.ps.n=d.ps.n])
abbrev wbO(d:Puz):List Prop:=[d.ps.n=d.ps.n,cO=cO,(d.ps.n:Int)=(d.ps.n:Int)]
theorem QXc(k k':Nat):QF 8 (.ptr 8 0 0::List.append (wbp d) ([vi (IntKind.i64.wrap ((k:Int)+1))])) ((QU2 d)) (ipJ d k')=(some (([0=0,0=0,0=0]++wbO d++[IntKind.i64.wrap ((k:Int)+1)=(k':Int)])++waa d++([cO=cO]++wad d))):=by kernel_rfl
theorem QgR :QF 8 [] ([]) QKD=( some []):=by kernel_rfl
def ipR(e:Ex)(J:JSt):Prop:=(e = .ret/\(QR (XB d) (d.ps.n-k) k).isNone=false/\J=QI2)∨(e = .exit 0/\(QR (XB d) (d.ps.n-k) k).isNone=true/\J=QKD)
