/- - -/
import Derived.Test.YtekbmehgcofnkaaGreatKzp
import Derived.Test.YtekbmehgcofnkaaGreatKzq
import Derived.Test.YtekbmehgcofnkaaGreatKzn
set_option linter.all false
namespace Go.SX
open Go Go.RowKit Go.Proofs.YtekbmehgcofnkaaGreat
def WA(fc:FC):FC:=λargs nid _=>fc args nid (Xa (AV.idsFromL 0 args) [])
theorem qX{P:Program}{f:FuncId}{fc:FC}(h:QR P f fc):QR P f (WA fc):=
 ⟨h.1,λargs nid _ r w lk blks eff hH ha hv he hp=>h.2 args nid (Xa (AV.idsFromL 0 args) []) r w lk blks eff hH ha hv he hp⟩
end Go.SX
namespace Go.Proofs.YtekbmehgcofnkaaGreat
open Go.SX
def QKW:Tab:=Qa (Qa QLh 16 QHP) 40 (WA QOZ)
theorem QWG:Qc QKW:=(QZd.add QVT).add (qX QUf)
open Go.SX Go.SX.Told
structure Qfl (d:Puz):Prop where
 some:(Qt d).2.2.2=0->JT d (QK d)≠[]
 one:(Qt d).2.2.1=1->JT d (QK d)=[(Qt d).1]
 whr:∀ p:Nat,p<d.ps.n->(QDQ d p).2=(Qt d).2.2.2
 tw:(Zh d).2=0
 tw1:((Qt d).2.2.1==1&&decide (((Zh d).1.length:Int)>0))=false
 tw2:((Qt d).2.2.2 != 0&&decide (((Zh d).1.length:Int)>0))=false
