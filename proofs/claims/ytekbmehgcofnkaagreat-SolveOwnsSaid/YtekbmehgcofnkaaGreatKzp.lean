/- - -/
import Derived.Test.YtekbmehgcofnkaaGreatKzo
import Derived.Test.YtekbmehgcofnkaaGreatKzn
import Derived.Test.YtekbmehgcofnkaaGreatKzg
set_option linter.all false
open Go.Proofs.Tryz
set_option maxRecDepth 100000
namespace Go.Proofs.YtekbmehgcofnkaaGreat
open Go.SX
def QIu:Tab:=Qa (Qa (Qa (Qa (Qa QPh 24 QFg) 43 QHV) 17 QG4) 19 QHx) 21 QLz
theorem QWL:Qc QIu:=((((QSq.add QN6).add QM8).add QO8).add QQG).add QXq
theorem QeG:KY (mkG prog (Y5 prog QIu [] 12)) (hnd (mkG prog (Y5 prog QIu [] 12)) 100) false f16 [] [] 0 = .leaf (.bool true true) []:=by kernel_rfl
theorem QVT:QR prog 16 QHP:=QYZ (QMs QWL [] 12) 100 func16 (by kernel_rfl) (by kernel_rfl) QeG
