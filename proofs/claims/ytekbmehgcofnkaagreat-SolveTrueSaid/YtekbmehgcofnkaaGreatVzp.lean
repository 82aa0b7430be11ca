/- - -/
import Derived.Test.YtekbmehgcofnkaaGreatVzo
import Derived.Test.YtekbmehgcofnkaaGreatVzn
open Go.Proofs.Tryz
set_option maxRecDepth 100000
namespace Go.Proofs.YtekbmehgcofnkaaGreat
open Go.SX
def QG1:Tab:=Qc (Qc (Qc (Qc (Qc QUC 24 QBb) 43 QNj) 17 QIJ) 19 QCm) 21 QVm
theorem Qdr:Qf QG1:=((((QYi.add QDE).add QhQ).add QLw).add QA4).add Qcb
theorem Qgp:KY (mkG prog (Zg prog QG1 [] 12)) (hnd (mkG prog (Zg prog QG1 [] 12)) 100) false f16 [] [] 0 = .leaf (.bool true true) []:=by kernel_rfl
theorem QG8:QS prog 16 QA1:=QeD (QV4 Qdr [] 12) 100 func16 (by kernel_rfl) (by kernel_rfl) Qgp
