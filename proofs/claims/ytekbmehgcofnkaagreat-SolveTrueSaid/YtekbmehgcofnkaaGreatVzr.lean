/- - -/
import Derived.Test.YtekbmehgcofnkaaGreatVzp
import Derived.Test.YtekbmehgcofnkaaGreatVzq
namespace Go.SX
open Go Go.RowKit Go.Proofs.YtekbmehgcofnkaaGreat
def Zj(fc:FC):FC:=λargs nid _=>fc args nid (Xn (AV.idsFromL 0 args) [])
theorem Wq{P:Program}{f:FuncId}{fc:FC}(h:QS P f fc):QS P f (Zj fc):=
 ⟨h.1,λargs nid _ r w lk blks eff hH ha hv he hp=>h.2 args nid (Xn (AV.idsFromL 0 args) []) r w lk blks eff hH ha hv he hp⟩
end Go.SX
namespace Go.Proofs.YtekbmehgcofnkaaGreat
open Go.SX
