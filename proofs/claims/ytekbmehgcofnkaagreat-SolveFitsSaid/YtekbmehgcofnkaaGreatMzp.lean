/- - -/
import Derived.Test.YtekbmehgcofnkaaGreatMzo
import Derived.Test.YtekbmehgcofnkaaGreatMzn
import Derived.Test.YtekbmehgcofnkaaGreatMzg
open Go.Proofs.Tryz
set_option maxRecDepth 100000
namespace Go.Proofs.YtekbmehgcofnkaaGreat
open Go.SX
def QG4:Tab:=Qa (Qa (Qa (Qa (Qa QMJ 24 QIu) 43 QSC) 17 QS1) 19 QPs) 21 QPH
theorem Qi6:Qc QG4:=((((QjP.add QRW).add QhU).add QfT).add QV1).add QdG
theorem QaL:KR (mkG prog (ZP prog QG4 [] 12)) (hnd (mkG prog (ZP prog QG4 [] 12)) 100) false f16 [] [] 0 = .leaf (.bool true true) []:=by kernel_rfl
theorem QPl:QR prog 16 QC4:=Qij (QUr Qi6 [] 12) 100 func16 (by kernel_rfl) (by kernel_rfl) QaL
end Go.Proofs.YtekbmehgcofnkaaGreat
namespace Go.SX
open Go Go.RowKit Go.Proofs.YtekbmehgcofnkaaGreat
def zk(fc:FC):FC:=λargs nid _=>fc args nid (Xg (AV.idsFromL 0 args) [])
theorem QAO{P:Program}{f:FuncId}{fc:FC}(h:QR P f fc):QR P f (zk fc):=
 ⟨h.1,λargs nid _ r w lk blks eff hH ha hv he hp=>h.2 args nid (Xg (AV.idsFromL 0 args) []) r w lk blks eff hH ha hv he hp⟩
end Go.SX
namespace Go.Proofs.YtekbmehgcofnkaaGreat
open Go.SX
def JQ:Tab:=Qa (Qa QJX 16 QC4) 40 (zk QUB)
theorem Za:Qc JQ:=(QOR.add QPl).add (QAO Qdl)
