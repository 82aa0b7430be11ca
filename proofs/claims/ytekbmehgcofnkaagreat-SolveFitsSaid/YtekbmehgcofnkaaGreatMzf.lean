/- - -/
import Derived.Test.YtekbmehgcofnkaaGreatMa
namespace Go.SX
section
variable {α σ:Type} (C:List α->List α) (ok:List α->α->Bool) (fin:List α->Bool)
def QBu:Nat->List α->List (List α)
 | 0,l=>cond (fin l) [l] []
 | d+1,l=>(C l).flatMap λc=>cond (ok l c) (QBu d (l++[c])) []
end
