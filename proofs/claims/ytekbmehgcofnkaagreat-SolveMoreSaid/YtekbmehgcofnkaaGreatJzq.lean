/- - -/
import Derived.Test.YtekbmehgcofnkaaGreatJzo
set_option linter.all false
namespace Go.Proofs.YtekbmehgcofnkaaGreat
open Go.SX
