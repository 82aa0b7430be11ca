/- - -/
import Derived.Test.YtbpffdkemeoajaaMvp
namespace Go.SX
open Go
variable {Q:AV→List (Nat×Blk)→Prop}{a:Bool}{t:QC}
theorem Wo(ht:t.den Q):(QC.need (!a||a) t).den Q:=⟨by cases a<;>rfl,ht⟩
theorem QFB(ht:t.den Q):(QC.need (!a||a&&a) t).den Q:=⟨by cases a<;>rfl,ht⟩
theorem Wf(ht:t.den Q):(QC.need (a || !a) t).den Q:=⟨by cases a<;>rfl,ht⟩
end Go.SX
