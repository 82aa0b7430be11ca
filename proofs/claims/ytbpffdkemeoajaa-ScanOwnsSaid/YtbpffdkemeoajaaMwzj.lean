/- - -/
import Derived.Test.YtbpffdkemeoajaaMwp
namespace Go.SX
open Go
theorem qk{Q:AV→List (Nat×Blk)→Prop}{a:Bool}{t:QD}(ht:t.den Q):(QD.need (!a||a) t).den Q:=⟨by cases a<;>rfl,ht⟩
theorem QDy{Q:AV→List (Nat×Blk)→Prop}{a:Bool}{t:QD}(ht:t.den Q):(QD.need (!a||a&&a) t).den Q:=⟨by cases a<;>rfl,ht⟩
end Go.SX
