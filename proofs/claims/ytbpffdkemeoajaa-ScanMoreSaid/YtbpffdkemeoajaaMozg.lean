/- - -/
import Derived.Test.YtbpffdkemeoajaaMop
namespace Go.SX
open Go
variable {Q:AV→List (Nat×Blk)→Prop}{a:Bool}{t:QD}
theorem Kx(ht:t.den Q):(QD.need (!a||a) t).den Q:=⟨by cases a<;>rfl,ht⟩
theorem J6(ht:t.den Q):(QD.need (!a||a&&a) t).den Q:=⟨by cases a<;>rfl,ht⟩
theorem qe{a b:Bool}(ht:t.den Q):(QD.need (!!a || !a&&(!b || !a&&b)) t).den Q:=⟨by cases a<;>cases b<;>rfl,ht⟩
theorem K3(ht:t.den Q):(QD.need (a || !a) t).den Q:=⟨by cases a<;>rfl,ht⟩
end Go.SX
