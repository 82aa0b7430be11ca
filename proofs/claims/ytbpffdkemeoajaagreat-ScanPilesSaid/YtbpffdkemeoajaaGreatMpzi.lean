/- - -/
import Derived.Test.YtbpffdkemeoajaaGreatMpp
namespace Go.SX
open Go
variable {Q:AV->List (Nat×Blk)->Prop}{a:Bool}{t:QE}
theorem YR(ht:t.den Q):(QE.need (!a||a) t).den Q:=⟨by cases a<;>rfl,ht⟩
theorem QIQ(ht:t.den Q):(QE.need (!a||a&&a) t).den Q:=⟨by cases a<;>rfl,ht⟩
theorem jZ{b:Bool}(hb:a=true->b=true)(ht:t.den Q):(QE.need (!a||b&&a) t).den Q:=⟨by cases a with|false=>rfl|true=>rw[hb rfl];rfl,ht⟩
theorem vA{b:Bool}(hb:a=true->b=true)(ht:t.den Q):(QE.need (!a||b&&(a&&a)) t).den Q:=⟨by cases a with|false=>rfl|true=>rw[hb rfl];rfl,ht⟩
