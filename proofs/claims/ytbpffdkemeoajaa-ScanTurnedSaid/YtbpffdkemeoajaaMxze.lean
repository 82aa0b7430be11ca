/- - -/
import Derived.Test.YtbpffdkemeoajaaMxp
namespace Go.SX
open Go
variable {Q:AV→List (Nat×Blk)→Prop}{a:Bool}{t:QB}
theorem GI(ht:t.den Q):(QB.need (!a||a) t).den Q:=⟨by cases a<;>rfl,ht⟩
theorem jI(ht:t.den Q):(QB.need (!a||a&&a) t).den Q:=⟨by cases a<;>rfl,ht⟩
theorem YJ(ht:t.den Q):(QB.need (a || !a) t).den Q:=⟨by cases a<;>rfl,ht⟩
theorem QO2{b:Bool}(hb:a=true→b=true)(ht:t.den Q):(QB.need (!a||b&&(a&&a)) t).den Q:=⟨by cases a with|false=>rfl|true=>rw[hb rfl];rfl,ht⟩
end Go.SX
