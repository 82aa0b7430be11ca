/- - -/
import Derived.Test.YtbpffdkemeoajaaMap
namespace Go.SX
open Go
variable {Q:AV→List (Nat×Blk)→Prop}{a b:Bool}{t:QD}
theorem KC(ht:t.den Q):(QD.need (!a||a) t).den Q:=⟨by cases a<;>rfl,ht⟩
theorem VC(ht:t.den Q):(QD.need (!a||a&&a) t).den Q:=⟨by cases a<;>rfl,ht⟩
theorem QEX{a b:Bool}(ht:t.den Q):(QD.need (!!a || !a&&(!b || !a&&b)) t).den Q:=⟨by cases a<;>cases b<;>rfl,ht⟩
theorem Kb(ht:t.den Q):(QD.need (a || !a) t).den Q:=⟨by cases a<;>rfl,ht⟩
theorem jP(hb:a=true→b=true)(ht:t.den Q):(QD.need (!a||b&&a) t).den Q:=⟨by cases a with|false=>rfl|true=>rw[hb rfl];rfl,ht⟩
theorem vT(hb:a=true→b=true)(ht:t.den Q):(QD.need (!a||b&&(a&&a)) t).den Q:=⟨by cases a with|false=>rfl|true=>rw[hb rfl];rfl,ht⟩
end Go.SX
