/- How the arguments of a law are opened: structs of whole numbers. -/
import Derived.Test.YtbpffdkemeoajaaMmo
import Derived.Test.YtbpffdkemeoajaaMmzj
namespace Go.Proofs.Ytbpffdkemeoajaa
open Go.SX Go.RowKit Go.ChangeShapes Go.WideShapes Go.ChangeAt
def r0:Nat→Go.SX.Loc:=fun _=>Loc.none 0
theorem own:ownKnob Try.prog.godebug=none:=by kernel_rfl
theorem QOQ {H:Type} {enc:TypeId×Value→H} {w:World} {b:Nat} {sp:Nat→Bool} {hd:Bool}:DataW.TrodAll enc Try.prog w b sp hd [4] [Value.bool true] [.lit (.bool true)] []:=
 trodAll_cons_mk (shut_bool Try.underlying4 _) trodAll_mk0
theorem QMl {H:Type} {enc:TypeId×Value→H} {P:Program} {w:World} {b:Nat} {sp:Nat→Bool} {hd:Bool} {t:TypeId} {ts:List TypeId} {vs:List Value} {ds:List (DataW H)} {ps:List MemPlace} (h:DataW.TrodAll enc P w b sp hd (t::ts) vs ds ps) :
  ∃ v vs' d ds' p',vs=v::vs'∧ds=d::ds'∧DataW.TrodAll enc P w b sp hd ts vs' ds' p':=by
 match vs,ds,h with
 | v::vs,d::ds,⟨p,q,_,h2,_⟩=>exact ⟨v,vs,d,ds,q,rfl,rfl,h2⟩
theorem QMV {H:Type} {enc:TypeId×Value→H} {P:Program} {w:World} {b:Nat} {sp:Nat→Bool} {hd:Bool} {vs:List Value} {ds:List (DataW H)} {ps:List MemPlace} (h:DataW.TrodAll enc P w b sp hd [] vs ds ps):vs=[]∧ds=[]:=by
 match vs,ds,h with
 | [],[],_=>exact ⟨rfl,rfl⟩
end Go.Proofs.Ytbpffdkemeoajaa
