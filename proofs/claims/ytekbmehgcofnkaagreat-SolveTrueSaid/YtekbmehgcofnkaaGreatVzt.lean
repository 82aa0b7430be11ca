/- - -/
import Derived.Test.YtekbmehgcofnkaaGreatVo
import Derived.Test.YtekbmehgcofnkaaGreatVzs
open Go.Proofs.Tryz
namespace Go.Proofs.YtekbmehgcofnkaaGreat
open Go.SX Go.RowKit Go.ChangeShapes Go.WideShapes Go.ChangeAt
def r0:Nat->Go.SX.Loc:=λ_=>Loc.none 0
theorem own:ownKnob prog.godebug=none:=by kernel_rfl
variable {H:Type}{w:World}{b:Nat}{sp:Nat->Bool}{hd:Bool}
theorem QIS{enc:TypeId×Value->H}:DataW.TrodAll enc prog w b sp hd [4] [Value.bool true] [.lit (.bool true)] []:=
 trodAll_cons_mk (shut_bool underlying4 _) trodAll_mk0
theorem H5{enc:TypeId×Value->H}{P:Program}{t:TypeId}{ts:List TypeId}{vs:List Value}{ds:List (DataW H)}{ps:List MemPlace}(h:DataW.TrodAll enc P w b sp hd (t::ts) vs ds ps):
  ∃ v vs' d ds' p',vs=v::vs'/\ds=d::ds'/\DataW.TrodAll enc P w b sp hd ts vs' ds' p':=by
 match vs,ds,h with
 | v::vs,d::ds,⟨p,q,_,h2,_⟩=>exact⟨v,vs,d,ds,q,rfl,rfl,h2⟩
theorem QGz{enc:TypeId×Value->H}{P:Program}{vs:List Value}{ds:List (DataW H)}{ps:List MemPlace}(h:DataW.TrodAll enc P w b sp hd [] vs ds ps):vs=[]/\ds=[]:=by
 match vs,ds,h with
 | [],[],_=>exact⟨rfl,rfl⟩
