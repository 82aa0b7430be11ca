/- - -/
import Derived.Test.YtekbmehgcofnkaaGreatJzt
import Derived.Test.YtekbmehgcofnkaaGreatJzu
import Derived.Test.YtekbmehgcofnkaaGreatJzr
set_option linter.all false
namespace Go.SX
open Go Go.RowKit Go.Proofs.YtekbmehgcofnkaaGreat
theorem QVB{E:Env}(hE:E.Sound){f:FuncId}{fn:Func}{c:Code}(hf:E.P.funcs[f]? = some fn)(hb:fn.body=some c){α:Type}[QX α]{N:Nat}{H:Hnd}{F:WF α}(x:α)(hl:∀ G:Ctx,G.rd=none->G.n=N->Q1 E G H c)(hw:WOk (F x).2.1 (F x).2.2)(hF:ZC (ZP N (F x).2.1 (F x).2.2) (Kf E H fn (QX.vals 0 x) (QX.blks 0 x) N))(hx:(F x).1=true){r:Nat->Go.SX.Loc}{w:World}{u:Value}(hv:QB9 N (QX.vals 0 x) (QX.blks 0 x)=true)(hr:∀ q∈QX.blks 0 x,QL r q.1 w q.2)(hu:∀ r',((F x).2.1.mapId (·+N)).den r'=u):
  Calls E.P f (AV.denL r (QX.vals 0 x)).toArray w λe w'=>e = .returned u/\Fr w w' (λ_=>False):=by
 refine QWi (H:=λ_=>H) hE hf hb (F:=VK F x) ⟨λy _ G h1 h2=>hl G h1 h2⟩ ⟨λy hy=>?_⟩ x ?_ hv hr hu
 .obtain⟨rfl,_⟩:=QLj hy;exact⟨hw,hF⟩
 .show(QO [x=x]&&(F x).1)=true;rw[hx,Q9.2 (show Kc [x=x]from⟨rfl,trivial⟩)];rfl
