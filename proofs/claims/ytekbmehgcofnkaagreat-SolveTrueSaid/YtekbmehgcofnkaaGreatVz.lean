/- - -/
import Derived.Test.YtekbmehgcofnkaaGreatVy
import Derived.Shelf.SlSortCmp.WholeK
import Derived.Shelf.SlicesG.Cmp
open Go.Proofs.Tryz
namespace Go.Proofs
open Go.Shelf
def Tryz.sortJn_ren:Go.Shelf.Ren:=⟨λ|6=>153|15=>139|14=>169|28=>165|29=>166|20=>178|21=>179|22=>180|23=>181|24=>182|25=>183|26=>184|27=>185|46=>187|47=>174|48=>175|49=>188|50=>189|57=>190|n=>n,λ|22=>64|24=>67|25=>186|3=>3|39=>115|0=>0|53=>224|55=>226|4=>4|46=>217|45=>216|50=>221|5=>5|9=>9|66=>235|70=>239|76=>246|77=>182|n=>n,λ|n=>n⟩
theorem Tryz.sortJn:Go.Proofs.SlLaysF0.n6 prog Tryz.sortJn_ren:={
 mixed:=by kernel_rfl
 f6:=⟨f153.name,by decide,func153.trans (congrArg some (by kernel_rfl))⟩
 f14:=⟨f169.name,by decide,func169.trans (congrArg some (by kernel_rfl))⟩
 f15:=func139.trans (congrArg some (by kernel_rfl))
 f20:=⟨f178.name,by decide,func178.trans (congrArg some (by kernel_rfl))⟩
 f21:=⟨f179.name,by decide,func179.trans (congrArg some (by kernel_rfl))⟩
 f22:=⟨f180.name,by decide,func180.trans (congrArg some (by kernel_rfl))⟩
 f23:=⟨f181.name,by decide,func181.trans (congrArg some (by kernel_rfl))⟩
 f24:=⟨f182.name,by decide,func182.trans (congrArg some (by kernel_rfl))⟩
 f25:=⟨f183.name,by decide,func183.trans (congrArg some (by kernel_rfl))⟩
 f26:=⟨f184.name,by decide,func184.trans (congrArg some (by kernel_rfl))⟩
 f27:=⟨f185.name,by decide,func185.trans (congrArg some (by kernel_rfl))⟩
 f28:=func165.trans (congrArg some (by kernel_rfl))
 f29:=func166.trans (congrArg some (by kernel_rfl))
 f46:=⟨f187.name,by decide,func187.trans (congrArg some (by kernel_rfl))⟩
 f47:=func174.trans (congrArg some (by kernel_rfl))
 f48:=func175.trans (congrArg some (by kernel_rfl))
 f49:=⟨f188.name,by decide,func188.trans (congrArg some (by kernel_rfl))⟩
 f50:=⟨f189.name,by decide,func189.trans (congrArg some (by kernel_rfl))⟩
 f57:=⟨f190.name,by decide,func190.trans (congrArg some (by kernel_rfl))⟩
 t0:=underlying0
 a0:=Tryz.isAgg0
 z0:=Tryz.sizeOf0
 v0:=Tryz.zeroValue0
 t3:=underlying3
 a3:=Tryz.isAgg3
 z3:=Tryz.sizeOf3
 v3:=Tryz.zeroValue3
 t4:=underlying4
 a4:=Tryz.isAgg4
 z4:=Tryz.sizeOf4
 v4:=Tryz.zeroValue4
 t5:=underlying5
 a5:=Tryz.isAgg5
 z5:=Tryz.sizeOf5
 v5:=Tryz.zeroValue5
 t9:=underlying9
 a9:=Tryz.isAgg9
 z9:=Tryz.sizeOf9
 v9:=Tryz.zeroValue9
 t22:=underlying64
 a22:=Tryz.isAgg64
 z22:=Tryz.sizeOf64
 v22:=Tryz.zeroValue64
 t25:=underlying186
 a25:=Tryz.isAgg186
 z25:=Tryz.sizeOf186
 v25:=Tryz.zeroValue186
 t39:=underlying115
 a39:=Tryz.isAgg115
 z39:=Tryz.sizeOf115
 v39:=Tryz.zeroValue115
 t45:=underlying216
 a45:=Tryz.isAgg216
 z45:=Tryz.sizeOf216
 v45:=Tryz.zeroValue216
 t46:=underlying217
 a46:=Tryz.isAgg217
 z46:=Tryz.sizeOf217
 v46:=Tryz.zeroValue217
 t50:=underlying221
 a50:=Tryz.isAgg221
 z50:=Tryz.sizeOf221
 v50:=Tryz.zeroValue221
 t53:=underlying224
 a53:=Tryz.isAgg224
 z53:=Tryz.sizeOf224
 v53:=Tryz.zeroValue224
 t55:=underlying226
 a55:=Tryz.isAgg226
 z55:=Tryz.sizeOf226
 v55:=Tryz.zeroValue226
 t66:=underlying235
 a66:=Tryz.isAgg235
 z66:=Tryz.sizeOf235
 v66:=Tryz.zeroValue235
 t70:=underlying239
 a70:=Tryz.isAgg239
 z70:=Tryz.sizeOf239
 v70:=Tryz.zeroValue239
 t76:=underlying246
 a76:=Tryz.isAgg246
 z76:=Tryz.sizeOf246
 v76:=Tryz.zeroValue246
 t77:=underlying182
 a77:=Tryz.isAgg182
 z77:=Tryz.sizeOf182
 v77:=Tryz.zeroValue182 }
end Go.Proofs
