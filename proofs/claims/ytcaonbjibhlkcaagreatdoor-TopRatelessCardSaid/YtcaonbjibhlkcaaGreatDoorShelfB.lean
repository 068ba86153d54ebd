/- Lemmas for the proof of the law; no condition. -/
import Derived.Shelf.SlSortCmp.NoneTotal
import Derived.Shelf.SlSortCmp.WholeK
import Derived.Shelf.Small.Bits
import Derived.Ground.SlsfProg
import Derived.Ground.NamesProg
import Derived.Test.YtcaonbjibhlkcaaGreatDoorProg
set_option linter.unusedVariables false
set_option linter.unusedSimpArgs false
open Go.Proofs.Tryz renaming prog -> xv
set_option maxRecDepth 100000
namespace Go.Proofs
open Go.Shelf
def Tryz.SU:Go.Shelf.Ren:=⟨fun|6=>285|15=>168|14=>320|28=>253|29=>254|20=>346|21=>347|22=>348|23=>349|24=>350|25=>351|26=>352|27=>353|46=>367|47=>300|48=>301|49=>368|50=>369|57=>377|n=>n,fun|22=>343|24=>348|25=>352|3=>3|39=>22|0=>0|53=>27|55=>198|4=>4|46=>307|45=>306|50=>286|5=>5|9=>9|66=>357|70=>361|76=>388|77=>389|n=>n,fun|n=>n⟩
theorem Tryz.Uv:Go.Proofs.SlLaysF0.n6 xv Tryz.SU:={
 mixed:=by kernel_rfl
 f6:=⟨Tryz.f285.name,by decide,Tryz.func285.trans (congrArg some (by kernel_rfl))⟩
 f14:=⟨Tryz.f320.name,by decide,Tryz.func320.trans (congrArg some (by kernel_rfl))⟩
 f15:=Tryz.func168.trans (congrArg some (by kernel_rfl))
 f20:=⟨Tryz.f346.name,by decide,Tryz.func346.trans (congrArg some (by kernel_rfl))⟩
 f21:=⟨Tryz.f347.name,by decide,Tryz.func347.trans (congrArg some (by kernel_rfl))⟩
 f22:=⟨Tryz.f348.name,by decide,Tryz.func348.trans (congrArg some (by kernel_rfl))⟩
 f23:=⟨Tryz.f349.name,by decide,Tryz.func349.trans (congrArg some (by kernel_rfl))⟩
 f24:=⟨Tryz.f350.name,by decide,Tryz.func350.trans (congrArg some (by kernel_rfl))⟩
 f25:=⟨Tryz.f351.name,by decide,Tryz.func351.trans (congrArg some (by kernel_rfl))⟩
 f26:=⟨Tryz.f352.name,by decide,Tryz.func352.trans (congrArg some (by kernel_rfl))⟩
 f27:=⟨Tryz.f353.name,by decide,Tryz.func353.trans (congrArg some (by kernel_rfl))⟩
 f28:=Tryz.func253.trans (congrArg some (by kernel_rfl))
 f29:=Tryz.func254.trans (congrArg some (by kernel_rfl))
 f46:=⟨Tryz.f367.name,by decide,Tryz.func367.trans (congrArg some (by kernel_rfl))⟩
 f47:=Tryz.func300.trans (congrArg some (by kernel_rfl))
 f48:=Tryz.func301.trans (congrArg some (by kernel_rfl))
 f49:=⟨Tryz.f368.name,by decide,Tryz.func368.trans (congrArg some (by kernel_rfl))⟩
 f50:=⟨Tryz.f369.name,by decide,Tryz.func369.trans (congrArg some (by kernel_rfl))⟩
 f57:=⟨Tryz.f377.name,by decide,Tryz.func377.trans (congrArg some (by kernel_rfl))⟩
 t0:=Tryz.underlying0
 a0:=Tryz.isAgg0
 z0:=Tryz.sizeOf0
 v0:=Tryz.zeroValue0
 t3:=Tryz.underlying3
 a3:=Tryz.isAgg3
 z3:=Tryz.sizeOf3
 v3:=Tryz.zeroValue3
 t4:=Tryz.underlying4
 a4:=Tryz.isAgg4
 z4:=Tryz.sizeOf4
 v4:=Tryz.zeroValue4
 t5:=Tryz.underlying5
 a5:=Tryz.isAgg5
 z5:=Tryz.sizeOf5
 v5:=Tryz.zeroValue5
 t9:=Tryz.underlying9
 a9:=Tryz.isAgg9
 z9:=Tryz.sizeOf9
 v9:=Tryz.zeroValue9
 t22:=Tryz.underlying343
 a22:=Tryz.isAgg343
 z22:=Tryz.sizeOf343
 v22:=Tryz.zeroValue343
 t25:=Tryz.underlying352
 a25:=Tryz.isAgg352
 z25:=Tryz.sizeOf352
 v25:=Tryz.zeroValue352
 t39:=Tryz.underlying22
 a39:=Tryz.isAgg22
 z39:=Tryz.sizeOf22
 v39:=Tryz.zeroValue22
 t45:=Tryz.underlying306
 a45:=Tryz.isAgg306
 z45:=Tryz.sizeOf306
 v45:=Tryz.zeroValue306
 t46:=Tryz.underlying307
 a46:=Tryz.isAgg307
 z46:=Tryz.sizeOf307
 v46:=Tryz.zeroValue307
 t50:=Tryz.underlying286
 a50:=Tryz.isAgg286
 z50:=Tryz.sizeOf286
 v50:=Tryz.zeroValue286
 t53:=Tryz.underlying27
 a53:=Tryz.isAgg27
 z53:=Tryz.sizeOf27
 v53:=Tryz.zeroValue27
 t55:=Tryz.underlying198
 a55:=Tryz.isAgg198
 z55:=Tryz.sizeOf198
 v55:=Tryz.zeroValue198
 t66:=Tryz.underlying357
 a66:=Tryz.isAgg357
 z66:=Tryz.sizeOf357
 v66:=Tryz.zeroValue357
 t70:=Tryz.underlying361
 a70:=Tryz.isAgg361
 z70:=Tryz.sizeOf361
 v70:=Tryz.zeroValue361
 t76:=Tryz.underlying388
 a76:=Tryz.isAgg388
 z76:=Tryz.sizeOf388
 v76:=Tryz.zeroValue388
 t77:=Tryz.underlying389
 a77:=Tryz.isAgg389
 z77:=Tryz.sizeOf389
 v77:=Tryz.zeroValue389}
theorem Tryz.aex(w:World):Sem.run xv (isAgg 348) w=Result.ok true w:=Tryz.isAgg348 w
theorem Tryz.ads(w:World):Sem.run xv (sizeOf 348) w=Result.ok 2 w:=Tryz.sizeOf348 w
theorem Tryz.adt:Tryz.prog.funcs[286]?=some Tryz.f286:=Tryz.func286
end Go.Proofs
