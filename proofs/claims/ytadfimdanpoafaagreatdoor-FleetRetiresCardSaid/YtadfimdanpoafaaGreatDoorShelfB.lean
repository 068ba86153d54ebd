/- Lemmas. -/
import Derived.Shelf.SlSortCmp.NoneTotal
import Derived.Shelf.SlSortCmp.WholeK
import Derived.Ground.SlsfProg
import Derived.Ground.NamesProg
import Derived.Test.YtadfimdanpoafaaGreatDoorProg
set_option linter.unusedVariables false
open Go.Proofs.Tryz renaming prog -> xx
set_option maxRecDepth 100000
namespace Go.Proofs
open Go.Shelf
def Tryz.SL:Go.Shelf.Ren:=⟨fun|6=>217|15=>225|14=>289|28=>300|29=>301|20=>365|21=>366|22=>367|23=>368|24=>369|25=>370|26=>371|27=>372|46=>402|47=>374|48=>375|49=>403|50=>404|57=>412|n=>n,fun|22=>244|24=>249|25=>253|3=>3|39=>233|0=>0|53=>36|55=>335|4=>4|46=>328|45=>327|50=>168|5=>5|9=>9|66=>389|70=>393|76=>411|77=>412|n=>n,fun|n=>n⟩
theorem Tryz.Uv:Go.Proofs.SlLaysF0.n6 xx Tryz.SL:={
 mixed:=by kernel_rfl
 f6:=⟨Tryz.f217.name,by decide,Tryz.func217.trans (congrArg some (by kernel_rfl))⟩
 f14:=⟨Tryz.f289.name,by decide,Tryz.func289.trans (congrArg some (by kernel_rfl))⟩
 f15:=Tryz.func225.trans (congrArg some (by kernel_rfl))
 f20:=⟨Tryz.f365.name,by decide,Tryz.func365.trans (congrArg some (by kernel_rfl))⟩
 f21:=⟨Tryz.f366.name,by decide,Tryz.func366.trans (congrArg some (by kernel_rfl))⟩
 f22:=⟨Tryz.f367.name,by decide,Tryz.func367.trans (congrArg some (by kernel_rfl))⟩
 f23:=⟨Tryz.f368.name,by decide,Tryz.func368.trans (congrArg some (by kernel_rfl))⟩
 f24:=⟨Tryz.f369.name,by decide,Tryz.func369.trans (congrArg some (by kernel_rfl))⟩
 f25:=⟨Tryz.f370.name,by decide,Tryz.func370.trans (congrArg some (by kernel_rfl))⟩
 f26:=⟨Tryz.f371.name,by decide,Tryz.func371.trans (congrArg some (by kernel_rfl))⟩
 f27:=⟨Tryz.f372.name,by decide,Tryz.func372.trans (congrArg some (by kernel_rfl))⟩
 f28:=Tryz.func300.trans (congrArg some (by kernel_rfl))
 f29:=Tryz.func301.trans (congrArg some (by kernel_rfl))
 f46:=⟨Tryz.f402.name,by decide,Tryz.func402.trans (congrArg some (by kernel_rfl))⟩
 f47:=Tryz.func374.trans (congrArg some (by kernel_rfl))
 f48:=Tryz.func375.trans (congrArg some (by kernel_rfl))
 f49:=⟨Tryz.f403.name,by decide,Tryz.func403.trans (congrArg some (by kernel_rfl))⟩
 f50:=⟨Tryz.f404.name,by decide,Tryz.func404.trans (congrArg some (by kernel_rfl))⟩
 f57:=⟨Tryz.f412.name,by decide,Tryz.func412.trans (congrArg some (by kernel_rfl))⟩
 t0:=Tryz.underlying0
 a0:=Tryz.isAgg0
 z0:=Tryz.sizeOf0
 v0:=Tryz.zeroValue0
 t3:=Tryz.underlying3
 a3:=Tryz.isAgg3
 z3:=Tryz.sizeOf3
 v3:=Tryz.zeroValue3
 t4:=Tryz.underlying4
 a4:=Tryz.isAgg4
 z4:=Tryz.sizeOf4
 v4:=Tryz.zeroValue4
 t5:=Tryz.underlying5
 a5:=Tryz.isAgg5
 z5:=Tryz.sizeOf5
 v5:=Tryz.zeroValue5
 t9:=Tryz.underlying9
 a9:=Tryz.isAgg9
 z9:=Tryz.sizeOf9
 v9:=Tryz.zeroValue9
 t22:=Tryz.underlying244
 a22:=Tryz.isAgg244
 z22:=Tryz.sizeOf244
 v22:=Tryz.zeroValue244
 t25:=Tryz.underlying253
 a25:=Tryz.isAgg253
 z25:=Tryz.sizeOf253
 v25:=Tryz.zeroValue253
 t39:=Tryz.underlying233
 a39:=Tryz.isAgg233
 z39:=Tryz.sizeOf233
 v39:=Tryz.zeroValue233
 t45:=Tryz.underlying327
 a45:=Tryz.isAgg327
 z45:=Tryz.sizeOf327
 v45:=Tryz.zeroValue327
 t46:=Tryz.underlying328
 a46:=Tryz.isAgg328
 z46:=Tryz.sizeOf328
 v46:=Tryz.zeroValue328
 t50:=Tryz.underlying168
 a50:=Tryz.isAgg168
 z50:=Tryz.sizeOf168
 v50:=Tryz.zeroValue168
 t53:=Tryz.underlying36
 a53:=Tryz.isAgg36
 z53:=Tryz.sizeOf36
 v53:=Tryz.zeroValue36
 t55:=Tryz.underlying335
 a55:=Tryz.isAgg335
 z55:=Tryz.sizeOf335
 v55:=Tryz.zeroValue335
 t66:=Tryz.underlying389
 a66:=Tryz.isAgg389
 z66:=Tryz.sizeOf389
 v66:=Tryz.zeroValue389
 t70:=Tryz.underlying393
 a70:=Tryz.isAgg393
 z70:=Tryz.sizeOf393
 v70:=Tryz.zeroValue393
 t76:=Tryz.underlying411
 a76:=Tryz.isAgg411
 z76:=Tryz.sizeOf411
 v76:=Tryz.zeroValue411
 t77:=Tryz.underlying412
 a77:=Tryz.isAgg412
 z77:=Tryz.sizeOf412
 v77:=Tryz.zeroValue412}
theorem Tryz.aes(w:World):Sem.run xx (isAgg 249) w=Result.ok true w:=Tryz.isAgg249 w
theorem Tryz.adk(w:World):Sem.run xx (sizeOf 249) w=Result.ok 2 w:=Tryz.sizeOf249 w
theorem Tryz.adl:Tryz.prog.funcs[218]?=some Tryz.f218:=Tryz.func218
end Go.Proofs
