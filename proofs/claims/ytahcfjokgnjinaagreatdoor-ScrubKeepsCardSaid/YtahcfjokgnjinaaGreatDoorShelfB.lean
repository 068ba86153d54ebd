/- Lemmas for the proof of the law; no condition. -/
import Derived.Shelf.SlSortCmp.NoneTotal
import Derived.Shelf.SlSortCmp.WholeK
import Derived.Shelf.Small.Bits
import Derived.Ground.SlsfProg
import Derived.Ground.NamesProg
import Derived.Test.YtahcfjokgnjinaaGreatDoorProg
set_option linter.unusedVariables false
set_option linter.unusedSimpArgs false
open Go.Proofs.Tryz renaming prog -> xD
set_option maxRecDepth 100000
namespace Go.Proofs
open Go.Shelf
def Tryz.RX:Go.Shelf.Ren:=⟨λ|6=>203|15=>155|14=>261|28=>222|29=>223|20=>314|21=>315|22=>316|23=>317|24=>318|25=>319|26=>320|27=>321|46=>344|47=>273|48=>274|49=>345|50=>346|57=>355|n=>n,λ|22=>262|24=>267|25=>271|3=>3|39=>215|0=>0|53=>34|55=>284|4=>4|46=>277|45=>276|50=>198|5=>5|9=>9|66=>342|70=>346|76=>393|77=>394|n=>n,λ|n=>n⟩
theorem Tryz.TS:Go.Proofs.SlLaysF0.n6 xD Tryz.RX:={
 mixed:=by kernel_rfl
 f6:=⟨Tryz.f203.name,by decide,Tryz.func203.trans (congrArg some (by kernel_rfl))⟩
 f14:=⟨Tryz.f261.name,by decide,Tryz.func261.trans (congrArg some (by kernel_rfl))⟩
 f15:=Tryz.func155.trans (congrArg some (by kernel_rfl))
 f20:=⟨Tryz.f314.name,by decide,Tryz.func314.trans (congrArg some (by kernel_rfl))⟩
 f21:=⟨Tryz.f315.name,by decide,Tryz.func315.trans (congrArg some (by kernel_rfl))⟩
 f22:=⟨Tryz.f316.name,by decide,Tryz.func316.trans (congrArg some (by kernel_rfl))⟩
 f23:=⟨Tryz.f317.name,by decide,Tryz.func317.trans (congrArg some (by kernel_rfl))⟩
 f24:=⟨Tryz.f318.name,by decide,Tryz.func318.trans (congrArg some (by kernel_rfl))⟩
 f25:=⟨Tryz.f319.name,by decide,Tryz.func319.trans (congrArg some (by kernel_rfl))⟩
 f26:=⟨Tryz.f320.name,by decide,Tryz.func320.trans (congrArg some (by kernel_rfl))⟩
 f27:=⟨Tryz.f321.name,by decide,Tryz.func321.trans (congrArg some (by kernel_rfl))⟩
 f28:=Tryz.func222.trans (congrArg some (by kernel_rfl))
 f29:=Tryz.func223.trans (congrArg some (by kernel_rfl))
 f46:=⟨Tryz.f344.name,by decide,Tryz.func344.trans (congrArg some (by kernel_rfl))⟩
 f47:=Tryz.func273.trans (congrArg some (by kernel_rfl))
 f48:=Tryz.func274.trans (congrArg some (by kernel_rfl))
 f49:=⟨Tryz.f345.name,by decide,Tryz.func345.trans (congrArg some (by kernel_rfl))⟩
 f50:=⟨Tryz.f346.name,by decide,Tryz.func346.trans (congrArg some (by kernel_rfl))⟩
 f57:=⟨Tryz.f355.name,by decide,Tryz.func355.trans (congrArg some (by kernel_rfl))⟩
 t0:=Tryz.underlying0
 a0:=Tryz.isAgg0
 z0:=Tryz.sizeOf0
 v0:=Tryz.zeroValue0
 t3:=Tryz.underlying3
 a3:=Tryz.isAgg3
 z3:=Tryz.sizeOf3
 v3:=Tryz.zeroValue3
 t4:=Tryz.underlying4
 a4:=Tryz.isAgg4
 z4:=Tryz.sizeOf4
 v4:=Tryz.zeroValue4
 t5:=Tryz.underlying5
 a5:=Tryz.isAgg5
 z5:=Tryz.sizeOf5
 v5:=Tryz.zeroValue5
 t9:=Tryz.underlying9
 a9:=Tryz.isAgg9
 z9:=Tryz.sizeOf9
 v9:=Tryz.zeroValue9
 t22:=Tryz.underlying262
 a22:=Tryz.isAgg262
 z22:=Tryz.sizeOf262
 v22:=Tryz.zeroValue262
 t25:=Tryz.underlying271
 a25:=Tryz.isAgg271
 z25:=Tryz.sizeOf271
 v25:=Tryz.zeroValue271
 t39:=Tryz.underlying215
 a39:=Tryz.isAgg215
 z39:=Tryz.sizeOf215
 v39:=Tryz.zeroValue215
 t45:=Tryz.underlying276
 a45:=Tryz.isAgg276
 z45:=Tryz.sizeOf276
 v45:=Tryz.zeroValue276
 t46:=Tryz.underlying277
 a46:=Tryz.isAgg277
 z46:=Tryz.sizeOf277
 v46:=Tryz.zeroValue277
 t50:=Tryz.underlying198
 a50:=Tryz.isAgg198
 z50:=Tryz.sizeOf198
 v50:=Tryz.zeroValue198
 t53:=Tryz.underlying34
 a53:=Tryz.isAgg34
 z53:=Tryz.sizeOf34
 v53:=Tryz.zeroValue34
 t55:=Tryz.underlying284
 a55:=Tryz.isAgg284
 z55:=Tryz.sizeOf284
 v55:=Tryz.zeroValue284
 t66:=Tryz.underlying342
 a66:=Tryz.isAgg342
 z66:=Tryz.sizeOf342
 v66:=Tryz.zeroValue342
 t70:=Tryz.underlying346
 a70:=Tryz.isAgg346
 z70:=Tryz.sizeOf346
 v70:=Tryz.zeroValue346
 t76:=Tryz.underlying393
 a76:=Tryz.isAgg393
 z76:=Tryz.sizeOf393
 v76:=Tryz.zeroValue393
 t77:=Tryz.underlying394
 a77:=Tryz.isAgg394
 z77:=Tryz.sizeOf394
 v77:=Tryz.zeroValue394}
theorem Tryz.aeN(w:World):Sem.run xD (isAgg 267) w=Result.ok true w:=Tryz.isAgg267 w
theorem Tryz.adB(w:World):Sem.run xD (sizeOf 267) w=Result.ok 2 w:=Tryz.sizeOf267 w
theorem Tryz.adC:Tryz.prog.funcs[204]?=some Tryz.f204:=Tryz.func204
end Go.Proofs
