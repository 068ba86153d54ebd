/- Lemmas for the proof of the law; no condition. -/
import Derived.Shelf.Small.Utf8
import Derived.Shelf.Small.Bits
import Derived.Shelf.Small.Wraps
import Derived.Shelf.Strconv.Itoa0
import Derived.Shelf.LaysM
import Derived.Shelf.Strconv.Clone
import Derived.Shelf.Sort.Plain
import Derived.Shelf.Slices.Turned
import Derived.Ground.Names2Prog
import Derived.Shelf.Slices.Clone
import Derived.Shelf.Slices.CompactI
import Derived.Shelf.Slices.SearchI
import Derived.Shelf.Slices.Cells
import Derived.Shelf.Slices.In.SortNone
import Derived.Ground.SlbCloneProg
import Derived.Shelf.Bytes.SlClone
import Derived.Ground.SlgnProg
import Derived.Shelf.SlicesE.Clone
import Derived.Shelf.Bytes.SlEqualAll
import Derived.Shelf.Bytes.Small
import Derived.Test.YtahcfjokgnjinaaGreatDoorProg
set_option linter.unusedVariables false
set_option linter.unusedSimpArgs false
open Go.Proofs.Tryz renaming prog -> xD
open Go.Value renaming int -> xt, slice -> xu
open Go.IntKind renaming i64 -> xz, u64 -> xC
namespace Go.Proofs
open Go.Shelf
def Tryz.RV:Go.Shelf.Ren:=⟨λ|125=>155|128=>222|129=>223|n=>n,λ|46=>215|3=>3|51=>34|53=>284|4=>4|5=>5|9=>9|n=>n,λ|n=>n⟩
theorem Tryz.adA:Go.Proofs.Lays.n125 xD Tryz.RV:={
 mixed:=by kernel_rfl
 f125:=Tryz.func155.trans (congrArg some (by kernel_rfl))
 f128:=Tryz.func222.trans (congrArg some (by kernel_rfl))
 f129:=Tryz.func223.trans (congrArg some (by kernel_rfl))
 t3:=Tryz.underlying3
 a3:=Tryz.isAgg3
 z3:=Tryz.sizeOf3
 v3:=Tryz.zeroValue3
 t4:=Tryz.underlying4
 a4:=Tryz.isAgg4
 z4:=Tryz.sizeOf4
 v4:=Tryz.zeroValue4
 t5:=Tryz.underlying5
 a5:=Tryz.isAgg5
 z5:=Tryz.sizeOf5
 v5:=Tryz.zeroValue5
 t9:=Tryz.underlying9
 a9:=Tryz.isAgg9
 z9:=Tryz.sizeOf9
 v9:=Tryz.zeroValue9
 t46:=Tryz.underlying215
 a46:=Tryz.isAgg215
 z46:=Tryz.sizeOf215
 v46:=Tryz.zeroValue215
 t51:=Tryz.underlying34
 a51:=Tryz.isAgg34
 z51:=Tryz.sizeOf34
 v51:=Tryz.zeroValue34
 t53:=Tryz.underlying284
 a53:=Tryz.isAgg284
 z53:=Tryz.sizeOf284
 v53:=Tryz.zeroValue284}
theorem Tryz.bits_Len(x:Int)(w:World)(b:0<=x)(a:x<=18446744073709551615):
  Calls xD 155 #[xt xC x] w λe c=>e=.returned (xt xz (Lib.bitLen x.toNat))/\c=w:=Any.bits_Len Tryz.adA x w b a
def Tryz.RW:Go.Shelf.Ren:=⟨λ|189=>96|125=>155|257=>154|128=>222|129=>223|294=>213|295=>214|296=>215|297=>216|298=>217|299=>218|216=>219|300=>220|301=>221|328=>272|329=>273|330=>274|331=>275|332=>276|215=>263|343=>325|n=>n,λ|28=>22|3=>3|46=>215|0=>0|51=>34|53=>284|4=>4|183=>277|182=>276|131=>198|5=>5|9=>9|218=>342|222=>346|228=>393|229=>394|n=>n,λ|n=>n⟩
theorem Tryz.TR:Go.Proofs.Lays.n189 xD Tryz.RW:={
 mixed:=by kernel_rfl
 f125:=Tryz.func155.trans (congrArg some (by kernel_rfl))
 f128:=Tryz.func222.trans (congrArg some (by kernel_rfl))
 f129:=Tryz.func223.trans (congrArg some (by kernel_rfl))
 f189:=Tryz.func96.trans (congrArg some (by kernel_rfl))
 f215:=Tryz.func263.trans (congrArg some (by kernel_rfl))
 f216:=Tryz.func219.trans (congrArg some (by kernel_rfl))
 f257:=Tryz.func154.trans (congrArg some (by kernel_rfl))
 f294:=Tryz.func213.trans (congrArg some (by kernel_rfl))
 f295:=Tryz.func214.trans (congrArg some (by kernel_rfl))
 f296:=Tryz.func215.trans (congrArg some (by kernel_rfl))
 f297:=Tryz.func216.trans (congrArg some (by kernel_rfl))
 f298:=Tryz.func217.trans (congrArg some (by kernel_rfl))
 f299:=Tryz.func218.trans (congrArg some (by kernel_rfl))
 f300:=Tryz.func220.trans (congrArg some (by kernel_rfl))
 f301:=Tryz.func221.trans (congrArg some (by kernel_rfl))
 f328:=Tryz.func272.trans (congrArg some (by kernel_rfl))
 f329:=Tryz.func273.trans (congrArg some (by kernel_rfl))
 f330:=Tryz.func274.trans (congrArg some (by kernel_rfl))
 f331:=Tryz.func275.trans (congrArg some (by kernel_rfl))
 f332:=Tryz.func276.trans (congrArg some (by kernel_rfl))
 f343:=Tryz.func325.trans (congrArg some (by kernel_rfl))
 t0:=Tryz.underlying0
 a0:=Tryz.isAgg0
 z0:=Tryz.sizeOf0
 v0:=Tryz.zeroValue0
 t3:=Tryz.underlying3
 a3:=Tryz.isAgg3
 z3:=Tryz.sizeOf3
 v3:=Tryz.zeroValue3
 t4:=Tryz.underlying4
 a4:=Tryz.isAgg4
 z4:=Tryz.sizeOf4
 v4:=Tryz.zeroValue4
 t5:=Tryz.underlying5
 a5:=Tryz.isAgg5
 z5:=Tryz.sizeOf5
 v5:=Tryz.zeroValue5
 t9:=Tryz.underlying9
 a9:=Tryz.isAgg9
 z9:=Tryz.sizeOf9
 v9:=Tryz.zeroValue9
 t28:=Tryz.underlying22
 a28:=Tryz.isAgg22
 z28:=Tryz.sizeOf22
 v28:=Tryz.zeroValue22
 t46:=Tryz.underlying215
 a46:=Tryz.isAgg215
 z46:=Tryz.sizeOf215
 v46:=Tryz.zeroValue215
 t51:=Tryz.underlying34
 a51:=Tryz.isAgg34
 z51:=Tryz.sizeOf34
 v51:=Tryz.zeroValue34
 t53:=Tryz.underlying284
 a53:=Tryz.isAgg284
 z53:=Tryz.sizeOf284
 v53:=Tryz.zeroValue284
 t131:=Tryz.underlying198
 a131:=Tryz.isAgg198
 z131:=Tryz.sizeOf198
 v131:=Tryz.zeroValue198
 t182:=Tryz.underlying276
 a182:=Tryz.isAgg276
 z182:=Tryz.sizeOf276
 v182:=Tryz.zeroValue276
 t183:=Tryz.underlying277
 a183:=Tryz.isAgg277
 z183:=Tryz.sizeOf277
 v183:=Tryz.zeroValue277
 t218:=Tryz.underlying342
 a218:=Tryz.isAgg342
 z218:=Tryz.sizeOf342
 v218:=Tryz.zeroValue342
 t222:=Tryz.underlying346
 a222:=Tryz.isAgg346
 z222:=Tryz.sizeOf346
 v222:=Tryz.zeroValue346
 t228:=Tryz.underlying393
 a228:=Tryz.isAgg393
 z228:=Tryz.sizeOf393
 v228:=Tryz.zeroValue393
 t229:=Tryz.underlying394
 a229:=Tryz.isAgg394
 z229:=Tryz.sizeOf394
 v229:=Tryz.zeroValue394}
open Go.Sort Go.RowKit in
theorem Tryz.slices_Sort_int(ga off cap:Nat)(a:List Int)(w:World)(d:Holds (Value.int .i64) w ga off a.toArray)(b:ga<w.heap.size)(c:a.length<4611686018427387904):
  Calls xD 96 #[xu (some ⟨ga,off,none⟩) a.length cap] w λe f=>
   e=.returned (.tuple #[])/\∃n os,f=grow (putRow (Value.int .i64) (Sort.ahead w n) ga off (a.mergeSort λx y=>decide (x<=y)).toArray) os:=Any.slices_Sort_int Tryz.TR ga off cap a w d b c
def Tryz.Ni:Go.Shelf.Ren:=⟨λ|20=>177|n=>n,λ|22=>22|3=>3|4=>4|0=>0|n=>n,λ|n=>n⟩
theorem Tryz.Mk:Go.Proofs.Lays2.n20 xD Tryz.Ni:={
 mixed:=by kernel_rfl
 f20:=Tryz.func177.trans (congrArg some (by kernel_rfl))
 t0:=Tryz.underlying0
 a0:=Tryz.isAgg0
 z0:=Tryz.sizeOf0
 v0:=Tryz.zeroValue0
 t3:=Tryz.underlying3
 a3:=Tryz.isAgg3
 z3:=Tryz.sizeOf3
 v3:=Tryz.zeroValue3
 t4:=Tryz.underlying4
 a4:=Tryz.isAgg4
 z4:=Tryz.sizeOf4
 v4:=Tryz.zeroValue4
 t22:=Tryz.underlying22
 a22:=Tryz.isAgg22
 z22:=Tryz.sizeOf22
 v22:=Tryz.zeroValue22
 i3:=by kernel_rfl}
open Go.RowKit Go.Lib Go.Sort in
theorem Tryz.slices_Compact_int(ga off cap:Nat)(a:List Int)(w:World)(d:Holds (Value.int .i64) w ga off a.toArray)(c:a.length<=9223372036854775807)(b:a.length<=cap):
  Calls xD 177 #[xu (some ⟨ga,off,none⟩) a.length cap] w λe f=>e=.returned (xu (some ⟨ga,off,none⟩) (Lib.compact a).length cap)/\∃q,f=putRow (Value.int .i64) (Sort.ahead w q) ga off (Lib.compact a++List.replicate (a.length-(Lib.compact a).length) 0).toArray:=Any.slices_Compact_int Tryz.Mk ga off cap a w d c b
open Go.RowKit Go.Lib Go.Sort in
theorem Tryz.slices_Compact_int_empty(a:Option Addr)(cap:Nat)(w:World):
  Calls xD 177 #[xu a 0 cap] w λe b=>e=.returned (xu a 0 cap)/\b=w:=Any.slices_Compact_int_empty Tryz.Mk a cap w
open Go.RowKit Go.Sort in
theorem Tryz.slices_Sort_int_none(p:Option Addr)(cap:Nat)(w:World):
  Calls xD 96 #[xu p 0 cap] w λe a=>e=.returned (.tuple #[])/\a=w:=Any.slices_Sort_int_none Tryz.TR p cap w
end Go.Proofs
