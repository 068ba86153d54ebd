/- Lemmas. -/
import Derived.Shelf.Small.Utf8
import Derived.Shelf.Small.Bits
import Derived.Shelf.Small.Wraps
import Derived.Shelf.Strconv.Itoa0
import Derived.Shelf.LaysM
import Derived.Shelf.Strconv.Clone
import Derived.Shelf.Sort.Plain
import Derived.Ground.Names2Prog
import Derived.Shelf.Slices.Clone
import Derived.Shelf.Slices.CompactI
import Derived.Shelf.Slices.SearchI
import Derived.Shelf.Slices.Cells
import Derived.Shelf.Slices.In.SortNone
import Derived.Ground.SlbCloneProg
import Derived.Shelf.Bytes.SlClone
import Derived.Ground.SlgnProg
import Derived.Shelf.SlicesE.Clone
import Derived.Shelf.Bytes.SlEqualAll
import Derived.Shelf.Bytes.Small
import Derived.Test.YtadfimdanpoafaaGreatDoorProg
set_option linter.unusedVariables false
open Go.Proofs.Tryz renaming prog -> xx
open Go.Value renaming int -> xl, slice -> xn
open Go.IntKind renaming i64 -> xt, u64 -> xw
set_option maxRecDepth 100000
namespace Go.Proofs
open Go.Shelf
def Tryz.SJ:Go.Shelf.Ren:=⟨fun|125=>225|128=>300|129=>301|n=>n,fun|46=>233|3=>3|51=>36|53=>335|4=>4|5=>5|9=>9|n=>n,fun|n=>n⟩
theorem Tryz.adj:Go.Proofs.Lays.n125 xx Tryz.SJ:={
 mixed:=by kernel_rfl
 f125:=Tryz.func225.trans (congrArg some (by kernel_rfl))
 f128:=Tryz.func300.trans (congrArg some (by kernel_rfl))
 f129:=Tryz.func301.trans (congrArg some (by kernel_rfl))
 t3:=Tryz.underlying3
 a3:=Tryz.isAgg3
 z3:=Tryz.sizeOf3
 v3:=Tryz.zeroValue3
 t4:=Tryz.underlying4
 a4:=Tryz.isAgg4
 z4:=Tryz.sizeOf4
 v4:=Tryz.zeroValue4
 t5:=Tryz.underlying5
 a5:=Tryz.isAgg5
 z5:=Tryz.sizeOf5
 v5:=Tryz.zeroValue5
 t9:=Tryz.underlying9
 a9:=Tryz.isAgg9
 z9:=Tryz.sizeOf9
 v9:=Tryz.zeroValue9
 t46:=Tryz.underlying233
 a46:=Tryz.isAgg233
 z46:=Tryz.sizeOf233
 v46:=Tryz.zeroValue233
 t51:=Tryz.underlying36
 a51:=Tryz.isAgg36
 z51:=Tryz.sizeOf36
 v51:=Tryz.zeroValue36
 t53:=Tryz.underlying335
 a53:=Tryz.isAgg335
 z53:=Tryz.sizeOf335
 v53:=Tryz.zeroValue335}
theorem Tryz.bits_Len(x:Int)(w:World)(h0:0<=x)(a:x<=18446744073709551615):
  Calls xx 225 #[xl xw x] w fun e w'=>e=.returned (xl xt (Lib.bitLen x.toNat))/\w'=w:=Any.bits_Len Tryz.adj x w h0 a
def Tryz.SK:Go.Shelf.Ren:=⟨fun|189=>168|125=>225|257=>254|128=>300|129=>301|294=>327|295=>328|296=>329|297=>330|298=>331|299=>332|216=>333|300=>334|301=>335|328=>392|329=>374|330=>375|331=>393|332=>394|215=>291|343=>411|n=>n,fun|28=>22|3=>3|46=>233|0=>0|51=>36|53=>335|4=>4|183=>328|182=>327|131=>168|5=>5|9=>9|218=>389|222=>393|228=>411|229=>412|n=>n,fun|n=>n⟩
theorem Tryz.Uu:Go.Proofs.Lays.n189 xx Tryz.SK:={
 mixed:=by kernel_rfl
 f125:=Tryz.func225.trans (congrArg some (by kernel_rfl))
 f128:=Tryz.func300.trans (congrArg some (by kernel_rfl))
 f129:=Tryz.func301.trans (congrArg some (by kernel_rfl))
 f189:=Tryz.func168.trans (congrArg some (by kernel_rfl))
 f215:=Tryz.func291.trans (congrArg some (by kernel_rfl))
 f216:=Tryz.func333.trans (congrArg some (by kernel_rfl))
 f257:=Tryz.func254.trans (congrArg some (by kernel_rfl))
 f294:=Tryz.func327.trans (congrArg some (by kernel_rfl))
 f295:=Tryz.func328.trans (congrArg some (by kernel_rfl))
 f296:=Tryz.func329.trans (congrArg some (by kernel_rfl))
 f297:=Tryz.func330.trans (congrArg some (by kernel_rfl))
 f298:=Tryz.func331.trans (congrArg some (by kernel_rfl))
 f299:=Tryz.func332.trans (congrArg some (by kernel_rfl))
 f300:=Tryz.func334.trans (congrArg some (by kernel_rfl))
 f301:=Tryz.func335.trans (congrArg some (by kernel_rfl))
 f328:=Tryz.func392.trans (congrArg some (by kernel_rfl))
 f329:=Tryz.func374.trans (congrArg some (by kernel_rfl))
 f330:=Tryz.func375.trans (congrArg some (by kernel_rfl))
 f331:=Tryz.func393.trans (congrArg some (by kernel_rfl))
 f332:=Tryz.func394.trans (congrArg some (by kernel_rfl))
 f343:=Tryz.func411.trans (congrArg some (by kernel_rfl))
 t0:=Tryz.underlying0
 a0:=Tryz.isAgg0
 z0:=Tryz.sizeOf0
 v0:=Tryz.zeroValue0
 t3:=Tryz.underlying3
 a3:=Tryz.isAgg3
 z3:=Tryz.sizeOf3
 v3:=Tryz.zeroValue3
 t4:=Tryz.underlying4
 a4:=Tryz.isAgg4
 z4:=Tryz.sizeOf4
 v4:=Tryz.zeroValue4
 t5:=Tryz.underlying5
 a5:=Tryz.isAgg5
 z5:=Tryz.sizeOf5
 v5:=Tryz.zeroValue5
 t9:=Tryz.underlying9
 a9:=Tryz.isAgg9
 z9:=Tryz.sizeOf9
 v9:=Tryz.zeroValue9
 t28:=Tryz.underlying22
 a28:=Tryz.isAgg22
 z28:=Tryz.sizeOf22
 v28:=Tryz.zeroValue22
 t46:=Tryz.underlying233
 a46:=Tryz.isAgg233
 z46:=Tryz.sizeOf233
 v46:=Tryz.zeroValue233
 t51:=Tryz.underlying36
 a51:=Tryz.isAgg36
 z51:=Tryz.sizeOf36
 v51:=Tryz.zeroValue36
 t53:=Tryz.underlying335
 a53:=Tryz.isAgg335
 z53:=Tryz.sizeOf335
 v53:=Tryz.zeroValue335
 t131:=Tryz.underlying168
 a131:=Tryz.isAgg168
 z131:=Tryz.sizeOf168
 v131:=Tryz.zeroValue168
 t182:=Tryz.underlying327
 a182:=Tryz.isAgg327
 z182:=Tryz.sizeOf327
 v182:=Tryz.zeroValue327
 t183:=Tryz.underlying328
 a183:=Tryz.isAgg328
 z183:=Tryz.sizeOf328
 v183:=Tryz.zeroValue328
 t218:=Tryz.underlying389
 a218:=Tryz.isAgg389
 z218:=Tryz.sizeOf389
 v218:=Tryz.zeroValue389
 t222:=Tryz.underlying393
 a222:=Tryz.isAgg393
 z222:=Tryz.sizeOf393
 v222:=Tryz.zeroValue393
 t228:=Tryz.underlying411
 a228:=Tryz.isAgg411
 z228:=Tryz.sizeOf411
 v228:=Tryz.zeroValue411
 t229:=Tryz.underlying412
 a229:=Tryz.isAgg412
 z229:=Tryz.sizeOf412
 v229:=Tryz.zeroValue412}
open Go.Sort Go.RowKit in
theorem Tryz.slices_Sort_int(fy off cap:Nat)(a:List Int)(w:World)(d:Holds (Value.int .i64) w fy off a.toArray)(b:fy<w.heap.size)(c:a.length<4611686018427387904):
  Calls xx 168 #[xn (some ⟨fy,off,none⟩) a.length cap] w fun e w'=>
   e=.returned (.tuple #[])/\∃n os,w'=grow (putRow (Value.int .i64) (Sort.ahead w n) fy off (a.mergeSort fun x y=>decide (x<=y)).toArray) os:=Any.slices_Sort_int Tryz.Uu fy off cap a w d b c
def Tryz.OI:Go.Shelf.Ren:=⟨fun|20=>208|n=>n,fun|22=>22|3=>3|4=>4|0=>0|n=>n,fun|n=>n⟩
theorem Tryz.NQ:Go.Proofs.Lays2.n20 xx Tryz.OI:={
 mixed:=by kernel_rfl
 f20:=Tryz.func208.trans (congrArg some (by kernel_rfl))
 t0:=Tryz.underlying0
 a0:=Tryz.isAgg0
 z0:=Tryz.sizeOf0
 v0:=Tryz.zeroValue0
 t3:=Tryz.underlying3
 a3:=Tryz.isAgg3
 z3:=Tryz.sizeOf3
 v3:=Tryz.zeroValue3
 t4:=Tryz.underlying4
 a4:=Tryz.isAgg4
 z4:=Tryz.sizeOf4
 v4:=Tryz.zeroValue4
 t22:=Tryz.underlying22
 a22:=Tryz.isAgg22
 z22:=Tryz.sizeOf22
 v22:=Tryz.zeroValue22
 i3:=by kernel_rfl}
open Go.RowKit Go.Lib Go.Sort in
theorem Tryz.slices_Compact_int(fy off cap:Nat)(a:List Int)(w:World)(d:Holds (Value.int .i64) w fy off a.toArray)(c:a.length<=9223372036854775807)(b:a.length<=cap):
  Calls xx 208 #[xn (some ⟨fy,off,none⟩) a.length cap] w fun e w'=>e=.returned (xn (some ⟨fy,off,none⟩) (Lib.compact a).length cap)/\∃q,w'=putRow (Value.int .i64) (Sort.ahead w q) fy off (Lib.compact a++List.replicate (a.length-(Lib.compact a).length) 0).toArray:=Any.slices_Compact_int Tryz.NQ fy off cap a w d c b
open Go.RowKit Go.Lib Go.Sort in
theorem Tryz.slices_Compact_int_empty(a:Option Addr)(cap:Nat)(w:World):
  Calls xx 208 #[xn a 0 cap] w fun e w'=>e=.returned (xn a 0 cap)/\w'=w:=Any.slices_Compact_int_empty Tryz.NQ a cap w
open Go.RowKit Go.Sort in
theorem Tryz.slices_Sort_int_none(p:Option Addr)(cap:Nat)(w:World):
  Calls xx 168 #[xn p 0 cap] w fun e w'=>e=.returned (.tuple #[])/\w'=w:=Any.slices_Sort_int_none Tryz.Uu p cap w
end Go.Proofs
