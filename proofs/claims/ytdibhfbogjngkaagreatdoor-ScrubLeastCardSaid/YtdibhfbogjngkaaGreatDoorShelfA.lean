/- Lemmas for the proof of the law; no condition. -/
import Derived.Shelf.Small.Utf8
import Derived.Shelf.Small.Bits
import Derived.Shelf.Small.Wraps
import Derived.Shelf.Strconv.Itoa0
import Derived.Shelf.LaysM
import Derived.Shelf.Strconv.Clone
import Derived.Shelf.Sort.Plain
import Derived.Shelf.Slices.Turned
import Derived.Ground.Names2Prog
import Derived.Shelf.Slices.Clone
import Derived.Shelf.Slices.CompactI
import Derived.Shelf.Slices.SearchI
import Derived.Shelf.Slices.Cells
import Derived.Shelf.Slices.In.SortNone
import Derived.Ground.SlbCloneProg
import Derived.Shelf.Bytes.SlClone
import Derived.Ground.SlgnProg
import Derived.Shelf.SlicesE.Clone
import Derived.Shelf.Bytes.SlEqualAll
import Derived.Shelf.Bytes.Small
import Derived.Test.YtdibhfbogjngkaaGreatDoorProg
set_option linter.unusedVariables false
set_option linter.unusedSimpArgs false
open Go.Proofs.Tryz renaming prog -> xm
open Go.Value renaming int -> xb, slice -> xc
open Go.IntKind renaming i64 -> xi, u64 -> xl
set_option maxRecDepth 100000
namespace Go.Proofs
open Go.Shelf
def Tryz.UT:Go.Shelf.Ren:=⟨λ|125=>187|128=>242|129=>243|n=>n,λ|46=>229|3=>3|51=>46|53=>311|4=>4|5=>5|9=>9|n=>n,λ|n=>n⟩
theorem Tryz.afV:Go.Proofs.Lays.n125 xm Tryz.UT:={
 mixed:=by kernel_rfl
 f125:=Tryz.func187.trans (congrArg some (by kernel_rfl))
 f128:=Tryz.func242.trans (congrArg some (by kernel_rfl))
 f129:=Tryz.func243.trans (congrArg some (by kernel_rfl))
 t3:=Tryz.underlying3
 a3:=Tryz.isAgg3
 z3:=Tryz.sizeOf3
 v3:=Tryz.zeroValue3
 t4:=Tryz.underlying4
 a4:=Tryz.isAgg4
 z4:=Tryz.sizeOf4
 v4:=Tryz.zeroValue4
 t5:=Tryz.underlying5
 a5:=Tryz.isAgg5
 z5:=Tryz.sizeOf5
 v5:=Tryz.zeroValue5
 t9:=Tryz.underlying9
 a9:=Tryz.isAgg9
 z9:=Tryz.sizeOf9
 v9:=Tryz.zeroValue9
 t46:=Tryz.underlying229
 a46:=Tryz.isAgg229
 z46:=Tryz.sizeOf229
 v46:=Tryz.zeroValue229
 t51:=Tryz.underlying46
 a51:=Tryz.isAgg46
 z51:=Tryz.sizeOf46
 v51:=Tryz.zeroValue46
 t53:=Tryz.underlying311
 a53:=Tryz.isAgg311
 z53:=Tryz.sizeOf311
 v53:=Tryz.zeroValue311}
theorem Tryz.bits_Len(x:Int)(w:World)(a:0<=x)(c:x<=18446744073709551615):
  Calls xm 187 #[xb xl x] w λe b=>e=.returned (xb xi (Lib.bitLen x.toNat))/\b=w:=Any.bits_Len Tryz.afV x w a c
def Tryz.UU:Go.Shelf.Ren:=⟨λ|189=>148|125=>187|257=>214|128=>242|129=>243|294=>254|295=>255|296=>256|297=>257|298=>258|299=>259|216=>260|300=>261|301=>262|328=>303|329=>294|330=>295|331=>304|332=>305|215=>233|343=>323|n=>n,λ|28=>22|3=>3|46=>229|0=>0|51=>46|53=>311|4=>4|183=>304|182=>303|131=>162|5=>5|9=>9|218=>351|222=>355|228=>376|229=>377|n=>n,λ|n=>n⟩
theorem Tryz.WJ:Go.Proofs.Lays.n189 xm Tryz.UU:={
 mixed:=by kernel_rfl
 f125:=Tryz.func187.trans (congrArg some (by kernel_rfl))
 f128:=Tryz.func242.trans (congrArg some (by kernel_rfl))
 f129:=Tryz.func243.trans (congrArg some (by kernel_rfl))
 f189:=Tryz.func148.trans (congrArg some (by kernel_rfl))
 f215:=Tryz.func233.trans (congrArg some (by kernel_rfl))
 f216:=Tryz.func260.trans (congrArg some (by kernel_rfl))
 f257:=Tryz.func214.trans (congrArg some (by kernel_rfl))
 f294:=Tryz.func254.trans (congrArg some (by kernel_rfl))
 f295:=Tryz.func255.trans (congrArg some (by kernel_rfl))
 f296:=Tryz.func256.trans (congrArg some (by kernel_rfl))
 f297:=Tryz.func257.trans (congrArg some (by kernel_rfl))
 f298:=Tryz.func258.trans (congrArg some (by kernel_rfl))
 f299:=Tryz.func259.trans (congrArg some (by kernel_rfl))
 f300:=Tryz.func261.trans (congrArg some (by kernel_rfl))
 f301:=Tryz.func262.trans (congrArg some (by kernel_rfl))
 f328:=Tryz.func303.trans (congrArg some (by kernel_rfl))
 f329:=Tryz.func294.trans (congrArg some (by kernel_rfl))
 f330:=Tryz.func295.trans (congrArg some (by kernel_rfl))
 f331:=Tryz.func304.trans (congrArg some (by kernel_rfl))
 f332:=Tryz.func305.trans (congrArg some (by kernel_rfl))
 f343:=Tryz.func323.trans (congrArg some (by kernel_rfl))
 t0:=Tryz.underlying0
 a0:=Tryz.isAgg0
 z0:=Tryz.sizeOf0
 v0:=Tryz.zeroValue0
 t3:=Tryz.underlying3
 a3:=Tryz.isAgg3
 z3:=Tryz.sizeOf3
 v3:=Tryz.zeroValue3
 t4:=Tryz.underlying4
 a4:=Tryz.isAgg4
 z4:=Tryz.sizeOf4
 v4:=Tryz.zeroValue4
 t5:=Tryz.underlying5
 a5:=Tryz.isAgg5
 z5:=Tryz.sizeOf5
 v5:=Tryz.zeroValue5
 t9:=Tryz.underlying9
 a9:=Tryz.isAgg9
 z9:=Tryz.sizeOf9
 v9:=Tryz.zeroValue9
 t28:=Tryz.underlying22
 a28:=Tryz.isAgg22
 z28:=Tryz.sizeOf22
 v28:=Tryz.zeroValue22
 t46:=Tryz.underlying229
 a46:=Tryz.isAgg229
 z46:=Tryz.sizeOf229
 v46:=Tryz.zeroValue229
 t51:=Tryz.underlying46
 a51:=Tryz.isAgg46
 z51:=Tryz.sizeOf46
 v51:=Tryz.zeroValue46
 t53:=Tryz.underlying311
 a53:=Tryz.isAgg311
 z53:=Tryz.sizeOf311
 v53:=Tryz.zeroValue311
 t131:=Tryz.underlying162
 a131:=Tryz.isAgg162
 z131:=Tryz.sizeOf162
 v131:=Tryz.zeroValue162
 t182:=Tryz.underlying303
 a182:=Tryz.isAgg303
 z182:=Tryz.sizeOf303
 v182:=Tryz.zeroValue303
 t183:=Tryz.underlying304
 a183:=Tryz.isAgg304
 z183:=Tryz.sizeOf304
 v183:=Tryz.zeroValue304
 t218:=Tryz.underlying351
 a218:=Tryz.isAgg351
 z218:=Tryz.sizeOf351
 v218:=Tryz.zeroValue351
 t222:=Tryz.underlying355
 a222:=Tryz.isAgg355
 z222:=Tryz.sizeOf355
 v222:=Tryz.zeroValue355
 t228:=Tryz.underlying376
 a228:=Tryz.isAgg376
 z228:=Tryz.sizeOf376
 v228:=Tryz.zeroValue376
 t229:=Tryz.underlying377
 a229:=Tryz.isAgg377
 z229:=Tryz.sizeOf377
 v229:=Tryz.zeroValue377}
open Go.Sort Go.RowKit in
theorem Tryz.slices_Sort_int(fO off cap:Nat)(a:List Int)(w:World)(d:Holds (Value.int .i64) w fO off a.toArray)(b:fO<w.heap.size)(c:a.length<4611686018427387904):
  Calls xm 148 #[xc (some ⟨fO,off,none⟩) a.length cap] w λe f=>
   e=.returned (.tuple #[])/\∃n os,f=grow (putRow (Value.int .i64) (Sort.ahead w n) fO off (a.mergeSort λx y=>decide (x<=y)).toArray) os:=Any.slices_Sort_int Tryz.WJ fO off cap a w d b c
def Tryz.Qx:Go.Shelf.Ren:=⟨λ|20=>172|n=>n,λ|22=>22|3=>3|4=>4|0=>0|n=>n,λ|n=>n⟩
theorem Tryz.Pt:Go.Proofs.Lays2.n20 xm Tryz.Qx:={
 mixed:=by kernel_rfl
 f20:=Tryz.func172.trans (congrArg some (by kernel_rfl))
 t0:=Tryz.underlying0
 a0:=Tryz.isAgg0
 z0:=Tryz.sizeOf0
 v0:=Tryz.zeroValue0
 t3:=Tryz.underlying3
 a3:=Tryz.isAgg3
 z3:=Tryz.sizeOf3
 v3:=Tryz.zeroValue3
 t4:=Tryz.underlying4
 a4:=Tryz.isAgg4
 z4:=Tryz.sizeOf4
 v4:=Tryz.zeroValue4
 t22:=Tryz.underlying22
 a22:=Tryz.isAgg22
 z22:=Tryz.sizeOf22
 v22:=Tryz.zeroValue22
 i3:=by kernel_rfl}
open Go.RowKit Go.Lib Go.Sort in
theorem Tryz.slices_Compact_int(fO off cap:Nat)(a:List Int)(w:World)(d:Holds (Value.int .i64) w fO off a.toArray)(c:a.length<=9223372036854775807)(b:a.length<=cap):
  Calls xm 172 #[xc (some ⟨fO,off,none⟩) a.length cap] w λe f=>e=.returned (xc (some ⟨fO,off,none⟩) (Lib.compact a).length cap)/\∃q,f=putRow (Value.int .i64) (Sort.ahead w q) fO off (Lib.compact a++List.replicate (a.length-(Lib.compact a).length) 0).toArray:=Any.slices_Compact_int Tryz.Pt fO off cap a w d c b
open Go.RowKit Go.Lib Go.Sort in
theorem Tryz.slices_Compact_int_empty(a:Option Addr)(cap:Nat)(w:World):
  Calls xm 172 #[xc a 0 cap] w λe b=>e=.returned (xc a 0 cap)/\b=w:=Any.slices_Compact_int_empty Tryz.Pt a cap w
open Go.RowKit Go.Sort in
theorem Tryz.slices_Sort_int_none(p:Option Addr)(cap:Nat)(w:World):
  Calls xm 148 #[xc p 0 cap] w λe a=>e=.returned (.tuple #[])/\a=w:=Any.slices_Sort_int_none Tryz.WJ p cap w
end Go.Proofs
