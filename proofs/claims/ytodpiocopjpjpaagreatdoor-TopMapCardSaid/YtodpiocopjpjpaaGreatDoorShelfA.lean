/- Lemmas for the proof of the law; no condition. -/
import Derived.Shelf.Small.Utf8
import Derived.Shelf.Small.Bits
import Derived.Shelf.Small.Wraps
import Derived.Shelf.Strconv.Itoa0
import Derived.Shelf.LaysM
import Derived.Shelf.Strconv.Clone
import Derived.Shelf.Sort.Plain
import Derived.Shelf.Slices.Turned
import Derived.Ground.Names2Prog
import Derived.Shelf.Slices.Clone
import Derived.Shelf.Slices.CompactI
import Derived.Shelf.Slices.SearchI
import Derived.Shelf.Slices.Cells
import Derived.Shelf.Slices.In.SortNone
import Derived.Shelf.Bytes.SlSearch0
import Derived.Ground.SlbCloneProg
import Derived.Shelf.Bytes.SlClone
import Derived.Ground.SlgnProg
import Derived.Shelf.SlicesE.Clone
import Derived.Shelf.Bytes.SlEqualAll
import Derived.Shelf.Bytes.Small
import Derived.Test.YtodpiocopjpjpaaGreatDoorProg
set_option linter.unusedVariables false
set_option linter.unusedSimpArgs false
open Go.Proofs.Tryz renaming prog -> kg
open Go.Value renaming int -> xU, slice -> xV
open Go.IntKind renaming i64 -> ka, u64 -> kf
namespace Go.Proofs
open Go.Shelf
def Tryz.RT:Go.Shelf.Ren:=⟨λ|125=>110|128=>185|129=>186|n=>n,λ|46=>171|3=>3|51=>35|53=>241|4=>4|5=>5|9=>9|n=>n,λ|n=>n⟩
theorem Tryz.afw:Go.Proofs.Lays.n125 kg Tryz.RT:={
 mixed:=by kernel_rfl
 f125:=Tryz.func110.trans (congrArg some (by kernel_rfl))
 f128:=Tryz.func185.trans (congrArg some (by kernel_rfl))
 f129:=Tryz.func186.trans (congrArg some (by kernel_rfl))
 t3:=Tryz.underlying3
 a3:=Tryz.isAgg3
 z3:=Tryz.sizeOf3
 v3:=Tryz.zeroValue3
 t4:=Tryz.underlying4
 a4:=Tryz.isAgg4
 z4:=Tryz.sizeOf4
 v4:=Tryz.zeroValue4
 t5:=Tryz.underlying5
 a5:=Tryz.isAgg5
 z5:=Tryz.sizeOf5
 v5:=Tryz.zeroValue5
 t9:=Tryz.underlying9
 a9:=Tryz.isAgg9
 z9:=Tryz.sizeOf9
 v9:=Tryz.zeroValue9
 t46:=Tryz.underlying171
 a46:=Tryz.isAgg171
 z46:=Tryz.sizeOf171
 v46:=Tryz.zeroValue171
 t51:=Tryz.underlying35
 a51:=Tryz.isAgg35
 z51:=Tryz.sizeOf35
 v51:=Tryz.zeroValue35
 t53:=Tryz.underlying241
 a53:=Tryz.isAgg241
 z53:=Tryz.sizeOf241
 v53:=Tryz.zeroValue241}
theorem Tryz.bits_Len(x:Int)(w:World)(h0:0<=x)(a:x<=18446744073709551615):
  Calls kg 110 #[xU kf x] w λe w'=>e=.returned (xU ka (Lib.bitLen x.toNat))/\w'=w:=Any.bits_Len Tryz.afw x w h0 a
def Tryz.RU:Go.Shelf.Ren:=⟨λ|189=>51|125=>110|257=>109|128=>185|129=>186|294=>176|295=>177|296=>178|297=>179|298=>180|299=>181|216=>182|300=>183|301=>184|328=>240|329=>241|330=>242|331=>243|332=>244|215=>245|343=>305|n=>n,λ|28=>22|3=>3|46=>171|0=>0|51=>35|53=>241|4=>4|183=>234|182=>233|131=>207|5=>5|9=>9|218=>303|222=>307|228=>367|229=>368|n=>n,λ|n=>n⟩
theorem Tryz.Uc:Go.Proofs.Lays.n189 kg Tryz.RU:={
 mixed:=by kernel_rfl
 f125:=Tryz.func110.trans (congrArg some (by kernel_rfl))
 f128:=Tryz.func185.trans (congrArg some (by kernel_rfl))
 f129:=Tryz.func186.trans (congrArg some (by kernel_rfl))
 f189:=Tryz.func51.trans (congrArg some (by kernel_rfl))
 f215:=Tryz.func245.trans (congrArg some (by kernel_rfl))
 f216:=Tryz.func182.trans (congrArg some (by kernel_rfl))
 f257:=Tryz.func109.trans (congrArg some (by kernel_rfl))
 f294:=Tryz.func176.trans (congrArg some (by kernel_rfl))
 f295:=Tryz.func177.trans (congrArg some (by kernel_rfl))
 f296:=Tryz.func178.trans (congrArg some (by kernel_rfl))
 f297:=Tryz.func179.trans (congrArg some (by kernel_rfl))
 f298:=Tryz.func180.trans (congrArg some (by kernel_rfl))
 f299:=Tryz.func181.trans (congrArg some (by kernel_rfl))
 f300:=Tryz.func183.trans (congrArg some (by kernel_rfl))
 f301:=Tryz.func184.trans (congrArg some (by kernel_rfl))
 f328:=Tryz.func240.trans (congrArg some (by kernel_rfl))
 f329:=Tryz.func241.trans (congrArg some (by kernel_rfl))
 f330:=Tryz.func242.trans (congrArg some (by kernel_rfl))
 f331:=Tryz.func243.trans (congrArg some (by kernel_rfl))
 f332:=Tryz.func244.trans (congrArg some (by kernel_rfl))
 f343:=Tryz.func305.trans (congrArg some (by kernel_rfl))
 t0:=Tryz.underlying0
 a0:=Tryz.isAgg0
 z0:=Tryz.sizeOf0
 v0:=Tryz.zeroValue0
 t3:=Tryz.underlying3
 a3:=Tryz.isAgg3
 z3:=Tryz.sizeOf3
 v3:=Tryz.zeroValue3
 t4:=Tryz.underlying4
 a4:=Tryz.isAgg4
 z4:=Tryz.sizeOf4
 v4:=Tryz.zeroValue4
 t5:=Tryz.underlying5
 a5:=Tryz.isAgg5
 z5:=Tryz.sizeOf5
 v5:=Tryz.zeroValue5
 t9:=Tryz.underlying9
 a9:=Tryz.isAgg9
 z9:=Tryz.sizeOf9
 v9:=Tryz.zeroValue9
 t28:=Tryz.underlying22
 a28:=Tryz.isAgg22
 z28:=Tryz.sizeOf22
 v28:=Tryz.zeroValue22
 t46:=Tryz.underlying171
 a46:=Tryz.isAgg171
 z46:=Tryz.sizeOf171
 v46:=Tryz.zeroValue171
 t51:=Tryz.underlying35
 a51:=Tryz.isAgg35
 z51:=Tryz.sizeOf35
 v51:=Tryz.zeroValue35
 t53:=Tryz.underlying241
 a53:=Tryz.isAgg241
 z53:=Tryz.sizeOf241
 v53:=Tryz.zeroValue241
 t131:=Tryz.underlying207
 a131:=Tryz.isAgg207
 z131:=Tryz.sizeOf207
 v131:=Tryz.zeroValue207
 t182:=Tryz.underlying233
 a182:=Tryz.isAgg233
 z182:=Tryz.sizeOf233
 v182:=Tryz.zeroValue233
 t183:=Tryz.underlying234
 a183:=Tryz.isAgg234
 z183:=Tryz.sizeOf234
 v183:=Tryz.zeroValue234
 t218:=Tryz.underlying303
 a218:=Tryz.isAgg303
 z218:=Tryz.sizeOf303
 v218:=Tryz.zeroValue303
 t222:=Tryz.underlying307
 a222:=Tryz.isAgg307
 z222:=Tryz.sizeOf307
 v222:=Tryz.zeroValue307
 t228:=Tryz.underlying367
 a228:=Tryz.isAgg367
 z228:=Tryz.sizeOf367
 v228:=Tryz.zeroValue367
 t229:=Tryz.underlying368
 a229:=Tryz.isAgg368
 z229:=Tryz.sizeOf368
 v229:=Tryz.zeroValue368}
open Go.Sort Go.RowKit in
theorem Tryz.slices_Sort_int(fy off cap:Nat)(a:List Int)(w:World)(d:Holds (Value.int .i64) w fy off a.toArray)(b:fy<w.heap.size)(c:a.length<4611686018427387904):
  Calls kg 51 #[xV (some ⟨fy,off,none⟩) a.length cap] w λe w'=>
   e=.returned (.tuple #[])/\∃n os,w'=grow (putRow (Value.int .i64) (Sort.ahead w n) fy off (a.mergeSort λx y=>decide (x<=y)).toArray) os:=Any.slices_Sort_int Tryz.Uc fy off cap a w d b c
def Tryz.Ns:Go.Shelf.Ren:=⟨λ|20=>195|n=>n,λ|22=>22|3=>3|4=>4|0=>0|n=>n,λ|n=>n⟩
theorem Tryz.Mr:Go.Proofs.Lays2.n20 kg Tryz.Ns:={
 mixed:=by kernel_rfl
 f20:=Tryz.func195.trans (congrArg some (by kernel_rfl))
 t0:=Tryz.underlying0
 a0:=Tryz.isAgg0
 z0:=Tryz.sizeOf0
 v0:=Tryz.zeroValue0
 t3:=Tryz.underlying3
 a3:=Tryz.isAgg3
 z3:=Tryz.sizeOf3
 v3:=Tryz.zeroValue3
 t4:=Tryz.underlying4
 a4:=Tryz.isAgg4
 z4:=Tryz.sizeOf4
 v4:=Tryz.zeroValue4
 t22:=Tryz.underlying22
 a22:=Tryz.isAgg22
 z22:=Tryz.sizeOf22
 v22:=Tryz.zeroValue22
 i3:=by kernel_rfl}
open Go.RowKit Go.Lib Go.Sort in
theorem Tryz.slices_Compact_int(fy off cap:Nat)(a:List Int)(w:World)(d:Holds (Value.int .i64) w fy off a.toArray)(c:a.length<=9223372036854775807)(b:a.length<=cap):
  Calls kg 195 #[xV (some ⟨fy,off,none⟩) a.length cap] w λe w'=>e=.returned (xV (some ⟨fy,off,none⟩) (Lib.compact a).length cap)/\∃q,w'=putRow (Value.int .i64) (Sort.ahead w q) fy off (Lib.compact a++List.replicate (a.length-(Lib.compact a).length) 0).toArray:=Any.slices_Compact_int Tryz.Mr fy off cap a w d c b
open Go.RowKit Go.Lib Go.Sort in
theorem Tryz.slices_Compact_int_empty(a:Option Addr)(cap:Nat)(w:World):
  Calls kg 195 #[xV a 0 cap] w λe w'=>e=.returned (xV a 0 cap)/\w'=w:=Any.slices_Compact_int_empty Tryz.Mr a cap w
open Go.RowKit Go.Sort in
theorem Tryz.slices_Sort_int_none(p:Option Addr)(cap:Nat)(w:World):
  Calls kg 51 #[xV p 0 cap] w λe w'=>e=.returned (.tuple #[])/\w'=w:=Any.slices_Sort_int_none Tryz.Uc p cap w
end Go.Proofs
