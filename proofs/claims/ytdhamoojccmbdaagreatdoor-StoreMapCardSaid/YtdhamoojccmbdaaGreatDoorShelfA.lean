/- Part of the proofs that the laws of this seat answer true whatever the input reads, and leave it as it was; no condition. -/
import Derived.Shelf.Small.Utf8
import Derived.Shelf.Small.Bits
import Derived.Shelf.Small.Wraps
import Derived.Shelf.Strconv.Itoa0
import Derived.Shelf.LaysM
import Derived.Shelf.Strconv.Clone
import Derived.Shelf.Sort.Plain
import Derived.Ground.Names2Prog
import Derived.Shelf.Slices.Clone
import Derived.Shelf.Slices.CompactI
import Derived.Shelf.Slices.SearchI
import Derived.Shelf.Slices.Cells
import Derived.Shelf.Slices.In.SortNone
import Derived.Ground.SlbCloneProg
import Derived.Shelf.Bytes.SlClone
import Derived.Ground.SlgnProg
import Derived.Shelf.SlicesE.Clone
import Derived.Shelf.Bytes.SlEqualAll
import Derived.Shelf.Bytes.Small
import Derived.Test.YtdhamoojccmbdaaGreatDoorProg
set_option linter.unusedVariables false
set_option linter.unusedSimpArgs false
open Go.Proofs.Tryz renaming prog -> xl
open Go.Value renaming int -> vX, slice -> vY
open Go.IntKind renaming i64 -> xh, u64 -> xk
open List renaming replicate -> qh
namespace Go.Proofs
open Go.Shelf
def Tryz.Vw:Go.Shelf.Ren:=⟨fun|125=>161|128=>215|129=>216|n=>n,fun|46=>201|3=>3|51=>55|53=>293|4=>4|5=>5|9=>9|n=>n,fun|n=>n⟩
theorem Tryz.afE:Go.Proofs.Lays.n125 xl Tryz.Vw:={
 mixed:=by kernel_rfl
 f125:=Tryz.func161.trans (congrArg some (by kernel_rfl))
 f128:=Tryz.func215.trans (congrArg some (by kernel_rfl))
 f129:=Tryz.func216.trans (congrArg some (by kernel_rfl))
 t3:=Tryz.underlying3
 a3:=Tryz.isAgg3
 z3:=Tryz.sizeOf3
 v3:=Tryz.zeroValue3
 t4:=Tryz.underlying4
 a4:=Tryz.isAgg4
 z4:=Tryz.sizeOf4
 v4:=Tryz.zeroValue4
 t5:=Tryz.underlying5
 a5:=Tryz.isAgg5
 z5:=Tryz.sizeOf5
 v5:=Tryz.zeroValue5
 t9:=Tryz.underlying9
 a9:=Tryz.isAgg9
 z9:=Tryz.sizeOf9
 v9:=Tryz.zeroValue9
 t46:=Tryz.underlying201
 a46:=Tryz.isAgg201
 z46:=Tryz.sizeOf201
 v46:=Tryz.zeroValue201
 t51:=Tryz.underlying55
 a51:=Tryz.isAgg55
 z51:=Tryz.sizeOf55
 v51:=Tryz.zeroValue55
 t53:=Tryz.underlying293
 a53:=Tryz.isAgg293
 z53:=Tryz.sizeOf293
 v53:=Tryz.zeroValue293}
theorem Tryz.bits_Len(x:Int)(w:World)(b:0<=x)(c:x<=18446744073709551615):
  Calls xl 161 #[vX xk x] w fun e a=>e=.returned (vX xh (Lib.bitLen x.toNat))/\a=w:=Any.bits_Len Tryz.afE x w b c
def Tryz.Vx:Go.Shelf.Ren:=⟨fun|189=>143|125=>161|257=>191|128=>215|129=>216|294=>254|295=>255|296=>256|297=>257|298=>258|299=>259|216=>260|300=>261|301=>262|328=>312|329=>282|330=>283|331=>313|332=>314|215=>206|343=>332|n=>n,fun|28=>22|3=>3|46=>201|0=>0|51=>55|53=>293|4=>4|183=>286|182=>285|131=>148|5=>5|9=>9|218=>356|222=>360|228=>390|229=>391|n=>n,fun|n=>n⟩
theorem Tryz.Xs:Go.Proofs.Lays.n189 xl Tryz.Vx:={
 mixed:=by kernel_rfl
 f125:=Tryz.func161.trans (congrArg some (by kernel_rfl))
 f128:=Tryz.func215.trans (congrArg some (by kernel_rfl))
 f129:=Tryz.func216.trans (congrArg some (by kernel_rfl))
 f189:=Tryz.func143.trans (congrArg some (by kernel_rfl))
 f215:=Tryz.func206.trans (congrArg some (by kernel_rfl))
 f216:=Tryz.func260.trans (congrArg some (by kernel_rfl))
 f257:=Tryz.func191.trans (congrArg some (by kernel_rfl))
 f294:=Tryz.func254.trans (congrArg some (by kernel_rfl))
 f295:=Tryz.func255.trans (congrArg some (by kernel_rfl))
 f296:=Tryz.func256.trans (congrArg some (by kernel_rfl))
 f297:=Tryz.func257.trans (congrArg some (by kernel_rfl))
 f298:=Tryz.func258.trans (congrArg some (by kernel_rfl))
 f299:=Tryz.func259.trans (congrArg some (by kernel_rfl))
 f300:=Tryz.func261.trans (congrArg some (by kernel_rfl))
 f301:=Tryz.func262.trans (congrArg some (by kernel_rfl))
 f328:=Tryz.func312.trans (congrArg some (by kernel_rfl))
 f329:=Tryz.func282.trans (congrArg some (by kernel_rfl))
 f330:=Tryz.func283.trans (congrArg some (by kernel_rfl))
 f331:=Tryz.func313.trans (congrArg some (by kernel_rfl))
 f332:=Tryz.func314.trans (congrArg some (by kernel_rfl))
 f343:=Tryz.func332.trans (congrArg some (by kernel_rfl))
 t0:=Tryz.underlying0
 a0:=Tryz.isAgg0
 z0:=Tryz.sizeOf0
 v0:=Tryz.zeroValue0
 t3:=Tryz.underlying3
 a3:=Tryz.isAgg3
 z3:=Tryz.sizeOf3
 v3:=Tryz.zeroValue3
 t4:=Tryz.underlying4
 a4:=Tryz.isAgg4
 z4:=Tryz.sizeOf4
 v4:=Tryz.zeroValue4
 t5:=Tryz.underlying5
 a5:=Tryz.isAgg5
 z5:=Tryz.sizeOf5
 v5:=Tryz.zeroValue5
 t9:=Tryz.underlying9
 a9:=Tryz.isAgg9
 z9:=Tryz.sizeOf9
 v9:=Tryz.zeroValue9
 t28:=Tryz.underlying22
 a28:=Tryz.isAgg22
 z28:=Tryz.sizeOf22
 v28:=Tryz.zeroValue22
 t46:=Tryz.underlying201
 a46:=Tryz.isAgg201
 z46:=Tryz.sizeOf201
 v46:=Tryz.zeroValue201
 t51:=Tryz.underlying55
 a51:=Tryz.isAgg55
 z51:=Tryz.sizeOf55
 v51:=Tryz.zeroValue55
 t53:=Tryz.underlying293
 a53:=Tryz.isAgg293
 z53:=Tryz.sizeOf293
 v53:=Tryz.zeroValue293
 t131:=Tryz.underlying148
 a131:=Tryz.isAgg148
 z131:=Tryz.sizeOf148
 v131:=Tryz.zeroValue148
 t182:=Tryz.underlying285
 a182:=Tryz.isAgg285
 z182:=Tryz.sizeOf285
 v182:=Tryz.zeroValue285
 t183:=Tryz.underlying286
 a183:=Tryz.isAgg286
 z183:=Tryz.sizeOf286
 v183:=Tryz.zeroValue286
 t218:=Tryz.underlying356
 a218:=Tryz.isAgg356
 z218:=Tryz.sizeOf356
 v218:=Tryz.zeroValue356
 t222:=Tryz.underlying360
 a222:=Tryz.isAgg360
 z222:=Tryz.sizeOf360
 v222:=Tryz.zeroValue360
 t228:=Tryz.underlying390
 a228:=Tryz.isAgg390
 z228:=Tryz.sizeOf390
 v228:=Tryz.zeroValue390
 t229:=Tryz.underlying391
 a229:=Tryz.isAgg391
 z229:=Tryz.sizeOf391
 v229:=Tryz.zeroValue391}
open Go.Sort Go.RowKit in
theorem Tryz.slices_Sort_int(fp off cap:Nat)(a:List Int)(w:World)(f:Holds (Value.int .i64) w fp off a.toArray)(b:fp<w.heap.size)(c:a.length<4611686018427387904):
  Calls xl 143 #[vY (some ⟨fp,off,none⟩) a.length cap] w fun e d=>
   e=.returned (.tuple #[])/\∃n os,d=grow (putRow (Value.int .i64) (Sort.ahead w n) fp off (a.mergeSort fun x y=>decide (x<=y)).toArray) os:=Any.slices_Sort_int Tryz.Xs fp off cap a w f b c
def Tryz.QQ:Go.Shelf.Ren:=⟨fun|20=>144|n=>n,fun|22=>22|3=>3|4=>4|0=>0|n=>n,fun|n=>n⟩
theorem Tryz.Qa:Go.Proofs.Lays2.n20 xl Tryz.QQ:={
 mixed:=by kernel_rfl
 f20:=Tryz.func144.trans (congrArg some (by kernel_rfl))
 t0:=Tryz.underlying0
 a0:=Tryz.isAgg0
 z0:=Tryz.sizeOf0
 v0:=Tryz.zeroValue0
 t3:=Tryz.underlying3
 a3:=Tryz.isAgg3
 z3:=Tryz.sizeOf3
 v3:=Tryz.zeroValue3
 t4:=Tryz.underlying4
 a4:=Tryz.isAgg4
 z4:=Tryz.sizeOf4
 v4:=Tryz.zeroValue4
 t22:=Tryz.underlying22
 a22:=Tryz.isAgg22
 z22:=Tryz.sizeOf22
 v22:=Tryz.zeroValue22
 i3:=by kernel_rfl}
open Go.RowKit Go.Lib Go.Sort in
theorem Tryz.slices_Compact_int(fp off cap:Nat)(a:List Int)(w:World)(f:Holds (Value.int .i64) w fp off a.toArray)(c:a.length<=9223372036854775807)(b:a.length<=cap):
  Calls xl 144 #[vY (some ⟨fp,off,none⟩) a.length cap] w fun e d=>e=.returned (vY (some ⟨fp,off,none⟩) (Lib.compact a).length cap)/\∃q,d=putRow (Value.int .i64) (Sort.ahead w q) fp off (Lib.compact a++qh (a.length-(Lib.compact a).length) 0).toArray:=Any.slices_Compact_int Tryz.Qa fp off cap a w f c b
open Go.RowKit Go.Lib Go.Sort in
theorem Tryz.slices_Compact_int_empty(a:Option Addr)(cap:Nat)(w:World):
  Calls xl 144 #[vY a 0 cap] w fun e b=>e=.returned (vY a 0 cap)/\b=w:=Any.slices_Compact_int_empty Tryz.Qa a cap w
open Go.RowKit Go.Sort in
theorem Tryz.slices_Sort_int_none(p:Option Addr)(cap:Nat)(w:World):
  Calls xl 143 #[vY p 0 cap] w fun e a=>e=.returned (.tuple #[])/\a=w:=Any.slices_Sort_int_none Tryz.Xs p cap w
end Go.Proofs
