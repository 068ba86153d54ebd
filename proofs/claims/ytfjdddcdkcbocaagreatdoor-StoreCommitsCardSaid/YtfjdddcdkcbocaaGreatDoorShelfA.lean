/- Lemmas for the proof of the law; no condition. -/
import Derived.Shelf.Small.Utf8
import Derived.Shelf.Small.Bits
import Derived.Shelf.Small.Wraps
import Derived.Shelf.Strconv.Itoa0
import Derived.Shelf.Sort.Plain
import Derived.Ground.Names2Prog
import Derived.Shelf.Slices.Clone
import Derived.Shelf.Slices.CompactI
import Derived.Shelf.Slices.SearchI
import Derived.Shelf.Slices.Cells
import Derived.Shelf.Slices.In.SortNone
import Derived.Shelf.Bytes.SlSearch0
import Derived.Ground.SlbCloneProg
import Derived.Shelf.Bytes.SlClone
import Derived.Shelf.Bytes.Small
import Derived.Test.YtfjdddcdkcbocaaGreatDoorProg
set_option linter.unusedVariables false
set_option linter.unusedSimpArgs false
open Go.Proofs.Tryz renaming prog -> xZ
open Go.Value renaming int -> xP, slice -> xQ
open Go.IntKind renaming i64 -> xV, u64 -> xY
namespace Go.Proofs
open Go.Shelf
def Tryz.Oo:Go.Shelf.Ren:=⟨λ|125=>222|128=>292|129=>293|n=>n,λ|46=>227|3=>3|51=>42|53=>267|4=>4|5=>5|9=>9|n=>n,λ|n=>n⟩
theorem Tryz.aal:Go.Proofs.Lays.n125 xZ Tryz.Oo:={
 mixed:=by kernel_rfl
 f125:=Tryz.func222.trans (congrArg some (by kernel_rfl))
 f128:=Tryz.func292.trans (congrArg some (by kernel_rfl))
 f129:=Tryz.func293.trans (congrArg some (by kernel_rfl))
 t3:=Tryz.underlying3
 a3:=Tryz.isAgg3
 z3:=Tryz.sizeOf3
 v3:=Tryz.zeroValue3
 t4:=Tryz.underlying4
 a4:=Tryz.isAgg4
 z4:=Tryz.sizeOf4
 v4:=Tryz.zeroValue4
 t5:=Tryz.underlying5
 a5:=Tryz.isAgg5
 z5:=Tryz.sizeOf5
 v5:=Tryz.zeroValue5
 t9:=Tryz.underlying9
 a9:=Tryz.isAgg9
 z9:=Tryz.sizeOf9
 v9:=Tryz.zeroValue9
 t46:=Tryz.underlying227
 a46:=Tryz.isAgg227
 z46:=Tryz.sizeOf227
 v46:=Tryz.zeroValue227
 t51:=Tryz.underlying42
 a51:=Tryz.isAgg42
 z51:=Tryz.sizeOf42
 v51:=Tryz.zeroValue42
 t53:=Tryz.underlying267
 a53:=Tryz.isAgg267
 z53:=Tryz.sizeOf267
 v53:=Tryz.zeroValue267}
theorem Tryz.bits_Len(x:Int)(w:World)(c:0<=x)(a:x<=18446744073709551615):
  Calls xZ 222 #[xP xY x] w λe b=>e=.returned (xP xV (Lib.bitLen x.toNat))/\b=w:=Any.bits_Len Tryz.aal x w c a
def Tryz.Oq:Go.Shelf.Ren:=⟨λ|189=>204|125=>222|257=>268|128=>292|129=>293|294=>325|295=>326|296=>327|297=>328|298=>329|299=>330|216=>331|300=>332|301=>333|328=>371|329=>353|330=>354|331=>372|332=>373|215=>283|343=>384|n=>n,λ|28=>22|3=>3|46=>227|0=>0|51=>42|53=>267|4=>4|183=>318|182=>317|131=>182|5=>5|9=>9|218=>370|222=>374|228=>393|229=>394|n=>n,λ|n=>n⟩
theorem Tryz.Qj:Go.Proofs.Lays.n189 xZ Tryz.Oq:={
 mixed:=by kernel_rfl
 f125:=Tryz.func222.trans (congrArg some (by kernel_rfl))
 f128:=Tryz.func292.trans (congrArg some (by kernel_rfl))
 f129:=Tryz.func293.trans (congrArg some (by kernel_rfl))
 f189:=Tryz.func204.trans (congrArg some (by kernel_rfl))
 f215:=Tryz.func283.trans (congrArg some (by kernel_rfl))
 f216:=Tryz.func331.trans (congrArg some (by kernel_rfl))
 f257:=Tryz.func268.trans (congrArg some (by kernel_rfl))
 f294:=Tryz.func325.trans (congrArg some (by kernel_rfl))
 f295:=Tryz.func326.trans (congrArg some (by kernel_rfl))
 f296:=Tryz.func327.trans (congrArg some (by kernel_rfl))
 f297:=Tryz.func328.trans (congrArg some (by kernel_rfl))
 f298:=Tryz.func329.trans (congrArg some (by kernel_rfl))
 f299:=Tryz.func330.trans (congrArg some (by kernel_rfl))
 f300:=Tryz.func332.trans (congrArg some (by kernel_rfl))
 f301:=Tryz.func333.trans (congrArg some (by kernel_rfl))
 f328:=Tryz.func371.trans (congrArg some (by kernel_rfl))
 f329:=Tryz.func353.trans (congrArg some (by kernel_rfl))
 f330:=Tryz.func354.trans (congrArg some (by kernel_rfl))
 f331:=Tryz.func372.trans (congrArg some (by kernel_rfl))
 f332:=Tryz.func373.trans (congrArg some (by kernel_rfl))
 f343:=Tryz.func384.trans (congrArg some (by kernel_rfl))
 t0:=Tryz.underlying0
 a0:=Tryz.isAgg0
 z0:=Tryz.sizeOf0
 v0:=Tryz.zeroValue0
 t3:=Tryz.underlying3
 a3:=Tryz.isAgg3
 z3:=Tryz.sizeOf3
 v3:=Tryz.zeroValue3
 t4:=Tryz.underlying4
 a4:=Tryz.isAgg4
 z4:=Tryz.sizeOf4
 v4:=Tryz.zeroValue4
 t5:=Tryz.underlying5
 a5:=Tryz.isAgg5
 z5:=Tryz.sizeOf5
 v5:=Tryz.zeroValue5
 t9:=Tryz.underlying9
 a9:=Tryz.isAgg9
 z9:=Tryz.sizeOf9
 v9:=Tryz.zeroValue9
 t28:=Tryz.underlying22
 a28:=Tryz.isAgg22
 z28:=Tryz.sizeOf22
 v28:=Tryz.zeroValue22
 t46:=Tryz.underlying227
 a46:=Tryz.isAgg227
 z46:=Tryz.sizeOf227
 v46:=Tryz.zeroValue227
 t51:=Tryz.underlying42
 a51:=Tryz.isAgg42
 z51:=Tryz.sizeOf42
 v51:=Tryz.zeroValue42
 t53:=Tryz.underlying267
 a53:=Tryz.isAgg267
 z53:=Tryz.sizeOf267
 v53:=Tryz.zeroValue267
 t131:=Tryz.underlying182
 a131:=Tryz.isAgg182
 z131:=Tryz.sizeOf182
 v131:=Tryz.zeroValue182
 t182:=Tryz.underlying317
 a182:=Tryz.isAgg317
 z182:=Tryz.sizeOf317
 v182:=Tryz.zeroValue317
 t183:=Tryz.underlying318
 a183:=Tryz.isAgg318
 z183:=Tryz.sizeOf318
 v183:=Tryz.zeroValue318
 t218:=Tryz.underlying370
 a218:=Tryz.isAgg370
 z218:=Tryz.sizeOf370
 v218:=Tryz.zeroValue370
 t222:=Tryz.underlying374
 a222:=Tryz.isAgg374
 z222:=Tryz.sizeOf374
 v222:=Tryz.zeroValue374
 t228:=Tryz.underlying393
 a228:=Tryz.isAgg393
 z228:=Tryz.sizeOf393
 v228:=Tryz.zeroValue393
 t229:=Tryz.underlying394
 a229:=Tryz.isAgg394
 z229:=Tryz.sizeOf394
 v229:=Tryz.zeroValue394}
open Go.Sort Go.RowKit in
theorem Tryz.slices_Sort_int(a off cap:Nat)(c:List Int)(w:World)(f:Holds (Value.int .i64) w a off c.toArray)(b:a<w.heap.size)(d:c.length<4611686018427387904):
  Calls xZ 204 #[xQ (some ⟨a,off,none⟩) c.length cap] w λe g=>
   e=.returned (.tuple #[])/\∃n os,g=grow (putRow (Value.int .i64) (Sort.ahead w n) a off (c.mergeSort λx y=>decide (x<=y)).toArray) os:=Any.slices_Sort_int Tryz.Qj a off cap c w f b d
def Tryz.Kx:Go.Shelf.Ren:=⟨λ|20=>205|n=>n,λ|22=>22|3=>3|4=>4|0=>0|n=>n,λ|n=>n⟩
theorem Tryz.JH:Go.Proofs.Lays2.n20 xZ Tryz.Kx:={
 mixed:=by kernel_rfl
 f20:=Tryz.func205.trans (congrArg some (by kernel_rfl))
 t0:=Tryz.underlying0
 a0:=Tryz.isAgg0
 z0:=Tryz.sizeOf0
 v0:=Tryz.zeroValue0
 t3:=Tryz.underlying3
 a3:=Tryz.isAgg3
 z3:=Tryz.sizeOf3
 v3:=Tryz.zeroValue3
 t4:=Tryz.underlying4
 a4:=Tryz.isAgg4
 z4:=Tryz.sizeOf4
 v4:=Tryz.zeroValue4
 t22:=Tryz.underlying22
 a22:=Tryz.isAgg22
 z22:=Tryz.sizeOf22
 v22:=Tryz.zeroValue22
 i3:=by kernel_rfl}
open Go.RowKit Go.Lib Go.Sort in
theorem Tryz.slices_Compact_int(a off cap:Nat)(b:List Int)(w:World)(f:Holds (Value.int .i64) w a off b.toArray)(d:b.length<=9223372036854775807)(c:b.length<=cap):
  Calls xZ 205 #[xQ (some ⟨a,off,none⟩) b.length cap] w λe g=>e=.returned (xQ (some ⟨a,off,none⟩) (Lib.compact b).length cap)/\∃q,g=putRow (Value.int .i64) (Sort.ahead w q) a off (Lib.compact b++List.replicate (b.length-(Lib.compact b).length) 0).toArray:=Any.slices_Compact_int Tryz.JH a off cap b w f d c
open Go.RowKit Go.Lib Go.Sort in
theorem Tryz.slices_Compact_int_empty(a:Option Addr)(cap:Nat)(w:World):
  Calls xZ 205 #[xQ a 0 cap] w λe b=>e=.returned (xQ a 0 cap)/\b=w:=Any.slices_Compact_int_empty Tryz.JH a cap w
open Go.RowKit Go.Sort in
theorem Tryz.slices_Sort_int_none(p:Option Addr)(cap:Nat)(w:World):
  Calls xZ 204 #[xQ p 0 cap] w λe a=>e=.returned (.tuple #[])/\a=w:=Any.slices_Sort_int_none Tryz.Qj p cap w
end Go.Proofs
