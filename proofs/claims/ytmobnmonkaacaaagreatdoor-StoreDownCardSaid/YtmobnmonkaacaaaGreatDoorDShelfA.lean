/- Lemmas for the proof of the law; no condition. -/
import Derived.Shelf.Small.Utf8
import Derived.Shelf.Small.Bits
import Derived.Shelf.Small.Wraps
import Derived.Shelf.Strconv.Itoa0
import Derived.Shelf.LaysM
import Derived.Shelf.Strconv.Clone
import Derived.Shelf.Sort.Plain
import Derived.Ground.Names2Prog
import Derived.Shelf.Slices.Clone
import Derived.Shelf.Slices.CompactI
import Derived.Shelf.Slices.SearchI
import Derived.Shelf.Slices.Cells
import Derived.Shelf.Slices.In.SortNone
import Derived.Shelf.Bytes.SlSearch0
import Derived.Ground.SlbCloneProg
import Derived.Shelf.Bytes.SlClone
import Derived.Shelf.Bytes.Small
import Derived.Test.YtmobnmonkaacaaaGreatDoorProg
set_option linter.unusedVariables false
set_option linter.unusedSimpArgs false
open Go.Proofs.Tryz renaming prog -> xT
open Go.Value renaming int -> xJ, slice -> xK
open Go.IntKind renaming i64 -> xP, u64 -> xS
namespace Go.Proofs
open Go.Shelf
def Tryz.OH:Go.Shelf.Ren:=⟨λ|125=>255|128=>327|129=>328|n=>n,λ|46=>220|3=>3|51=>42|53=>304|4=>4|5=>5|9=>9|n=>n,λ|n=>n⟩
theorem Tryz.aaO:Go.Proofs.Lays.n125 xT Tryz.OH:={
 mixed:=by kernel_rfl
 f125:=Tryz.func255.trans (congrArg some (by kernel_rfl))
 f128:=Tryz.func327.trans (congrArg some (by kernel_rfl))
 f129:=Tryz.func328.trans (congrArg some (by kernel_rfl))
 t3:=Tryz.underlying3
 a3:=Tryz.isAgg3
 z3:=Tryz.sizeOf3
 v3:=Tryz.zeroValue3
 t4:=Tryz.underlying4
 a4:=Tryz.isAgg4
 z4:=Tryz.sizeOf4
 v4:=Tryz.zeroValue4
 t5:=Tryz.underlying5
 a5:=Tryz.isAgg5
 z5:=Tryz.sizeOf5
 v5:=Tryz.zeroValue5
 t9:=Tryz.underlying9
 a9:=Tryz.isAgg9
 z9:=Tryz.sizeOf9
 v9:=Tryz.zeroValue9
 t46:=Tryz.underlying220
 a46:=Tryz.isAgg220
 z46:=Tryz.sizeOf220
 v46:=Tryz.zeroValue220
 t51:=Tryz.underlying42
 a51:=Tryz.isAgg42
 z51:=Tryz.sizeOf42
 v51:=Tryz.zeroValue42
 t53:=Tryz.underlying304
 a53:=Tryz.isAgg304
 z53:=Tryz.sizeOf304
 v53:=Tryz.zeroValue304}
theorem Tryz.bits_Len(x:Int)(w:World)(a:0<=x)(c:x<=18446744073709551615):
  Calls xT 255 #[xJ xS x] w λe b=>e=.returned (xJ xP (Lib.bitLen x.toNat))/\b=w:=Any.bits_Len Tryz.aaO x w a c
def Tryz.OI:Go.Shelf.Ren:=⟨λ|189=>258|125=>255|257=>329|128=>327|129=>328|294=>371|295=>372|296=>373|297=>374|298=>375|299=>376|216=>377|300=>378|301=>379|328=>390|329=>367|330=>368|331=>391|332=>392|215=>313|343=>394|n=>n,λ|28=>22|3=>3|46=>220|0=>0|51=>42|53=>304|4=>4|183=>352|182=>351|131=>210|5=>5|9=>9|218=>383|222=>387|228=>400|229=>401|n=>n,λ|n=>n⟩
theorem Tryz.QE:Go.Proofs.Lays.n189 xT Tryz.OI:={
 mixed:=by kernel_rfl
 f125:=Tryz.func255.trans (congrArg some (by kernel_rfl))
 f128:=Tryz.func327.trans (congrArg some (by kernel_rfl))
 f129:=Tryz.func328.trans (congrArg some (by kernel_rfl))
 f189:=Tryz.func258.trans (congrArg some (by kernel_rfl))
 f215:=Tryz.func313.trans (congrArg some (by kernel_rfl))
 f216:=Tryz.func377.trans (congrArg some (by kernel_rfl))
 f257:=Tryz.func329.trans (congrArg some (by kernel_rfl))
 f294:=Tryz.func371.trans (congrArg some (by kernel_rfl))
 f295:=Tryz.func372.trans (congrArg some (by kernel_rfl))
 f296:=Tryz.func373.trans (congrArg some (by kernel_rfl))
 f297:=Tryz.func374.trans (congrArg some (by kernel_rfl))
 f298:=Tryz.func375.trans (congrArg some (by kernel_rfl))
 f299:=Tryz.func376.trans (congrArg some (by kernel_rfl))
 f300:=Tryz.func378.trans (congrArg some (by kernel_rfl))
 f301:=Tryz.func379.trans (congrArg some (by kernel_rfl))
 f328:=Tryz.func390.trans (congrArg some (by kernel_rfl))
 f329:=Tryz.func367.trans (congrArg some (by kernel_rfl))
 f330:=Tryz.func368.trans (congrArg some (by kernel_rfl))
 f331:=Tryz.func391.trans (congrArg some (by kernel_rfl))
 f332:=Tryz.func392.trans (congrArg some (by kernel_rfl))
 f343:=Tryz.func394.trans (congrArg some (by kernel_rfl))
 t0:=Tryz.underlying0
 a0:=Tryz.isAgg0
 z0:=Tryz.sizeOf0
 v0:=Tryz.zeroValue0
 t3:=Tryz.underlying3
 a3:=Tryz.isAgg3
 z3:=Tryz.sizeOf3
 v3:=Tryz.zeroValue3
 t4:=Tryz.underlying4
 a4:=Tryz.isAgg4
 z4:=Tryz.sizeOf4
 v4:=Tryz.zeroValue4
 t5:=Tryz.underlying5
 a5:=Tryz.isAgg5
 z5:=Tryz.sizeOf5
 v5:=Tryz.zeroValue5
 t9:=Tryz.underlying9
 a9:=Tryz.isAgg9
 z9:=Tryz.sizeOf9
 v9:=Tryz.zeroValue9
 t28:=Tryz.underlying22
 a28:=Tryz.isAgg22
 z28:=Tryz.sizeOf22
 v28:=Tryz.zeroValue22
 t46:=Tryz.underlying220
 a46:=Tryz.isAgg220
 z46:=Tryz.sizeOf220
 v46:=Tryz.zeroValue220
 t51:=Tryz.underlying42
 a51:=Tryz.isAgg42
 z51:=Tryz.sizeOf42
 v51:=Tryz.zeroValue42
 t53:=Tryz.underlying304
 a53:=Tryz.isAgg304
 z53:=Tryz.sizeOf304
 v53:=Tryz.zeroValue304
 t131:=Tryz.underlying210
 a131:=Tryz.isAgg210
 z131:=Tryz.sizeOf210
 v131:=Tryz.zeroValue210
 t182:=Tryz.underlying351
 a182:=Tryz.isAgg351
 z182:=Tryz.sizeOf351
 v182:=Tryz.zeroValue351
 t183:=Tryz.underlying352
 a183:=Tryz.isAgg352
 z183:=Tryz.sizeOf352
 v183:=Tryz.zeroValue352
 t218:=Tryz.underlying383
 a218:=Tryz.isAgg383
 z218:=Tryz.sizeOf383
 v218:=Tryz.zeroValue383
 t222:=Tryz.underlying387
 a222:=Tryz.isAgg387
 z222:=Tryz.sizeOf387
 v222:=Tryz.zeroValue387
 t228:=Tryz.underlying400
 a228:=Tryz.isAgg400
 z228:=Tryz.sizeOf400
 v228:=Tryz.zeroValue400
 t229:=Tryz.underlying401
 a229:=Tryz.isAgg401
 z229:=Tryz.sizeOf401
 v229:=Tryz.zeroValue401}
open Go.Sort Go.RowKit in
theorem Tryz.slices_Sort_int(a off cap:Nat)(c:List Int)(w:World)(f:Holds (Value.int .i64) w a off c.toArray)(b:a<w.heap.size)(d:c.length<4611686018427387904):
  Calls xT 258 #[xK (some ⟨a,off,none⟩) c.length cap] w λe g=>
   e=.returned (.tuple #[])/\∃n os,g=grow (putRow (Value.int .i64) (Sort.ahead w n) a off (c.mergeSort λx y=>decide (x<=y)).toArray) os:=Any.slices_Sort_int Tryz.QE a off cap c w f b d
def Tryz.KD:Go.Shelf.Ren:=⟨λ|20=>259|n=>n,λ|22=>22|3=>3|4=>4|0=>0|n=>n,λ|n=>n⟩
theorem Tryz.JO:Go.Proofs.Lays2.n20 xT Tryz.KD:={
 mixed:=by kernel_rfl
 f20:=Tryz.func259.trans (congrArg some (by kernel_rfl))
 t0:=Tryz.underlying0
 a0:=Tryz.isAgg0
 z0:=Tryz.sizeOf0
 v0:=Tryz.zeroValue0
 t3:=Tryz.underlying3
 a3:=Tryz.isAgg3
 z3:=Tryz.sizeOf3
 v3:=Tryz.zeroValue3
 t4:=Tryz.underlying4
 a4:=Tryz.isAgg4
 z4:=Tryz.sizeOf4
 v4:=Tryz.zeroValue4
 t22:=Tryz.underlying22
 a22:=Tryz.isAgg22
 z22:=Tryz.sizeOf22
 v22:=Tryz.zeroValue22
 i3:=by kernel_rfl}
open Go.RowKit Go.Lib Go.Sort in
theorem Tryz.slices_Compact_int(a off cap:Nat)(b:List Int)(w:World)(f:Holds (Value.int .i64) w a off b.toArray)(d:b.length<=9223372036854775807)(c:b.length<=cap):
  Calls xT 259 #[xK (some ⟨a,off,none⟩) b.length cap] w λe g=>e=.returned (xK (some ⟨a,off,none⟩) (Lib.compact b).length cap)/\∃q,g=putRow (Value.int .i64) (Sort.ahead w q) a off (Lib.compact b++List.replicate (b.length-(Lib.compact b).length) 0).toArray:=Any.slices_Compact_int Tryz.JO a off cap b w f d c
open Go.RowKit Go.Lib Go.Sort in
theorem Tryz.slices_Compact_int_empty(a:Option Addr)(cap:Nat)(w:World):
  Calls xT 259 #[xK a 0 cap] w λe b=>e=.returned (xK a 0 cap)/\b=w:=Any.slices_Compact_int_empty Tryz.JO a cap w
open Go.RowKit Go.Sort in
theorem Tryz.slices_Sort_int_none(p:Option Addr)(cap:Nat)(w:World):
  Calls xT 258 #[xK p 0 cap] w λe a=>e=.returned (.tuple #[])/\a=w:=Any.slices_Sort_int_none Tryz.QE p cap w
end Go.Proofs
