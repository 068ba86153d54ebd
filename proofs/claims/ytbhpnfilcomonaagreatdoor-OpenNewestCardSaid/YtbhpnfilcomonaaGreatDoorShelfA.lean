/- Lemmas for the proof of the law; no condition. -/
import Derived.Shelf.Small.Utf8
import Derived.Shelf.Small.Bits
import Derived.Shelf.Small.Wraps
import Derived.Shelf.Strconv.Itoa0
import Derived.Shelf.Sort.Plain
import Derived.Ground.Names2Prog
import Derived.Shelf.Slices.Clone
import Derived.Shelf.Slices.CompactI
import Derived.Shelf.Slices.SearchI
import Derived.Shelf.Slices.Cells
import Derived.Shelf.Slices.In.SortNone
import Derived.Ground.SlbCloneProg
import Derived.Shelf.Bytes.SlClone
import Derived.Ground.SlgnProg
import Derived.Shelf.SlicesE.Clone
import Derived.Shelf.Bytes.SlEqualAll
import Derived.Shelf.Bytes.Small
import Derived.Test.YtbhpnfilcomonaaGreatDoorProg
set_option linter.unusedVariables false
set_option linter.unusedSimpArgs false
open Go.Proofs.Tryz renaming prog -> xa
open Go.Value renaming int -> vQ, slice -> vR
open Go.IntKind renaming i64 -> vW, u64 -> vZ
namespace Go.Proofs
open Go.Shelf
def Tryz.Mz:Go.Shelf.Ren:=⟨fun|125=>115|128=>155|129=>156|n=>n,fun|46=>140|3=>3|51=>111|53=>211|4=>4|5=>5|9=>9|n=>n,fun|n=>n⟩
theorem Tryz.We:Go.Proofs.Lays.n125 xa Tryz.Mz:={
 mixed:=by kernel_rfl
 f125:=Tryz.func115.trans (congrArg some (by kernel_rfl))
 f128:=Tryz.func155.trans (congrArg some (by kernel_rfl))
 f129:=Tryz.func156.trans (congrArg some (by kernel_rfl))
 t3:=Tryz.underlying3
 a3:=Tryz.isAgg3
 z3:=Tryz.sizeOf3
 v3:=Tryz.zeroValue3
 t4:=Tryz.underlying4
 a4:=Tryz.isAgg4
 z4:=Tryz.sizeOf4
 v4:=Tryz.zeroValue4
 t5:=Tryz.underlying5
 a5:=Tryz.isAgg5
 z5:=Tryz.sizeOf5
 v5:=Tryz.zeroValue5
 t9:=Tryz.underlying9
 a9:=Tryz.isAgg9
 z9:=Tryz.sizeOf9
 v9:=Tryz.zeroValue9
 t46:=Tryz.underlying140
 a46:=Tryz.isAgg140
 z46:=Tryz.sizeOf140
 v46:=Tryz.zeroValue140
 t51:=Tryz.underlying111
 a51:=Tryz.isAgg111
 z51:=Tryz.sizeOf111
 v51:=Tryz.zeroValue111
 t53:=Tryz.underlying211
 a53:=Tryz.isAgg211
 z53:=Tryz.sizeOf211
 v53:=Tryz.zeroValue211}
theorem Tryz.bits_Len(x:Int)(w:World)(c:0<=x)(b:x<=18446744073709551615):
  Calls xa 115 #[vQ vZ x] w fun e a=>e=.returned (vQ vW (Lib.bitLen x.toNat))/\a=w:=Any.bits_Len Tryz.We x w c b
def Tryz.MA:Go.Shelf.Ren:=⟨fun|189=>93|125=>115|257=>124|128=>155|129=>156|294=>168|295=>169|296=>170|297=>171|298=>172|299=>173|216=>174|300=>175|301=>176|328=>215|329=>200|330=>201|331=>216|332=>217|215=>140|343=>240|n=>n,fun|28=>22|3=>3|46=>140|0=>0|51=>111|53=>211|4=>4|183=>204|182=>203|131=>107|5=>5|9=>9|218=>253|222=>257|228=>274|229=>275|n=>n,fun|n=>n⟩
theorem Tryz.NU:Go.Proofs.Lays.n189 xa Tryz.MA:={
 mixed:=by kernel_rfl
 f125:=Tryz.func115.trans (congrArg some (by kernel_rfl))
 f128:=Tryz.func155.trans (congrArg some (by kernel_rfl))
 f129:=Tryz.func156.trans (congrArg some (by kernel_rfl))
 f189:=Tryz.func93.trans (congrArg some (by kernel_rfl))
 f215:=Tryz.func140.trans (congrArg some (by kernel_rfl))
 f216:=Tryz.func174.trans (congrArg some (by kernel_rfl))
 f257:=Tryz.func124.trans (congrArg some (by kernel_rfl))
 f294:=Tryz.func168.trans (congrArg some (by kernel_rfl))
 f295:=Tryz.func169.trans (congrArg some (by kernel_rfl))
 f296:=Tryz.func170.trans (congrArg some (by kernel_rfl))
 f297:=Tryz.func171.trans (congrArg some (by kernel_rfl))
 f298:=Tryz.func172.trans (congrArg some (by kernel_rfl))
 f299:=Tryz.func173.trans (congrArg some (by kernel_rfl))
 f300:=Tryz.func175.trans (congrArg some (by kernel_rfl))
 f301:=Tryz.func176.trans (congrArg some (by kernel_rfl))
 f328:=Tryz.func215.trans (congrArg some (by kernel_rfl))
 f329:=Tryz.func200.trans (congrArg some (by kernel_rfl))
 f330:=Tryz.func201.trans (congrArg some (by kernel_rfl))
 f331:=Tryz.func216.trans (congrArg some (by kernel_rfl))
 f332:=Tryz.func217.trans (congrArg some (by kernel_rfl))
 f343:=Tryz.func240.trans (congrArg some (by kernel_rfl))
 t0:=Tryz.underlying0
 a0:=Tryz.isAgg0
 z0:=Tryz.sizeOf0
 v0:=Tryz.zeroValue0
 t3:=Tryz.underlying3
 a3:=Tryz.isAgg3
 z3:=Tryz.sizeOf3
 v3:=Tryz.zeroValue3
 t4:=Tryz.underlying4
 a4:=Tryz.isAgg4
 z4:=Tryz.sizeOf4
 v4:=Tryz.zeroValue4
 t5:=Tryz.underlying5
 a5:=Tryz.isAgg5
 z5:=Tryz.sizeOf5
 v5:=Tryz.zeroValue5
 t9:=Tryz.underlying9
 a9:=Tryz.isAgg9
 z9:=Tryz.sizeOf9
 v9:=Tryz.zeroValue9
 t28:=Tryz.underlying22
 a28:=Tryz.isAgg22
 z28:=Tryz.sizeOf22
 v28:=Tryz.zeroValue22
 t46:=Tryz.underlying140
 a46:=Tryz.isAgg140
 z46:=Tryz.sizeOf140
 v46:=Tryz.zeroValue140
 t51:=Tryz.underlying111
 a51:=Tryz.isAgg111
 z51:=Tryz.sizeOf111
 v51:=Tryz.zeroValue111
 t53:=Tryz.underlying211
 a53:=Tryz.isAgg211
 z53:=Tryz.sizeOf211
 v53:=Tryz.zeroValue211
 t131:=Tryz.underlying107
 a131:=Tryz.isAgg107
 z131:=Tryz.sizeOf107
 v131:=Tryz.zeroValue107
 t182:=Tryz.underlying203
 a182:=Tryz.isAgg203
 z182:=Tryz.sizeOf203
 v182:=Tryz.zeroValue203
 t183:=Tryz.underlying204
 a183:=Tryz.isAgg204
 z183:=Tryz.sizeOf204
 v183:=Tryz.zeroValue204
 t218:=Tryz.underlying253
 a218:=Tryz.isAgg253
 z218:=Tryz.sizeOf253
 v218:=Tryz.zeroValue253
 t222:=Tryz.underlying257
 a222:=Tryz.isAgg257
 z222:=Tryz.sizeOf257
 v222:=Tryz.zeroValue257
 t228:=Tryz.underlying274
 a228:=Tryz.isAgg274
 z228:=Tryz.sizeOf274
 v228:=Tryz.zeroValue274
 t229:=Tryz.underlying275
 a229:=Tryz.isAgg275
 z229:=Tryz.sizeOf275
 v229:=Tryz.zeroValue275}
open Go.Sort Go.RowKit in
theorem Tryz.slices_Sort_int(a off cap:Nat)(b:List Int)(w:World)(g:Holds (Value.int .i64) w a off b.toArray)(c:a<w.heap.size)(d:b.length<4611686018427387904):
  Calls xa 93 #[vR (some ⟨a,off,none⟩) b.length cap] w fun e f=>
   e=.returned (.tuple #[])/\∃n os,f=grow (putRow (Value.int .i64) (Sort.ahead w n) a off (b.mergeSort fun x y=>decide (x<=y)).toArray) os:=Any.slices_Sort_int Tryz.NU a off cap b w g c d
def Tryz.IF:Go.Shelf.Ren:=⟨fun|20=>94|n=>n,fun|22=>22|3=>3|4=>4|0=>0|n=>n,fun|n=>n⟩
theorem Tryz.HN:Go.Proofs.Lays2.n20 xa Tryz.IF:={
 mixed:=by kernel_rfl
 f20:=Tryz.func94.trans (congrArg some (by kernel_rfl))
 t0:=Tryz.underlying0
 a0:=Tryz.isAgg0
 z0:=Tryz.sizeOf0
 v0:=Tryz.zeroValue0
 t3:=Tryz.underlying3
 a3:=Tryz.isAgg3
 z3:=Tryz.sizeOf3
 v3:=Tryz.zeroValue3
 t4:=Tryz.underlying4
 a4:=Tryz.isAgg4
 z4:=Tryz.sizeOf4
 v4:=Tryz.zeroValue4
 t22:=Tryz.underlying22
 a22:=Tryz.isAgg22
 z22:=Tryz.sizeOf22
 v22:=Tryz.zeroValue22
 i3:=by kernel_rfl}
open Go.RowKit Go.Lib Go.Sort in
theorem Tryz.slices_Compact_int(a off cap:Nat)(b:List Int)(w:World)(g:Holds (Value.int .i64) w a off b.toArray)(d:b.length<=9223372036854775807)(c:b.length<=cap):
  Calls xa 94 #[vR (some ⟨a,off,none⟩) b.length cap] w fun e f=>e=.returned (vR (some ⟨a,off,none⟩) (Lib.compact b).length cap)/\∃q,f=putRow (Value.int .i64) (Sort.ahead w q) a off (Lib.compact b++List.replicate (b.length-(Lib.compact b).length) 0).toArray:=Any.slices_Compact_int Tryz.HN a off cap b w g d c
open Go.RowKit Go.Lib Go.Sort in
theorem Tryz.slices_Compact_int_empty(a:Option Addr)(cap:Nat)(w:World):
  Calls xa 94 #[vR a 0 cap] w fun e b=>e=.returned (vR a 0 cap)/\b=w:=Any.slices_Compact_int_empty Tryz.HN a cap w
open Go.RowKit Go.Sort in
theorem Tryz.slices_Sort_int_none(p:Option Addr)(cap:Nat)(w:World):
  Calls xa 93 #[vR p 0 cap] w fun e a=>e=.returned (.tuple #[])/\a=w:=Any.slices_Sort_int_none Tryz.NU p cap w
end Go.Proofs
