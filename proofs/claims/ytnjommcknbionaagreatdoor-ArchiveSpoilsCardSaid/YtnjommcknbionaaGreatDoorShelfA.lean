/- Lemmas for the proof of the law; no condition. -/
import Derived.Shelf.Small.Utf8
import Derived.Shelf.Small.Bits
import Derived.Shelf.Small.Wraps
import Derived.Shelf.Strconv.Itoa0
import Derived.Shelf.LaysM
import Derived.Shelf.Strconv.Clone
import Derived.Shelf.Sort.Plain
import Derived.Ground.Names2Prog
import Derived.Shelf.Slices.Clone
import Derived.Shelf.Slices.CompactI
import Derived.Shelf.Slices.SearchI
import Derived.Shelf.Slices.Cells
import Derived.Shelf.Slices.In.SortNone
import Derived.Ground.SlbCloneProg
import Derived.Shelf.Bytes.SlClone
import Derived.Ground.SlgnProg
import Derived.Shelf.SlicesE.Clone
import Derived.Shelf.Bytes.SlEqualAll
import Derived.Shelf.Bytes.Small
import Derived.Test.YtnjommcknbionaaGreatDoorProg
set_option linter.unusedVariables false
set_option linter.unusedSimpArgs false
open Go.Proofs.Tryz renaming prog -> vV
open Go.Value renaming int -> vL, slice -> vM
open Go.IntKind renaming i64 -> vR, u64 -> vU
namespace Go.Proofs
open Go.Shelf
def Tryz.KJ:Go.Shelf.Ren:=⟨fun|125=>104|128=>177|129=>178|n=>n,fun|46=>130|3=>3|51=>40|53=>226|4=>4|5=>5|9=>9|n=>n,fun|n=>n⟩
theorem Tryz.Uk:Go.Proofs.Lays.n125 vV Tryz.KJ:={
 mixed:=by kernel_rfl
 f125:=Tryz.func104.trans (congrArg some (by kernel_rfl))
 f128:=Tryz.func177.trans (congrArg some (by kernel_rfl))
 f129:=Tryz.func178.trans (congrArg some (by kernel_rfl))
 t3:=Tryz.underlying3
 a3:=Tryz.isAgg3
 z3:=Tryz.sizeOf3
 v3:=Tryz.zeroValue3
 t4:=Tryz.underlying4
 a4:=Tryz.isAgg4
 z4:=Tryz.sizeOf4
 v4:=Tryz.zeroValue4
 t5:=Tryz.underlying5
 a5:=Tryz.isAgg5
 z5:=Tryz.sizeOf5
 v5:=Tryz.zeroValue5
 t9:=Tryz.underlying9
 a9:=Tryz.isAgg9
 z9:=Tryz.sizeOf9
 v9:=Tryz.zeroValue9
 t46:=Tryz.underlying130
 a46:=Tryz.isAgg130
 z46:=Tryz.sizeOf130
 v46:=Tryz.zeroValue130
 t51:=Tryz.underlying40
 a51:=Tryz.isAgg40
 z51:=Tryz.sizeOf40
 v51:=Tryz.zeroValue40
 t53:=Tryz.underlying226
 a53:=Tryz.isAgg226
 z53:=Tryz.sizeOf226
 v53:=Tryz.zeroValue226}
theorem Tryz.bits_Len(x:Int)(w:World)(a:0<=x)(c:x<=18446744073709551615):
  Calls vV 104 #[vL vU x] w fun e b=>e=.returned (vL vR (Lib.bitLen x.toNat))/\b=w:=Any.bits_Len Tryz.Uk x w a c
def Tryz.KK:Go.Shelf.Ren:=⟨fun|189=>54|125=>104|257=>103|128=>177|129=>178|294=>168|295=>169|296=>170|297=>171|298=>172|299=>173|216=>174|300=>175|301=>176|328=>231|329=>232|330=>233|331=>234|332=>235|215=>236|343=>292|n=>n,fun|28=>22|3=>3|46=>130|0=>0|51=>40|53=>226|4=>4|183=>219|182=>218|131=>188|5=>5|9=>9|218=>292|222=>296|228=>356|229=>357|n=>n,fun|n=>n⟩
theorem Tryz.LX:Go.Proofs.Lays.n189 vV Tryz.KK:={
 mixed:=by kernel_rfl
 f125:=Tryz.func104.trans (congrArg some (by kernel_rfl))
 f128:=Tryz.func177.trans (congrArg some (by kernel_rfl))
 f129:=Tryz.func178.trans (congrArg some (by kernel_rfl))
 f189:=Tryz.func54.trans (congrArg some (by kernel_rfl))
 f215:=Tryz.func236.trans (congrArg some (by kernel_rfl))
 f216:=Tryz.func174.trans (congrArg some (by kernel_rfl))
 f257:=Tryz.func103.trans (congrArg some (by kernel_rfl))
 f294:=Tryz.func168.trans (congrArg some (by kernel_rfl))
 f295:=Tryz.func169.trans (congrArg some (by kernel_rfl))
 f296:=Tryz.func170.trans (congrArg some (by kernel_rfl))
 f297:=Tryz.func171.trans (congrArg some (by kernel_rfl))
 f298:=Tryz.func172.trans (congrArg some (by kernel_rfl))
 f299:=Tryz.func173.trans (congrArg some (by kernel_rfl))
 f300:=Tryz.func175.trans (congrArg some (by kernel_rfl))
 f301:=Tryz.func176.trans (congrArg some (by kernel_rfl))
 f328:=Tryz.func231.trans (congrArg some (by kernel_rfl))
 f329:=Tryz.func232.trans (congrArg some (by kernel_rfl))
 f330:=Tryz.func233.trans (congrArg some (by kernel_rfl))
 f331:=Tryz.func234.trans (congrArg some (by kernel_rfl))
 f332:=Tryz.func235.trans (congrArg some (by kernel_rfl))
 f343:=Tryz.func292.trans (congrArg some (by kernel_rfl))
 t0:=Tryz.underlying0
 a0:=Tryz.isAgg0
 z0:=Tryz.sizeOf0
 v0:=Tryz.zeroValue0
 t3:=Tryz.underlying3
 a3:=Tryz.isAgg3
 z3:=Tryz.sizeOf3
 v3:=Tryz.zeroValue3
 t4:=Tryz.underlying4
 a4:=Tryz.isAgg4
 z4:=Tryz.sizeOf4
 v4:=Tryz.zeroValue4
 t5:=Tryz.underlying5
 a5:=Tryz.isAgg5
 z5:=Tryz.sizeOf5
 v5:=Tryz.zeroValue5
 t9:=Tryz.underlying9
 a9:=Tryz.isAgg9
 z9:=Tryz.sizeOf9
 v9:=Tryz.zeroValue9
 t28:=Tryz.underlying22
 a28:=Tryz.isAgg22
 z28:=Tryz.sizeOf22
 v28:=Tryz.zeroValue22
 t46:=Tryz.underlying130
 a46:=Tryz.isAgg130
 z46:=Tryz.sizeOf130
 v46:=Tryz.zeroValue130
 t51:=Tryz.underlying40
 a51:=Tryz.isAgg40
 z51:=Tryz.sizeOf40
 v51:=Tryz.zeroValue40
 t53:=Tryz.underlying226
 a53:=Tryz.isAgg226
 z53:=Tryz.sizeOf226
 v53:=Tryz.zeroValue226
 t131:=Tryz.underlying188
 a131:=Tryz.isAgg188
 z131:=Tryz.sizeOf188
 v131:=Tryz.zeroValue188
 t182:=Tryz.underlying218
 a182:=Tryz.isAgg218
 z182:=Tryz.sizeOf218
 v182:=Tryz.zeroValue218
 t183:=Tryz.underlying219
 a183:=Tryz.isAgg219
 z183:=Tryz.sizeOf219
 v183:=Tryz.zeroValue219
 t218:=Tryz.underlying292
 a218:=Tryz.isAgg292
 z218:=Tryz.sizeOf292
 v218:=Tryz.zeroValue292
 t222:=Tryz.underlying296
 a222:=Tryz.isAgg296
 z222:=Tryz.sizeOf296
 v222:=Tryz.zeroValue296
 t228:=Tryz.underlying356
 a228:=Tryz.isAgg356
 z228:=Tryz.sizeOf356
 v228:=Tryz.zeroValue356
 t229:=Tryz.underlying357
 a229:=Tryz.isAgg357
 z229:=Tryz.sizeOf357
 v229:=Tryz.zeroValue357}
open Go.Sort Go.RowKit in
theorem Tryz.slices_Sort_int(eu off cap:Nat)(a:List Int)(w:World)(f:Holds (Value.int .i64) w eu off a.toArray)(b:eu<w.heap.size)(c:a.length<4611686018427387904):
  Calls vV 54 #[vM (some ⟨eu,off,none⟩) a.length cap] w fun e d=>
   e=.returned (.tuple #[])/\∃n os,d=grow (putRow (Value.int .i64) (Sort.ahead w n) eu off (a.mergeSort fun x y=>decide (x<=y)).toArray) os:=Any.slices_Sort_int Tryz.LX eu off cap a w f b c
def Tryz.Hd:Go.Shelf.Ren:=⟨fun|20=>134|n=>n,fun|22=>22|3=>3|4=>4|0=>0|n=>n,fun|n=>n⟩
theorem Tryz.Gu:Go.Proofs.Lays2.n20 vV Tryz.Hd:={
 mixed:=by kernel_rfl
 f20:=Tryz.func134.trans (congrArg some (by kernel_rfl))
 t0:=Tryz.underlying0
 a0:=Tryz.isAgg0
 z0:=Tryz.sizeOf0
 v0:=Tryz.zeroValue0
 t3:=Tryz.underlying3
 a3:=Tryz.isAgg3
 z3:=Tryz.sizeOf3
 v3:=Tryz.zeroValue3
 t4:=Tryz.underlying4
 a4:=Tryz.isAgg4
 z4:=Tryz.sizeOf4
 v4:=Tryz.zeroValue4
 t22:=Tryz.underlying22
 a22:=Tryz.isAgg22
 z22:=Tryz.sizeOf22
 v22:=Tryz.zeroValue22
 i3:=by kernel_rfl}
open Go.RowKit Go.Lib Go.Sort in
theorem Tryz.slices_Compact_int(eu off cap:Nat)(a:List Int)(w:World)(f:Holds (Value.int .i64) w eu off a.toArray)(c:a.length<=9223372036854775807)(b:a.length<=cap):
  Calls vV 134 #[vM (some ⟨eu,off,none⟩) a.length cap] w fun e d=>e=.returned (vM (some ⟨eu,off,none⟩) (Lib.compact a).length cap)/\∃q,d=putRow (Value.int .i64) (Sort.ahead w q) eu off (Lib.compact a++List.replicate (a.length-(Lib.compact a).length) 0).toArray:=Any.slices_Compact_int Tryz.Gu eu off cap a w f c b
open Go.RowKit Go.Lib Go.Sort in
theorem Tryz.slices_Compact_int_empty(a:Option Addr)(cap:Nat)(w:World):
  Calls vV 134 #[vM a 0 cap] w fun e b=>e=.returned (vM a 0 cap)/\b=w:=Any.slices_Compact_int_empty Tryz.Gu a cap w
open Go.RowKit Go.Sort in
theorem Tryz.slices_Sort_int_none(p:Option Addr)(cap:Nat)(w:World):
  Calls vV 54 #[vM p 0 cap] w fun e a=>e=.returned (.tuple #[])/\a=w:=Any.slices_Sort_int_none Tryz.LX p cap w
end Go.Proofs
