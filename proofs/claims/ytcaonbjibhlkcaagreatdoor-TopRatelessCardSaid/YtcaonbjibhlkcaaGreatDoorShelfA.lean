/- Lemmas for the proof of the law; no condition. -/
import Derived.Shelf.Small.Utf8
import Derived.Shelf.Small.Bits
import Derived.Shelf.Small.Wraps
import Derived.Shelf.Strconv.Itoa0
import Derived.Shelf.LaysM
import Derived.Shelf.Strconv.Clone
import Derived.Shelf.Sort.Plain
import Derived.Shelf.Slices.Turned
import Derived.Ground.Names2Prog
import Derived.Shelf.Slices.Clone
import Derived.Shelf.Slices.CompactI
import Derived.Shelf.Slices.SearchI
import Derived.Shelf.Slices.Cells
import Derived.Shelf.Slices.In.SortNone
import Derived.Ground.SlbCloneProg
import Derived.Shelf.Bytes.SlClone
import Derived.Ground.SlgnProg
import Derived.Shelf.SlicesE.Clone
import Derived.Shelf.Bytes.SlEqualAll
import Derived.Shelf.Bytes.Small
import Derived.Test.YtcaonbjibhlkcaaGreatDoorProg
set_option linter.unusedVariables false
set_option linter.unusedSimpArgs false
open Go.Proofs.Tryz renaming prog -> xv
open Go.Value renaming int -> xk, slice -> xl
open Go.IntKind renaming i64 -> xq, u64 -> xu
namespace Go.Proofs
open Go.Shelf
def Tryz.SQ:Go.Shelf.Ren:=⟨fun|125=>168|128=>253|129=>254|n=>n,fun|46=>22|3=>3|51=>27|53=>198|4=>4|5=>5|9=>9|n=>n,fun|n=>n⟩
theorem Tryz.adq:Go.Proofs.Lays.n125 xv Tryz.SQ:={
 mixed:=by kernel_rfl
 f125:=Tryz.func168.trans (congrArg some (by kernel_rfl))
 f128:=Tryz.func253.trans (congrArg some (by kernel_rfl))
 f129:=Tryz.func254.trans (congrArg some (by kernel_rfl))
 t3:=Tryz.underlying3
 a3:=Tryz.isAgg3
 z3:=Tryz.sizeOf3
 v3:=Tryz.zeroValue3
 t4:=Tryz.underlying4
 a4:=Tryz.isAgg4
 z4:=Tryz.sizeOf4
 v4:=Tryz.zeroValue4
 t5:=Tryz.underlying5
 a5:=Tryz.isAgg5
 z5:=Tryz.sizeOf5
 v5:=Tryz.zeroValue5
 t9:=Tryz.underlying9
 a9:=Tryz.isAgg9
 z9:=Tryz.sizeOf9
 v9:=Tryz.zeroValue9
 t46:=Tryz.underlying22
 a46:=Tryz.isAgg22
 z46:=Tryz.sizeOf22
 v46:=Tryz.zeroValue22
 t51:=Tryz.underlying27
 a51:=Tryz.isAgg27
 z51:=Tryz.sizeOf27
 v51:=Tryz.zeroValue27
 t53:=Tryz.underlying198
 a53:=Tryz.isAgg198
 z53:=Tryz.sizeOf198
 v53:=Tryz.zeroValue198}
theorem Tryz.bits_Len(x:Int)(w:World)(b:0<=x)(c:x<=18446744073709551615):
  Calls xv 168 #[xk xu x] w fun e a=>e=.returned (xk xq (Lib.bitLen x.toNat))/\a=w:=Any.bits_Len Tryz.adq x w b c
def Tryz.SS:Go.Shelf.Ren:=⟨fun|189=>98|125=>168|257=>167|128=>253|129=>254|294=>244|295=>245|296=>246|297=>247|298=>248|299=>249|216=>250|300=>251|301=>252|328=>299|329=>300|330=>301|331=>302|332=>303|215=>304|343=>333|n=>n,fun|28=>38|3=>3|46=>22|0=>0|51=>27|53=>198|4=>4|183=>307|182=>306|131=>286|5=>5|9=>9|218=>357|222=>361|228=>388|229=>389|n=>n,fun|n=>n⟩
theorem Tryz.Uu:Go.Proofs.Lays.n189 xv Tryz.SS:={
 mixed:=by kernel_rfl
 f125:=Tryz.func168.trans (congrArg some (by kernel_rfl))
 f128:=Tryz.func253.trans (congrArg some (by kernel_rfl))
 f129:=Tryz.func254.trans (congrArg some (by kernel_rfl))
 f189:=Tryz.func98.trans (congrArg some (by kernel_rfl))
 f215:=Tryz.func304.trans (congrArg some (by kernel_rfl))
 f216:=Tryz.func250.trans (congrArg some (by kernel_rfl))
 f257:=Tryz.func167.trans (congrArg some (by kernel_rfl))
 f294:=Tryz.func244.trans (congrArg some (by kernel_rfl))
 f295:=Tryz.func245.trans (congrArg some (by kernel_rfl))
 f296:=Tryz.func246.trans (congrArg some (by kernel_rfl))
 f297:=Tryz.func247.trans (congrArg some (by kernel_rfl))
 f298:=Tryz.func248.trans (congrArg some (by kernel_rfl))
 f299:=Tryz.func249.trans (congrArg some (by kernel_rfl))
 f300:=Tryz.func251.trans (congrArg some (by kernel_rfl))
 f301:=Tryz.func252.trans (congrArg some (by kernel_rfl))
 f328:=Tryz.func299.trans (congrArg some (by kernel_rfl))
 f329:=Tryz.func300.trans (congrArg some (by kernel_rfl))
 f330:=Tryz.func301.trans (congrArg some (by kernel_rfl))
 f331:=Tryz.func302.trans (congrArg some (by kernel_rfl))
 f332:=Tryz.func303.trans (congrArg some (by kernel_rfl))
 f343:=Tryz.func333.trans (congrArg some (by kernel_rfl))
 t0:=Tryz.underlying0
 a0:=Tryz.isAgg0
 z0:=Tryz.sizeOf0
 v0:=Tryz.zeroValue0
 t3:=Tryz.underlying3
 a3:=Tryz.isAgg3
 z3:=Tryz.sizeOf3
 v3:=Tryz.zeroValue3
 t4:=Tryz.underlying4
 a4:=Tryz.isAgg4
 z4:=Tryz.sizeOf4
 v4:=Tryz.zeroValue4
 t5:=Tryz.underlying5
 a5:=Tryz.isAgg5
 z5:=Tryz.sizeOf5
 v5:=Tryz.zeroValue5
 t9:=Tryz.underlying9
 a9:=Tryz.isAgg9
 z9:=Tryz.sizeOf9
 v9:=Tryz.zeroValue9
 t28:=Tryz.underlying38
 a28:=Tryz.isAgg38
 z28:=Tryz.sizeOf38
 v28:=Tryz.zeroValue38
 t46:=Tryz.underlying22
 a46:=Tryz.isAgg22
 z46:=Tryz.sizeOf22
 v46:=Tryz.zeroValue22
 t51:=Tryz.underlying27
 a51:=Tryz.isAgg27
 z51:=Tryz.sizeOf27
 v51:=Tryz.zeroValue27
 t53:=Tryz.underlying198
 a53:=Tryz.isAgg198
 z53:=Tryz.sizeOf198
 v53:=Tryz.zeroValue198
 t131:=Tryz.underlying286
 a131:=Tryz.isAgg286
 z131:=Tryz.sizeOf286
 v131:=Tryz.zeroValue286
 t182:=Tryz.underlying306
 a182:=Tryz.isAgg306
 z182:=Tryz.sizeOf306
 v182:=Tryz.zeroValue306
 t183:=Tryz.underlying307
 a183:=Tryz.isAgg307
 z183:=Tryz.sizeOf307
 v183:=Tryz.zeroValue307
 t218:=Tryz.underlying357
 a218:=Tryz.isAgg357
 z218:=Tryz.sizeOf357
 v218:=Tryz.zeroValue357
 t222:=Tryz.underlying361
 a222:=Tryz.isAgg361
 z222:=Tryz.sizeOf361
 v222:=Tryz.zeroValue361
 t228:=Tryz.underlying388
 a228:=Tryz.isAgg388
 z228:=Tryz.sizeOf388
 v228:=Tryz.zeroValue388
 t229:=Tryz.underlying389
 a229:=Tryz.isAgg389
 z229:=Tryz.sizeOf389
 v229:=Tryz.zeroValue389}
open Go.Sort Go.RowKit in
theorem Tryz.slices_Sort_int(fp off cap:Nat)(b:List Int)(w:World)(d:Holds (Value.int .i64) w fp off b.toArray)(a:fp<w.heap.size)(c:b.length<4611686018427387904):
  Calls xv 98 #[xl (some ⟨fp,off,none⟩) b.length cap] w fun e f=>
   e=.returned (.tuple #[])/\∃n os,f=grow (putRow (Value.int .i64) (Sort.ahead w n) fp off (b.mergeSort fun x y=>decide (x<=y)).toArray) os:=Any.slices_Sort_int Tryz.Uu fp off cap b w d a c
def Tryz.Ol:Go.Shelf.Ren:=⟨fun|20=>219|n=>n,fun|22=>38|3=>3|4=>4|0=>0|n=>n,fun|n=>n⟩
theorem Tryz.Nq:Go.Proofs.Lays2.n20 xv Tryz.Ol:={
 mixed:=by kernel_rfl
 f20:=Tryz.func219.trans (congrArg some (by kernel_rfl))
 t0:=Tryz.underlying0
 a0:=Tryz.isAgg0
 z0:=Tryz.sizeOf0
 v0:=Tryz.zeroValue0
 t3:=Tryz.underlying3
 a3:=Tryz.isAgg3
 z3:=Tryz.sizeOf3
 v3:=Tryz.zeroValue3
 t4:=Tryz.underlying4
 a4:=Tryz.isAgg4
 z4:=Tryz.sizeOf4
 v4:=Tryz.zeroValue4
 t22:=Tryz.underlying38
 a22:=Tryz.isAgg38
 z22:=Tryz.sizeOf38
 v22:=Tryz.zeroValue38
 i3:=by kernel_rfl}
open Go.RowKit Go.Lib Go.Sort in
theorem Tryz.slices_Compact_int(fp off cap:Nat)(a:List Int)(w:World)(f:Holds (Value.int .i64) w fp off a.toArray)(c:a.length<=9223372036854775807)(b:a.length<=cap):
  Calls xv 219 #[xl (some ⟨fp,off,none⟩) a.length cap] w fun e d=>e=.returned (xl (some ⟨fp,off,none⟩) (Lib.compact a).length cap)/\∃q,d=putRow (Value.int .i64) (Sort.ahead w q) fp off (Lib.compact a++List.replicate (a.length-(Lib.compact a).length) 0).toArray:=Any.slices_Compact_int Tryz.Nq fp off cap a w f c b
open Go.RowKit Go.Lib Go.Sort in
theorem Tryz.slices_Compact_int_empty(a:Option Addr)(cap:Nat)(w:World):
  Calls xv 219 #[xl a 0 cap] w fun e b=>e=.returned (xl a 0 cap)/\b=w:=Any.slices_Compact_int_empty Tryz.Nq a cap w
open Go.RowKit Go.Sort in
theorem Tryz.slices_Sort_int_none(p:Option Addr)(cap:Nat)(w:World):
  Calls xv 98 #[xl p 0 cap] w fun e a=>e=.returned (.tuple #[])/\a=w:=Any.slices_Sort_int_none Tryz.Uu p cap w
end Go.Proofs
