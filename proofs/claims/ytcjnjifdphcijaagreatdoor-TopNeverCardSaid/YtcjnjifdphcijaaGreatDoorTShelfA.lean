/- Lemmas for the proof of the law; no condition. -/
import Derived.Shelf.Small.Utf8
import Derived.Shelf.Small.Bits
import Derived.Shelf.Small.Wraps
import Derived.Shelf.Strconv.Itoa0
import Derived.Shelf.LaysM
import Derived.Shelf.Strconv.Clone
import Derived.Shelf.Sort.Plain
import Derived.Shelf.Slices.Turned
import Derived.Ground.Names2Prog
import Derived.Shelf.Slices.Clone
import Derived.Shelf.Slices.CompactI
import Derived.Shelf.Slices.SearchI
import Derived.Shelf.Slices.Cells
import Derived.Shelf.Slices.In.SortNone
import Derived.Shelf.Bytes.SlSearch0
import Derived.Ground.SlbCloneProg
import Derived.Shelf.Bytes.SlClone
import Derived.Ground.SlgnProg
import Derived.Shelf.SlicesE.Clone
import Derived.Shelf.Bytes.SlEqualAll
import Derived.Shelf.Bytes.Small
import Derived.Test.YtcjnjifdphcijaaGreatDoorProg
set_option linter.unusedVariables false
set_option linter.unusedSimpArgs false
open Go.Proofs.Tryz renaming prog -> xJ
open Go.Value renaming int -> xz, slice -> xA
open Go.IntKind renaming i64 -> xF, u64 -> xI
namespace Go.Proofs
open Go.Shelf
def Tryz.OH:Go.Shelf.Ren:=⟨λ|125=>98|128=>170|129=>171|n=>n,λ|46=>158|3=>3|51=>35|53=>231|4=>4|5=>5|9=>9|n=>n,λ|n=>n⟩
theorem Tryz.abC:Go.Proofs.Lays.n125 xJ Tryz.OH:={
 mixed:=by kernel_rfl
 f125:=Tryz.func98.trans (congrArg some (by kernel_rfl))
 f128:=Tryz.func170.trans (congrArg some (by kernel_rfl))
 f129:=Tryz.func171.trans (congrArg some (by kernel_rfl))
 t3:=Tryz.underlying3
 a3:=Tryz.isAgg3
 z3:=Tryz.sizeOf3
 v3:=Tryz.zeroValue3
 t4:=Tryz.underlying4
 a4:=Tryz.isAgg4
 z4:=Tryz.sizeOf4
 v4:=Tryz.zeroValue4
 t5:=Tryz.underlying5
 a5:=Tryz.isAgg5
 z5:=Tryz.sizeOf5
 v5:=Tryz.zeroValue5
 t9:=Tryz.underlying9
 a9:=Tryz.isAgg9
 z9:=Tryz.sizeOf9
 v9:=Tryz.zeroValue9
 t46:=Tryz.underlying158
 a46:=Tryz.isAgg158
 z46:=Tryz.sizeOf158
 v46:=Tryz.zeroValue158
 t51:=Tryz.underlying35
 a51:=Tryz.isAgg35
 z51:=Tryz.sizeOf35
 v51:=Tryz.zeroValue35
 t53:=Tryz.underlying231
 a53:=Tryz.isAgg231
 z53:=Tryz.sizeOf231
 v53:=Tryz.zeroValue231}
theorem Tryz.bits_Len(x:Int)(w:World)(a:0<=x)(c:x<=18446744073709551615):
  Calls xJ 98 #[xz xI x] w λe b=>e=.returned (xz xF (Lib.bitLen x.toNat))/\b=w:=Any.bits_Len Tryz.abC x w a c
def Tryz.OI:Go.Shelf.Ren:=⟨λ|189=>46|125=>98|257=>97|128=>170|129=>171|294=>161|295=>162|296=>163|297=>164|298=>165|299=>166|216=>167|300=>168|301=>169|328=>229|329=>230|330=>231|331=>232|332=>233|215=>234|343=>290|n=>n,λ|28=>22|3=>3|46=>158|0=>0|51=>35|53=>231|4=>4|183=>224|182=>223|131=>190|5=>5|9=>9|218=>300|222=>304|228=>364|229=>365|n=>n,λ|n=>n⟩
theorem Tryz.QC:Go.Proofs.Lays.n189 xJ Tryz.OI:={
 mixed:=by kernel_rfl
 f125:=Tryz.func98.trans (congrArg some (by kernel_rfl))
 f128:=Tryz.func170.trans (congrArg some (by kernel_rfl))
 f129:=Tryz.func171.trans (congrArg some (by kernel_rfl))
 f189:=Tryz.func46.trans (congrArg some (by kernel_rfl))
 f215:=Tryz.func234.trans (congrArg some (by kernel_rfl))
 f216:=Tryz.func167.trans (congrArg some (by kernel_rfl))
 f257:=Tryz.func97.trans (congrArg some (by kernel_rfl))
 f294:=Tryz.func161.trans (congrArg some (by kernel_rfl))
 f295:=Tryz.func162.trans (congrArg some (by kernel_rfl))
 f296:=Tryz.func163.trans (congrArg some (by kernel_rfl))
 f297:=Tryz.func164.trans (congrArg some (by kernel_rfl))
 f298:=Tryz.func165.trans (congrArg some (by kernel_rfl))
 f299:=Tryz.func166.trans (congrArg some (by kernel_rfl))
 f300:=Tryz.func168.trans (congrArg some (by kernel_rfl))
 f301:=Tryz.func169.trans (congrArg some (by kernel_rfl))
 f328:=Tryz.func229.trans (congrArg some (by kernel_rfl))
 f329:=Tryz.func230.trans (congrArg some (by kernel_rfl))
 f330:=Tryz.func231.trans (congrArg some (by kernel_rfl))
 f331:=Tryz.func232.trans (congrArg some (by kernel_rfl))
 f332:=Tryz.func233.trans (congrArg some (by kernel_rfl))
 f343:=Tryz.func290.trans (congrArg some (by kernel_rfl))
 t0:=Tryz.underlying0
 a0:=Tryz.isAgg0
 z0:=Tryz.sizeOf0
 v0:=Tryz.zeroValue0
 t3:=Tryz.underlying3
 a3:=Tryz.isAgg3
 z3:=Tryz.sizeOf3
 v3:=Tryz.zeroValue3
 t4:=Tryz.underlying4
 a4:=Tryz.isAgg4
 z4:=Tryz.sizeOf4
 v4:=Tryz.zeroValue4
 t5:=Tryz.underlying5
 a5:=Tryz.isAgg5
 z5:=Tryz.sizeOf5
 v5:=Tryz.zeroValue5
 t9:=Tryz.underlying9
 a9:=Tryz.isAgg9
 z9:=Tryz.sizeOf9
 v9:=Tryz.zeroValue9
 t28:=Tryz.underlying22
 a28:=Tryz.isAgg22
 z28:=Tryz.sizeOf22
 v28:=Tryz.zeroValue22
 t46:=Tryz.underlying158
 a46:=Tryz.isAgg158
 z46:=Tryz.sizeOf158
 v46:=Tryz.zeroValue158
 t51:=Tryz.underlying35
 a51:=Tryz.isAgg35
 z51:=Tryz.sizeOf35
 v51:=Tryz.zeroValue35
 t53:=Tryz.underlying231
 a53:=Tryz.isAgg231
 z53:=Tryz.sizeOf231
 v53:=Tryz.zeroValue231
 t131:=Tryz.underlying190
 a131:=Tryz.isAgg190
 z131:=Tryz.sizeOf190
 v131:=Tryz.zeroValue190
 t182:=Tryz.underlying223
 a182:=Tryz.isAgg223
 z182:=Tryz.sizeOf223
 v182:=Tryz.zeroValue223
 t183:=Tryz.underlying224
 a183:=Tryz.isAgg224
 z183:=Tryz.sizeOf224
 v183:=Tryz.zeroValue224
 t218:=Tryz.underlying300
 a218:=Tryz.isAgg300
 z218:=Tryz.sizeOf300
 v218:=Tryz.zeroValue300
 t222:=Tryz.underlying304
 a222:=Tryz.isAgg304
 z222:=Tryz.sizeOf304
 v222:=Tryz.zeroValue304
 t228:=Tryz.underlying364
 a228:=Tryz.isAgg364
 z228:=Tryz.sizeOf364
 v228:=Tryz.zeroValue364
 t229:=Tryz.underlying365
 a229:=Tryz.isAgg365
 z229:=Tryz.sizeOf365
 v229:=Tryz.zeroValue365}
open Go.Sort Go.RowKit in
theorem Tryz.slices_Sort_int(eV off cap:Nat)(b:List Int)(w:World)(f:Holds (Value.int .i64) w eV off b.toArray)(a:eV<w.heap.size)(c:b.length<4611686018427387904):
  Calls xJ 46 #[xA (some ⟨eV,off,none⟩) b.length cap] w λe d=>
   e=.returned (.tuple #[])/\∃n os,d=grow (putRow (Value.int .i64) (Sort.ahead w n) eV off (b.mergeSort λx y=>decide (x<=y)).toArray) os:=Any.slices_Sort_int Tryz.QC eV off cap b w f a c
def Tryz.KI:Go.Shelf.Ren:=⟨λ|20=>186|n=>n,λ|22=>22|3=>3|4=>4|0=>0|n=>n,λ|n=>n⟩
theorem Tryz.JQ:Go.Proofs.Lays2.n20 xJ Tryz.KI:={
 mixed:=by kernel_rfl
 f20:=Tryz.func186.trans (congrArg some (by kernel_rfl))
 t0:=Tryz.underlying0
 a0:=Tryz.isAgg0
 z0:=Tryz.sizeOf0
 v0:=Tryz.zeroValue0
 t3:=Tryz.underlying3
 a3:=Tryz.isAgg3
 z3:=Tryz.sizeOf3
 v3:=Tryz.zeroValue3
 t4:=Tryz.underlying4
 a4:=Tryz.isAgg4
 z4:=Tryz.sizeOf4
 v4:=Tryz.zeroValue4
 t22:=Tryz.underlying22
 a22:=Tryz.isAgg22
 z22:=Tryz.sizeOf22
 v22:=Tryz.zeroValue22
 i3:=by kernel_rfl}
open Go.RowKit Go.Lib Go.Sort in
theorem Tryz.slices_Compact_int(eV off cap:Nat)(a:List Int)(w:World)(f:Holds (Value.int .i64) w eV off a.toArray)(c:a.length<=9223372036854775807)(b:a.length<=cap):
  Calls xJ 186 #[xA (some ⟨eV,off,none⟩) a.length cap] w λe d=>e=.returned (xA (some ⟨eV,off,none⟩) (Lib.compact a).length cap)/\∃q,d=putRow (Value.int .i64) (Sort.ahead w q) eV off (Lib.compact a++List.replicate (a.length-(Lib.compact a).length) 0).toArray:=Any.slices_Compact_int Tryz.JQ eV off cap a w f c b
open Go.RowKit Go.Lib Go.Sort in
theorem Tryz.slices_Compact_int_empty(a:Option Addr)(cap:Nat)(w:World):
  Calls xJ 186 #[xA a 0 cap] w λe b=>e=.returned (xA a 0 cap)/\b=w:=Any.slices_Compact_int_empty Tryz.JQ a cap w
open Go.RowKit Go.Sort in
theorem Tryz.slices_Sort_int_none(p:Option Addr)(cap:Nat)(w:World):
  Calls xJ 46 #[xA p 0 cap] w λe a=>e=.returned (.tuple #[])/\a=w:=Any.slices_Sort_int_none Tryz.QC p cap w
end Go.Proofs
