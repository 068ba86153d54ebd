/- Part of the proofs that the laws of this seat answer true whatever the input reads, and leave it as it was; no condition. -/
import Derived.Test.YtkciobclldnoiaaGreatTabA
set_option linter.unusedVariables false
set_option linter.unusedSimpArgs false
namespace Go.Proofs.YtkciobclldnoiaaGreat
open Go Go.Vc Go.Proofs
set_option maxRecDepth 1000000
abbrev jI:FuncId:=229
noncomputable def fM (data_0:Sl) (a_1:Int) (b_2:Int) (n_3:Int) (cmp_4:FuncId×Array Value×Array Value) (R:Value→Heap→Prop) (h:Heap):Prop:=
 aO (σ:=Int) (fun s1 K1 h1=>
 Br (decide (s1<n_3))
 (∃a2:Addr,(data_0.ptr=some a2∧0≤(IntKind.wrap .i64 (b_2+s1))∧(IntKind.wrap .i64 (b_2+s1))<((data_0.len:Nat):Int))∧
 ∃x3:Int×Int×Int×Int×Int×Int×Int×Sl,ai h1 (a2.add ((IntKind.wrap .i64 (b_2+s1)).toNat*8)) 0 [(.int .i64 x3.1),(.int .i64 x3.2.1),(.int .i64 x3.2.2.1),(.int .i64 x3.2.2.2.1),(.int .i64 x3.2.2.2.2.1),(.int .i64 x3.2.2.2.2.2.1),(.int .u32 x3.2.2.2.2.2.2.1),(.slice x3.2.2.2.2.2.2.2.ptr x3.2.2.2.2.2.2.2.len x3.2.2.2.2.2.2.2.cap)]∧
 ∃a4:Addr,(data_0.ptr=some a4∧0≤(IntKind.wrap .i64 (a_1+s1))∧(IntKind.wrap .i64 (a_1+s1))<((data_0.len:Nat):Int))∧
 ∃x5:Int×Int×Int×Int×Int×Int×Int×Sl,ai h1 (a4.add ((IntKind.wrap .i64 (a_1+s1)).toNat*8)) 0 [(.int .i64 x5.1),(.int .i64 x5.2.1),(.int .i64 x5.2.2.1),(.int .i64 x5.2.2.2.1),(.int .i64 x5.2.2.2.2.1),(.int .i64 x5.2.2.2.2.2.1),(.int .u32 x5.2.2.2.2.2.2.1),(.slice x5.2.2.2.2.2.2.2.ptr x5.2.2.2.2.2.2.2.len x5.2.2.2.2.2.2.2.cap)]∧
 ∃a6:Addr,(data_0.ptr=some a6∧0≤(IntKind.wrap .i64 (a_1+s1))∧(IntKind.wrap .i64 (a_1+s1))<((data_0.len:Nat):Int))∧
 ae Tryz.prog (Instr.storeAt 103 (.pointer (some (a6.add ((IntKind.wrap .i64 (a_1+s1)).toNat*8)))) (.agg #[(.int .i64 x3.1),(.int .i64 x3.2.1),(.int .i64 x3.2.2.1),(.int .i64 x3.2.2.2.1),(.int .i64 x3.2.2.2.2.1),(.int .i64 x3.2.2.2.2.2.1),(.int .u32 x3.2.2.2.2.2.2.1),(.slice x3.2.2.2.2.2.2.2.ptr x3.2.2.2.2.2.2.2.len x3.2.2.2.2.2.2.2.cap)])) h1 fun _ h2=>
 (ak.ok [] h2)∧
 ∃a7:Addr,(data_0.ptr=some a7∧0≤(IntKind.wrap .i64 (b_2+s1))∧(IntKind.wrap .i64 (b_2+s1))<((data_0.len:Nat):Int))∧
 ae Tryz.prog (Instr.storeAt 103 (.pointer (some (a7.add ((IntKind.wrap .i64 (b_2+s1)).toNat*8)))) (.agg #[(.int .i64 x5.1),(.int .i64 x5.2.1),(.int .i64 x5.2.2.1),(.int .i64 x5.2.2.2.1),(.int .i64 x5.2.2.2.2.1),(.int .i64 x5.2.2.2.2.2.1),(.int .u32 x5.2.2.2.2.2.2.1),(.slice x5.2.2.2.2.2.2.2.ptr x5.2.2.2.2.2.2.2.len x5.2.2.2.2.2.2.2.cap)])) h2 fun _ h3=>
 (ak.ok [] h3)∧
 K1 (IntKind.wrap .i64 (s1+(1:Int))) h3)
 (R (.tuple #[]) h1)) (0:Int) h
theorem jz (data_0:Sl) (a_1:Int) (b_2:Int) (n_3:Int) (cmp_4:FuncId×Array Value×Array Value) {R:Value→Heap→Prop} {h:Heap} (hm:fM data_0 a_1 b_2 n_3 cmp_4 R h):ab Tryz.prog 229 #[(.slice data_0.ptr data_0.len data_0.cap),(.int .i64 a_1),(.int .i64 b_2),(.int .i64 n_3),(.func (.func cmp_4.1) cmp_4.2.1 cmp_4.2.2)] h R:=aq ag Tryz.func229 (.two .n (.inn (.loop [(10,(.sc (.int .i64)))] [(10,38)] .n))) hm
abbrev Hx:FuncId:=230
noncomputable def AW (f_0:Option Addr) (a_1:Sl) (R:Value→Heap→Prop) (h:Heap):Prop:=
 af Tryz.prog 239 #[(.pointer f_0),(.slice a_1.ptr a_1.len a_1.cap)] (.one (.sc .slc)) h fun r1 h1=>
 R (.int .i64 ((r1.len:Nat):Int)) h1
theorem FU (f_0:Option Addr) (a_1:Sl) {R:Value→Heap→Prop} {h:Heap} (hm:AW f_0 a_1 R h):ab Tryz.prog 230 #[(.pointer f_0),(.slice a_1.ptr a_1.len a_1.cap)] h R:=aq ag Tryz.func230 .n hm
abbrev Hy:FuncId:=231
noncomputable def AX (f_0:Option Addr) (R:Value→Heap→Prop) (h:Heap):Prop:=
 Br (Option.isNone f_0)
 (af Tryz.prog 147 #[] (.one (.sc .ptr)) h fun r1 h1=>
 R (.pointer r1) h1)
 (R (.pointer f_0) h)
theorem FV (f_0:Option Addr) {R:Value→Heap→Prop} {h:Heap} (hm:AX f_0 R h):ab Tryz.prog 231 #[(.pointer f_0)] h R:=aq ag Tryz.func231 .n hm
abbrev AY:FuncId:=232
noncomputable def sq (f_0:Option Addr) (a_1:Int) (b_2:Int) (R:Value→Heap→Prop) (h:Heap):Prop:=
 aZ (σ:=Unit) (fun _ h1=>
 af Tryz.prog 233 #[(.pointer f_0)] (.one (.sc .ptr)) h1 fun r2 h2=>
 ∃a3:Addr,(r2=some a3)∧
 (0≤a_1∧a_1<((256:Nat):Int))∧
 ∃x4:Int,cellOf h2 ((a3.add 255).add (a_1.toNat*1))=some (.int .i64 x4)∧
 ∃a5:Addr,(r2=some a5)∧
 (0≤b_2∧b_2<((256:Nat):Int))∧
 ∃x6:Int,cellOf h2 ((a5.add 255).add (b_2.toNat*1))=some (.int .i64 x6)∧
 ((255:Int)≠0)∧
 ∃a7:Addr,(r2=some a7)∧
 (0≤(Int.tmod (IntKind.wrap .i64 (x4+x6)) (255:Int))∧(Int.tmod (IntKind.wrap .i64 (x4+x6)) (255:Int))<((255:Nat):Int))∧
 ∃x8:Int,cellOf h2 (a7.add ((Int.tmod (IntKind.wrap .i64 (x4+x6)) (255:Int)).toNat*1))=some (.int .u8 x8)∧
 R (.int .u8 x8) h2)
 (fun K1=>
 Br (a_1==(0:Int)) (R (.int .u8 (0:Int)) h) (Br (b_2==(0:Int))
 (R (.int .u8 (0:Int)) h)
 (K1 () h)))
theorem zk (f_0:Option Addr) (a_1:Int) (b_2:Int) {R:Value→Heap→Prop} {h:Heap} (hm:sq f_0 a_1 b_2 R h):ab Tryz.prog 232 #[(.pointer f_0),(.int .u8 a_1),(.int .u8 b_2)] h R:=aq ag Tryz.func232 (.two .n (.two (.join [] [(6,7),(8,14)] .n) .n)) hm
abbrev AZ:FuncId:=233
noncomputable def sr (f_0:Option Addr) (R:Value→Heap→Prop) (h:Heap):Prop:=
 Br (Option.isNone f_0)
 (af Tryz.prog 147 #[] (.one (.sc .ptr)) h fun r1 h1=>
 R (.pointer r1) h1)
 (R (.pointer f_0) h)
theorem zl (f_0:Option Addr) {R:Value→Heap→Prop} {h:Heap} (hm:sr f_0 R h):ab Tryz.prog 233 #[(.pointer f_0)] h R:=aq ag Tryz.func233 .n hm
abbrev A0:FuncId:=237
noncomputable def ss (l_0:Int) (R:Value→Heap→Prop) (h:Heap):Prop:=
 aO (σ:=Int) (fun s1 K1 h1=>
 Br (decide ((IntKind.wrap .i64 (s1*s1))<l_0))
 (K1 (IntKind.wrap .i64 (s1+(1:Int))) h1)
 (R (.int .i64 s1) h1)) (0:Int) h
theorem zm (l_0:Int) {R:Value→Heap→Prop} {h:Heap} (hm:ss l_0 R h):ab Tryz.prog 237 #[(.int .i64 l_0)] h R:=aq ag Tryz.func237 (.two .n (.two .n (.two (.inn (.loop [(3,(.sc (.int .i64)))] [(3,11)] .n)) .n))) hm
abbrev Ef:FuncId:=239
noncomputable def wA (f_0:Option Addr) (a_1:Sl) (R:Value→Heap→Prop) (h:Heap):Prop:=
 af Tryz.prog 173 #[(.slice a_1.ptr a_1.len a_1.cap)] (.one (.sc .bool)) h fun r1 h1=>
 Br (!r1)
 (R (.slice none 0 0) h1)
 (af Tryz.prog 175 #[(.slice a_1.ptr a_1.len a_1.cap)] (.one (.sc .slc)) h1 fun r2 h2=>
 af Tryz.prog 177 #[(.pointer f_0)] (.one (.sc .ptr)) h2 fun r3 h3=>
 af Tryz.prog 174 #[(.slice r2.ptr r2.len r2.cap)] (.one (.sc (.int .i64))) h3 fun r4 h4=>
 af Tryz.prog 176 #[(.pointer r3),(.slice r2.ptr r2.len r2.cap),(.int .i64 r4)] (.one (.sc (.int .i64))) h4 fun r5 h5=>
 (0≤r5∧r5≤((r2.cap:Nat):Int))∧
 R (.slice r2.ptr r5.toNat r2.cap) h5)
theorem CE (f_0:Option Addr) (a_1:Sl) {R:Value→Heap→Prop} {h:Heap} (hm:wA f_0 a_1 R h):ab Tryz.prog 239 #[(.pointer f_0),(.slice a_1.ptr a_1.len a_1.cap)] h R:=aq ag Tryz.func239 .n hm
end Go.Proofs.YtkciobclldnoiaaGreat
