/- Part of the proofs that the laws of this seat answer true whatever the input reads, and leave it as it was; no condition. -/
import Derived.Test.YtkciobclldnoiaaGreatTabA
set_option linter.unusedVariables false
set_option linter.unusedSimpArgs false
namespace Go.Proofs.YtkciobclldnoiaaGreat
open Go Go.Vc Go.Proofs
set_option maxRecDepth 1000000
abbrev iW:FuncId:=229
noncomputable def fj (data_0:Sl) (a_1:Int) (b_2:Int) (n_3:Int) (cmp_4:FuncId×Array Value×Array Value) (R:Value→Heap→Prop) (h:Heap):Prop:=
 aO (σ:=Int) (fun s1 K1 h1=>
 Br (decide (s1<n_3))
 (∃a2:Addr,(data_0.ptr=some a2∧0≤(IntKind.wrap .i64 (b_2+s1))∧(IntKind.wrap .i64 (b_2+s1))<((data_0.len:Nat):Int))∧
 ∃x3:Int×Int×Int×Int×Int×Int×Int×Sl,ai h1 (a2.add ((IntKind.wrap .i64 (b_2+s1)).toNat*8)) 0 [(.int .i64 x3.1),(.int .i64 x3.2.1),(.int .i64 x3.2.2.1),(.int .i64 x3.2.2.2.1),(.int .i64 x3.2.2.2.2.1),(.int .i64 x3.2.2.2.2.2.1),(.int .u32 x3.2.2.2.2.2.2.1),(.slice x3.2.2.2.2.2.2.2.ptr x3.2.2.2.2.2.2.2.len x3.2.2.2.2.2.2.2.cap)]∧
 ∃a4:Addr,(data_0.ptr=some a4∧0≤(IntKind.wrap .i64 (a_1+s1))∧(IntKind.wrap .i64 (a_1+s1))<((data_0.len:Nat):Int))∧
 ∃x5:Int×Int×Int×Int×Int×Int×Int×Sl,ai h1 (a4.add ((IntKind.wrap .i64 (a_1+s1)).toNat*8)) 0 [(.int .i64 x5.1),(.int .i64 x5.2.1),(.int .i64 x5.2.2.1),(.int .i64 x5.2.2.2.1),(.int .i64 x5.2.2.2.2.1),(.int .i64 x5.2.2.2.2.2.1),(.int .u32 x5.2.2.2.2.2.2.1),(.slice x5.2.2.2.2.2.2.2.ptr x5.2.2.2.2.2.2.2.len x5.2.2.2.2.2.2.2.cap)]∧
 ∃a6:Addr,(data_0.ptr=some a6∧0≤(IntKind.wrap .i64 (a_1+s1))∧(IntKind.wrap .i64 (a_1+s1))<((data_0.len:Nat):Int))∧
 af Tryz.prog (Instr.storeAt 103 (.pointer (some (a6.add ((IntKind.wrap .i64 (a_1+s1)).toNat*8)))) (.agg #[(.int .i64 x3.1),(.int .i64 x3.2.1),(.int .i64 x3.2.2.1),(.int .i64 x3.2.2.2.1),(.int .i64 x3.2.2.2.2.1),(.int .i64 x3.2.2.2.2.2.1),(.int .u32 x3.2.2.2.2.2.2.1),(.slice x3.2.2.2.2.2.2.2.ptr x3.2.2.2.2.2.2.2.len x3.2.2.2.2.2.2.2.cap)])) h1 fun _ h2=>
 (au.ok [] h2)∧
 ∃a7:Addr,(data_0.ptr=some a7∧0≤(IntKind.wrap .i64 (b_2+s1))∧(IntKind.wrap .i64 (b_2+s1))<((data_0.len:Nat):Int))∧
 af Tryz.prog (Instr.storeAt 103 (.pointer (some (a7.add ((IntKind.wrap .i64 (b_2+s1)).toNat*8)))) (.agg #[(.int .i64 x5.1),(.int .i64 x5.2.1),(.int .i64 x5.2.2.1),(.int .i64 x5.2.2.2.1),(.int .i64 x5.2.2.2.2.1),(.int .i64 x5.2.2.2.2.2.1),(.int .u32 x5.2.2.2.2.2.2.1),(.slice x5.2.2.2.2.2.2.2.ptr x5.2.2.2.2.2.2.2.len x5.2.2.2.2.2.2.2.cap)])) h2 fun _ h3=>
 (au.ok [] h3)∧
 K1 (IntKind.wrap .i64 (s1+(1:Int))) h3)
 (R (.tuple #[]) h1)) (0:Int) h
theorem iP (data_0:Sl) (a_1:Int) (b_2:Int) (n_3:Int) (cmp_4:FuncId×Array Value×Array Value) {R:Value→Heap→Prop} {h:Heap} (hm:fj data_0 a_1 b_2 n_3 cmp_4 R h):ab Tryz.prog 229 #[(.slice data_0.ptr data_0.len data_0.cap),(.int .i64 a_1),(.int .i64 b_2),(.int .i64 n_3),(.func (.func cmp_4.1) cmp_4.2.1 cmp_4.2.2)] h R:=al ag Tryz.func229 (.two .n (.inn (.loop [(10,(.sc (.int .i64)))] [(10,38)] .n))) hm
abbrev FD:FuncId:=230
noncomputable def yX (f_0:Option Addr) (a_1:Sl) (R:Value→Heap→Prop) (h:Heap):Prop:=
 ae Tryz.prog 239 #[(.pointer f_0),(.slice a_1.ptr a_1.len a_1.cap)] (.one (.sc .slc)) h fun r1 h1=>
 R (.int .i64 ((r1.len:Nat):Int)) h1
theorem D7 (f_0:Option Addr) (a_1:Sl) {R:Value→Heap→Prop} {h:Heap} (hm:yX f_0 a_1 R h):ab Tryz.prog 230 #[(.pointer f_0),(.slice a_1.ptr a_1.len a_1.cap)] h R:=al ag Tryz.func230 .n hm
abbrev FE:FuncId:=231
noncomputable def yY (f_0:Option Addr) (R:Value→Heap→Prop) (h:Heap):Prop:=
 Br (Option.isNone f_0)
 (ae Tryz.prog 147 #[] (.one (.sc .ptr)) h fun r1 h1=>
 R (.pointer r1) h1)
 (R (.pointer f_0) h)
theorem D8 (f_0:Option Addr) {R:Value→Heap→Prop} {h:Heap} (hm:yY f_0 R h):ab Tryz.prog 231 #[(.pointer f_0)] h R:=al ag Tryz.func231 .n hm
abbrev yZ:FuncId:=232
noncomputable def qz (f_0:Option Addr) (a_1:Int) (b_2:Int) (R:Value→Heap→Prop) (h:Heap):Prop:=
 aX (σ:=Unit) (fun _ h1=>
 ae Tryz.prog 233 #[(.pointer f_0)] (.one (.sc .ptr)) h1 fun r2 h2=>
 ∃a3:Addr,(r2=some a3)∧
 (0≤a_1∧a_1<((256:Nat):Int))∧
 ∃x4:Int,cellOf h2 ((a3.add 255).add (a_1.toNat*1))=some (.int .i64 x4)∧
 ∃a5:Addr,(r2=some a5)∧
 (0≤b_2∧b_2<((256:Nat):Int))∧
 ∃x6:Int,cellOf h2 ((a5.add 255).add (b_2.toNat*1))=some (.int .i64 x6)∧
 ((255:Int)≠0)∧
 ∃a7:Addr,(r2=some a7)∧
 (0≤(Int.tmod (IntKind.wrap .i64 (x4+x6)) (255:Int))∧(Int.tmod (IntKind.wrap .i64 (x4+x6)) (255:Int))<((255:Nat):Int))∧
 ∃x8:Int,cellOf h2 (a7.add ((Int.tmod (IntKind.wrap .i64 (x4+x6)) (255:Int)).toNat*1))=some (.int .u8 x8)∧
 R (.int .u8 x8) h2)
 (fun K1=>
 Br (a_1==(0:Int)) (R (.int .u8 (0:Int)) h) (Br (b_2==(0:Int))
 (R (.int .u8 (0:Int)) h)
 (K1 () h)))
theorem xn (f_0:Option Addr) (a_1:Int) (b_2:Int) {R:Value→Heap→Prop} {h:Heap} (hm:qz f_0 a_1 b_2 R h):ab Tryz.prog 232 #[(.pointer f_0),(.int .u8 a_1),(.int .u8 b_2)] h R:=al ag Tryz.func232 (.two .n (.two (.join [] [(6,7),(8,14)] .n) .n)) hm
abbrev y0:FuncId:=233
noncomputable def qA (f_0:Option Addr) (R:Value→Heap→Prop) (h:Heap):Prop:=
 Br (Option.isNone f_0)
 (ae Tryz.prog 147 #[] (.one (.sc .ptr)) h fun r1 h1=>
 R (.pointer r1) h1)
 (R (.pointer f_0) h)
theorem xo (f_0:Option Addr) {R:Value→Heap→Prop} {h:Heap} (hm:qA f_0 R h):ab Tryz.prog 233 #[(.pointer f_0)] h R:=al ag Tryz.func233 .n hm
abbrev y5:FuncId:=237
noncomputable def qB (l_0:Int) (R:Value→Heap→Prop) (h:Heap):Prop:=
 aO (σ:=Int) (fun s1 K1 h1=>
 Br (decide ((IntKind.wrap .i64 (s1*s1))<l_0))
 (K1 (IntKind.wrap .i64 (s1+(1:Int))) h1)
 (R (.int .i64 s1) h1)) (0:Int) h
theorem xp (l_0:Int) {R:Value→Heap→Prop} {h:Heap} (hm:qB l_0 R h):ab Tryz.prog 237 #[(.int .i64 l_0)] h R:=al ag Tryz.func237 (.two .n (.two .n (.two (.inn (.loop [(3,(.sc (.int .i64)))] [(3,11)] .n)) .n))) hm
abbrev Cp:FuncId:=239
noncomputable def uI (f_0:Option Addr) (a_1:Sl) (R:Value→Heap→Prop) (h:Heap):Prop:=
 ae Tryz.prog 173 #[(.slice a_1.ptr a_1.len a_1.cap)] (.one (.sc .bool)) h fun r1 h1=>
 Br (!r1)
 (R (.slice none 0 0) h1)
 (ae Tryz.prog 175 #[(.slice a_1.ptr a_1.len a_1.cap)] (.one (.sc .slc)) h1 fun r2 h2=>
 ae Tryz.prog 177 #[(.pointer f_0)] (.one (.sc .ptr)) h2 fun r3 h3=>
 ae Tryz.prog 174 #[(.slice r2.ptr r2.len r2.cap)] (.one (.sc (.int .i64))) h3 fun r4 h4=>
 ae Tryz.prog 176 #[(.pointer r3),(.slice r2.ptr r2.len r2.cap),(.int .i64 r4)] (.one (.sc (.int .i64))) h4 fun r5 h5=>
 (0≤r5∧r5≤((r2.cap:Nat):Int))∧
 R (.slice r2.ptr r5.toNat r2.cap) h5)
theorem AL (f_0:Option Addr) (a_1:Sl) {R:Value→Heap→Prop} {h:Heap} (hm:uI f_0 a_1 R h):ab Tryz.prog 239 #[(.pointer f_0),(.slice a_1.ptr a_1.len a_1.cap)] h R:=al ag Tryz.func239 .n hm
end Go.Proofs.YtkciobclldnoiaaGreat
