/- Part of the proofs that the laws of this seat answer true whatever the input reads, and leave it as it was; no condition. -/
import Derived.Test.YtkciobclldnoiaaGreatDoorTabA
set_option linter.unusedVariables false
set_option linter.unusedSimpArgs false
namespace Go.Proofs.YtkciobclldnoiaaGreatDoor
open Go Go.Vc Go.Proofs
set_option maxRecDepth 1000000
abbrev Bp:FuncId:=201
noncomputable def uU (seed_0:Int) (R:Value→Heap→Prop) (h:Heap):Prop:=
 aU Tryz.prog (Instr.box 334 (.agg #[(.int .u64 (IntKind.wrap .u64 seed_0))])) h fun a1 h1=>
 R (.pointer (some a1)) h1
theorem z8 (seed_0:Int) {R:Value→Heap→Prop} {h:Heap} (hm:uU seed_0 R h):ae Tryz.prog 201 #[(.int .u32 seed_0)] h R:=al ag Tryz.func201 .n hm
abbrev rG:FuncId:=202
noncomputable def lU (d_0:Option Addr) (R:Value→Heap→Prop) (h:Heap):Prop:=
 Br (Option.isNone d_0)
 (R (.int .u32 (0:Int)) h)
 (∃a1:Addr,(d_0=some a1)∧
 ∃x2:Int,cellOf h a1=some (.int .u64 x2)∧
 ∃a3:Addr,(d_0=some a3)∧
 ab Tryz.prog (Instr.storeAt 287 (.pointer (some a3)) (.int .u64 (IntKind.wrap .u64 ((IntKind.wrap .u64 (x2*(6364136223846793005:Int)))+(1442695040888963407:Int))))) h fun _ h1=>
 ∃a4:Addr,(d_0=some a4)∧
 ∃x5:Int,cellOf h1 a4=some (.int .u64 x5)∧
 (0≤(32:Int))∧
 R (.int .u32 (IntKind.wrap .u32 (Int.fdiv x5 (2^min (32:Int).toNat (IntKind.bits .u64))))) h1)
theorem qG (d_0:Option Addr) {R:Value→Heap→Prop} {h:Heap} (hm:lU d_0 R h):ae Tryz.prog 202 #[(.pointer d_0)] h R:=al ag Tryz.func202 .n hm
abbrev uV:FuncId:=203
noncomputable def ny (t_0:Sl) (d_1:Option Addr) (R:Value→Heap→Prop) (h:Heap):Prop:=
 Br (((t_0.len:Nat):Int)==(0:Int))
 (R (.int .i64 (0:Int)) h)
 (∃a1:Addr,(t_0.ptr=some a1∧0≤(IntKind.wrap .i64 (((t_0.len:Nat):Int)-(1:Int)))∧(IntKind.wrap .i64 (((t_0.len:Nat):Int)-(1:Int)))<((t_0.len:Nat):Int))∧
 ∃x2:Int,cellOf h (a1.add ((IntKind.wrap .i64 (((t_0.len:Nat):Int)-(1:Int))).toNat*1))=some (.int .i64 x2)∧
 af Tryz.prog 264 #[(.pointer d_1),(.int .i64 x2)] (.one (.sc (.int .i64))) h fun r3 h1=>
 af Tryz.prog 263 #[(.slice t_0.ptr t_0.len t_0.cap),(.int .i64 r3)] (.one (.sc (.int .i64))) h1 fun r4 h2=>
 R (.int .i64 r4) h2)
theorem tj (t_0:Sl) (d_1:Option Addr) {R:Value→Heap→Prop} {h:Heap} (hm:ny t_0 d_1 R h):ae Tryz.prog 203 #[(.slice t_0.ptr t_0.len t_0.cap),(.pointer d_1)] h R:=al ag Tryz.func203 .n hm
abbrev tk:FuncId:=204
noncomputable def mA (l_0:Int) (R:Value→Heap→Prop) (h:Heap):Prop:=
 ba (σ:=Unit) (fun _ h1=>
 aw Tryz.prog (Instr.makeSlice 22 (.int .i64 (0:Int)) (.int .i64 l_0)) (.one (.sc .slc)) h1 fun v2 h2=>
 aH (σ:=Sl×Int×Int) (fun s3 K2 h3=>
 Br (decide (s3.2.2≤l_0))
 (af Tryz.prog 265 #[(.int .i64 l_0),(.int .i64 s3.2.2)] (.one (.sc (.int .i64))) h3 fun r4 h4=>
 aw Tryz.prog (Instr.buildSlice 22 1 #[(0,(.int .i64 (IntKind.wrap .i64 (s3.2.1+r4))))]) (.one (.sc .slc)) h4 fun v5 h5=>
 aw Tryz.prog (Builtin.append_ #[22,22] 22 #[(.slice s3.1.ptr s3.1.len s3.1.cap),(.slice v5.ptr v5.len v5.cap)]) (.one (.sc .slc)) h5 fun v6 h6=>
 K2 ((⟨v6.ptr,v6.len,v6.cap⟩:Sl),IntKind.wrap .i64 (s3.2.1+r4),IntKind.wrap .i64 (s3.2.2+(1:Int))) h6)
 (R (.slice s3.1.ptr s3.1.len s3.1.cap) h3)) ((⟨v2.ptr,v2.len,v2.cap⟩:Sl),(0:Int),(1:Int)) h2)
 (fun K1=>
 Br (decide (l_0<(1:Int))) (R (.slice none 0 0) h) (Br (decide (l_0>(64:Int)))
 (R (.slice none 0 0) h)
 (K1 () h)))
theorem rH (l_0:Int) {R:Value→Heap→Prop} {h:Heap} (hm:mA l_0 R h):ae Tryz.prog 204 #[(.int .i64 l_0)] h R:=al ag Tryz.func204 (.two .n (.two (.join [] [(2,3),(6,12)] .n) (.two .n (.two .n (.two (.two .n (.inn (.loop [(3,(.sc .slc)),(4,(.sc (.int .i64))),(5,(.sc (.int .i64)))] [(3,6),(14,28)] .n))) .n))))) hm
abbrev wD:FuncId:=205
noncomputable def o0 (d_0:Option Addr) (n_1:Int) (k_2:Int) (R:Value→Heap→Prop) (h:Heap):Prop:=
 ba (σ:=Unit) (fun _ h1=>
 aw Tryz.prog (Instr.makeSlice 22 (.int .i64 n_1) (.int .i64 n_1)) (.one (.sc .slc)) h1 fun v2 h2=>
 aH (σ:=Int) (fun s3 K2 h3=>
 Br (decide (s3<((v2.len:Nat):Int)))
 (∃a4:Addr,(v2.ptr=some a4∧0≤s3∧s3<((v2.len:Nat):Int))∧
 ab Tryz.prog (Instr.storeAt 3 (.pointer (some (a4.add (s3.toNat*1)))) (.int .i64 s3)) h3 fun _ h4=>
 K2 (IntKind.wrap .i64 (s3+(1:Int))) h4)
 (aH (σ:=Int) (fun s5 K3 h5=>
 Br (decide (s5<k_2))
 (af Tryz.prog 264 #[(.pointer d_0),(.int .i64 (IntKind.wrap .i64 (n_1-s5)))] (.one (.sc (.int .i64))) h5 fun r6 h6=>
 ∃a7:Addr,(v2.ptr=some a7∧0≤(IntKind.wrap .i64 (s5+r6))∧(IntKind.wrap .i64 (s5+r6))<((v2.len:Nat):Int))∧
 ∃x8:Int,cellOf h6 (a7.add ((IntKind.wrap .i64 (s5+r6)).toNat*1))=some (.int .i64 x8)∧
 ∃a9:Addr,(v2.ptr=some a9∧0≤s5∧s5<((v2.len:Nat):Int))∧
 ∃x10:Int,cellOf h6 (a9.add (s5.toNat*1))=some (.int .i64 x10)∧
 ∃a11:Addr,(v2.ptr=some a11∧0≤s5∧s5<((v2.len:Nat):Int))∧
 ab Tryz.prog (Instr.storeAt 3 (.pointer (some (a11.add (s5.toNat*1)))) (.int .i64 x8)) h6 fun _ h7=>
 (aE.ok [] h7)∧
 ∃a12:Addr,(v2.ptr=some a12∧0≤(IntKind.wrap .i64 (s5+r6))∧(IntKind.wrap .i64 (s5+r6))<((v2.len:Nat):Int))∧
 ab Tryz.prog (Instr.storeAt 3 (.pointer (some (a12.add ((IntKind.wrap .i64 (s5+r6)).toNat*1)))) (.int .i64 x10)) h7 fun _ h8=>
 (aE.ok [] h8)∧
 K3 (IntKind.wrap .i64 (s5+(1:Int))) h8)
 ((0≤k_2∧k_2≤((v2.cap:Nat):Int))∧
 af Tryz.prog 79 #[(.slice v2.ptr k_2.toNat v2.cap)] (.one (.sc .slc)) h5 fun r13 h9=>
 af Tryz.prog 124 #[(.slice r13.ptr r13.len r13.cap)] (.many []) h9 fun _ h10=>
 R (.slice r13.ptr r13.len r13.cap) h10)) (0:Int) h3)) (0:Int) h2)
 (fun K1=>
 Br (decide (n_1<(0:Int))) (R (.slice none 0 0) h) (Br (decide (n_1>(64:Int))) (R (.slice none 0 0) h) (Br (decide (k_2<(0:Int))) (R (.slice none 0 0) h) (Br (decide (k_2>n_1))
 (R (.slice none 0 0) h)
 (K1 () h)))))
theorem uW (d_0:Option Addr) (n_1:Int) (k_2:Int) {R:Value→Heap→Prop} {h:Heap} (hm:o0 d_0 n_1 k_2 R h):ae Tryz.prog 205 #[(.pointer d_0),(.int .i64 n_1),(.int .i64 k_2)] h R:=al ag Tryz.func205 (.two .n (.two (.join [] [(6,7),(12,27)] .n) (.two .n (.two (.two .n (.inn (.loop [(31,(.sc (.int .i64)))] [(8,9),(31,39)] .n))) (.two (.two .n (.inn (.loop [(40,(.sc (.int .i64)))] [(9,11),(40,65)] .n))) .n))))) hm
abbrev tl:FuncId:=210
noncomputable def mB (x_0:Int) (R:Value→Heap→Prop) (h:Heap):Prop:=
 R (.bool (x_0 !=x_0)) h
theorem rI (x_0:Int) {R:Value→Heap→Prop} {h:Heap} (hm:mB x_0 R h):ae Tryz.prog 210 #[(.int .i64 x_0)] h R:=al ag Tryz.func210 .n hm
end Go.Proofs.YtkciobclldnoiaaGreatDoor
