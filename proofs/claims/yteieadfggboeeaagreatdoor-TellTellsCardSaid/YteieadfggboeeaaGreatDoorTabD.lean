/- Part of the proofs that the laws of this seat answer true whatever the input reads, and leave it as it was; no condition. -/
import Derived.Test.YteieadfggboeeaaGreatDoorTabA
set_option linter.unusedVariables false
set_option linter.unusedSimpArgs false
namespace Go.Qw
open Go Go.Vc Go.Proofs
set_option maxRecDepth 1000000
variable {R:Value→Heap→Prop} {h:Heap}
abbrev pu:FuncId:=181
noncomputable def lB (b_0:Sl):Prop:=
 Br (Option.isNone b_0.ptr)
 (R (.slice none 0 0) h)
 (au Tryz.prog (Instr.buildSlice 26 0 #[]) aT h fun v1 h1=>
 au Tryz.prog (Builtin.append_ #[26,26] 26 #[v1,b_0]) aT h1 fun v2 h2=>
 R v2 h2)
theorem oK (b_0:Sl) (hm: @lB R h b_0):ae Tryz.prog 181 #[b_0] h R:=az ag Tryz.func181 .n hm
abbrev sS:FuncId:=182
noncomputable def oL (kind_0:Int) (body_1:Sl):Prop:=
 aD (σ:=Unit) (fun _ h1=>
 au Tryz.prog (Instr.makeSlice 26 (.int .i64 (64:Int)) (.int .i64 (64:Int))) aT h1 fun v2 h2=>
 au Tryz.prog (Instr.buildSlice 26 4 #[(0,(.int .u8 (87:Int))),(1,(.int .u8 (115:Int))),(2,(.int .u8 (1:Int))),(3,(.int .u8 (IntKind.wrap .u8 kind_0)))]) aT h2 fun v3 h3=>
 au Tryz.prog (Builtin.copy_ #[26,26] 3 #[v2,v3]) cU h3 fun _ h4=>
 (0≤(4:Int)∧(4:Int)≤(v2.len:Int))∧
 au Tryz.prog (Builtin.copy_ #[26,26] 3 #[(.slice (if v2.cap=(4:Int).toNat then v2.ptr else v2.ptr.map (·.add ((4:Int).toNat*1))) (v2.len-(4:Int).toNat) (v2.cap-(4:Int).toNat)),body_1]) cU h4 fun _ h5=>
 (0≤(59:Int)∧(59:Int)≤(v2.cap:Int))∧
 ah Tryz.prog 264 #[(.slice v2.ptr ((59:Int).toNat) v2.cap)] (.one (.sc (.int .u32))) h5 fun r6 h6=>
 aS (σ:=Int) (fun s7 K2 h7=>
 Br (decide (s7<4))
 ((0≤(IntKind.wrap .i64 (8*s7)))∧
 ∃a8:Addr,(v2.ptr=some a8∧0≤(IntKind.wrap .i64 (59+s7))∧(IntKind.wrap .i64 (59+s7))<(v2.len:Int))∧
 aa Tryz.prog (Instr.storeAt 5 (a8.add ((IntKind.wrap .i64 (59+s7)).toNat*1)) (.int .u8 (IntKind.wrap .u8 (Int.fdiv r6 (2^min (IntKind.wrap .i64 (8*s7)).toNat (IntKind.bits .u32)))))) h7 fun _ h8=>
 K2 (IntKind.wrap .i64 (s7+1)) h8)
 (∃a9:Addr,(v2.ptr=some a9∧0≤(63:Int)∧(63:Int)<(v2.len:Int))∧
 aa Tryz.prog (Instr.storeAt 5 (a9.add ((63:Int).toNat*1)) (.int .u8 (165:Int))) h7 fun _ h9=>
 R v2 h9)) (0:Int) h6)
 (fun K1=>
 Br (decide (kind_0<1)) (R (.slice none 0 0) h) (Br (decide (kind_0>255)) (R (.slice none 0 0) h) (Br (decide ((body_1.len:Int)>55))
 (R (.slice none 0 0) h)
 (K1 () h))))
theorem rN (kind_0:Int) (body_1:Sl) (hm: @oL R h kind_0 body_1):ae Tryz.prog 182 #[kind_0,body_1] h R:=az ag Tryz.func182 (.two .n (.two (.join [] [(4,5),(8,19)] .n) (.two .n (.two .n (.two .n (.two .n (.two (.two .n (.inn (.loop [(32,bk)] [(7,8),(32,45)] .n))) .n))))))) hm
abbrev gy:FuncId:=190
noncomputable def dD (as_0:Option Addr) (c_1:Int):Prop:=
 ∃a1:Addr,(as_0=some a1)∧
 (0≤c_1∧c_1<((256:Nat):Int))∧
 ∃x2:Bool,cellOf h (a1.add (c_1.toNat*1))=some (.bool x2)∧
 R x2 h
theorem gd (as_0:Option Addr) (c_1:Int) (hm: @dD R h as_0 c_1):ae Tryz.prog 190 #[as_0,(.int .u8 c_1)] h R:=az ag Tryz.func190 .n hm
abbrev di:FuncId:=198
noncomputable def gz (x_0:Int):Prop:=
 (0≤(18:Int))∧
 R (.int .i64 (Int.fdiv (IntKind.wrap .i64 (x_0*78913)) (2^min (18:Int).toNat (IntKind.bits .i64)))) h
theorem fS (x_0:Int) (hm: @gz R h x_0):ae Tryz.prog 198 #[x_0] h R:=az ag Tryz.func198 .n hm
abbrev gU:FuncId:=199
abbrev dj:FuncId:=200
noncomputable def dx (b_0:Bool):Prop:=
 Br b_0
 (R (.int .i64 (1:Int)) h)
 (R (.int .i64 (0:Int)) h)
theorem fT (b_0:Bool) (hm: @dx R h b_0):ae Tryz.prog 200 #[b_0] h R:=az ag Tryz.func200 .n hm
abbrev pv:FuncId:=203
noncomputable def lC (to_0:Sl) (n_1:Int) (size_2:Int):Prop:=
 aS (σ:=Sl×Int) (fun s1 K1 h1=>
 Br (decide (s1.2≥0))
 ((0≤(IntKind.wrap .i64 (8*s1.2)))∧
 au Tryz.prog (Instr.buildSlice 26 1 #[(0,(.int .u8 (IntKind.wrap .u8 (Int.fdiv n_1 (2^min (IntKind.wrap .i64 (8*s1.2)).toNat (IntKind.bits .i64))))))]) aT h1 fun v2 h2=>
 au Tryz.prog (Builtin.append_ #[26,26] 26 #[s1.1,v2]) aT h2 fun v3 h3=>
 K1 ((⟨v3.ptr,v3.len,v3.cap⟩:Sl),IntKind.wrap .i64 (s1.2-1)) h3)
 (R s1.1 h1)) ((⟨to_0.ptr,to_0.len,to_0.cap⟩:Sl),IntKind.wrap .i64 (size_2-1)) h
theorem oM (to_0:Sl) (n_1:Int) (size_2:Int) (hm: @lC R h to_0 n_1 size_2):ae Tryz.prog 203 #[to_0,n_1,size_2] h R:=az ag Tryz.func203 (.two .n (.two (.two .n (.inn (.loop [(0,fw),(7,bk)] [(0,1),(7,8),(10,22)] .n))) .n)) hm
abbrev lL:FuncId:=204
noncomputable def gV (p_0:Option Addr):Prop:=
 ah Tryz.prog 108 #[p_0] cB h fun r1 h1=>
 Br (!r1)
 (R false h1)
 (∃a2:Addr,(p_0=some a2)∧
 ∃x3:Bool,cellOf h1 (a2.add 1)=some (.bool x3)∧
 Br (!x3)
 (R true h1)
 (∃a4:Addr,(p_0=some a4)∧
 ∃x5:Int,cellOf h1 (a4.add 2)=some (.int .i64 x5)∧
 Br (x5==0)
 (∃a6:Addr,(p_0=some a6)∧
 aa Tryz.prog (Instr.storeAt 4 a6 true) h1 fun _ h2=>
 ∃a7:Addr,(p_0=some a7)∧
 ∃x8:Int,cellOf h2 (a7.add 3)=some (.int .i64 x8)∧
 ∃a9:Addr,(p_0=some a9)∧
 aa Tryz.prog (Instr.storeAt 3 (a9.add 3) (IntKind.wrap .i64 (x8+1))) h2 fun _ h3=>
 R false h3)
 (∃a10:Addr,(p_0=some a10)∧
 ∃x11:Int,cellOf h1 (a10.add 2)=some (.int .i64 x11)∧
 ∃a12:Addr,(p_0=some a12)∧
 aa Tryz.prog (Instr.storeAt 3 (a12.add 2) (IntKind.wrap .i64 (x11-1))) h1 fun _ h4=>
 R true h4)))
theorem kZ (p_0:Option Addr) (hm: @gV R h p_0):ae Tryz.prog 204 #[p_0] h R:=az ag Tryz.func204 .n hm
abbrev lM:FuncId:=205
noncomputable def gW (d_0:Option Addr):Prop:=
 ∃a1:Addr,(d_0=some a1)∧
 aa Tryz.prog (Instr.storeAt 122 (a1.add 4) (.slice none 0 0)) h fun _ h1=>
 ∃a2:Addr,(d_0=some a2)∧
 aa Tryz.prog (Instr.storeAt 4 (a2.add 5) false) h1 fun _ h2=>
 R (.int .i64 (0:Int)) h2
theorem ld (d_0:Option Addr) (hm: @gW R h d_0):ae Tryz.prog 205 #[d_0] h R:=az ag Tryz.func205 .n hm
abbrev iz:FuncId:=206
abbrev gh:FuncId:=207
noncomputable def eC (d_0:Option Addr):Prop:=
 aD (σ:=Unit) (fun _ h1=>
 ∃a4:Addr,(d_0=some a4)∧
 ∃x5:Option Addr,cellOf h1 a4=some (.pointer x5)∧
 ah Tryz.prog 204 #[x5] cB h1 fun r6 h2=>
 Br (!r6)
 (R (.int .i64 (14:Int)) h2)
 (∃a7:Addr,(d_0=some a7)∧
 aa Tryz.prog (Instr.storeAt 3 (a7.add 3) (.int .i64 (0:Int))) h2 fun _ h3=>
 ah Tryz.prog 205 #[d_0] cU h3 fun r8 h4=>
 R r8 h4))
 (fun K1=>
 Br (Option.isNone d_0) (R (.int .i64 (5:Int)) h) (∃a1:Addr,(d_0=some a1)∧
 ∃x2:Bool,cellOf h (a1.add 6)=some (.bool x2)∧
 Br x2
 (R (.int .i64 (5:Int)) h)
 (K1 () h)))
theorem fU (d_0:Option Addr) (hm: @eC R h d_0):ae Tryz.prog 207 #[d_0] h R:=az ag Tryz.func207 (.two .n (.two (.join [] [(2,11)] .n) .n)) hm
abbrev rO:FuncId:=208
noncomputable def nq (s_0:ByteArray):Prop:=
 au Tryz.prog (convert 9 26 s_0) aT h fun v1 h1=>
 aS (σ:=Int) (fun s2 K1 h2=>
 Br (decide (s2<(v1.len:Int)))
 (∃a3:Addr,(v1.ptr=some a3∧0≤s2∧s2<(v1.len:Int))∧
 ∃x4:Int,cellOf h2 (a3.add (s2.toNat*1))=some (.int .u8 x4)∧
 Br (decide (x4<97)) (Br (decide (x4<48)) (Br (x4 !=45)
 (R false h2)
 (K1 (IntKind.wrap .i64 (s2+1)) h2)) (Br (decide (x4>57)) (Br (x4 !=45)
 (R false h2)
 (K1 (IntKind.wrap .i64 (s2+1)) h2)) (K1 (IntKind.wrap .i64 (s2+1)) h2))) (Br (decide (x4>122)) (Br (decide (x4<48)) (Br (x4 !=45)
 (R false h2)
 (K1 (IntKind.wrap .i64 (s2+1)) h2)) (Br (decide (x4>57)) (Br (x4 !=45)
 (R false h2)
 (K1 (IntKind.wrap .i64 (s2+1)) h2)) (K1 (IntKind.wrap .i64 (s2+1)) h2))) (K1 (IntKind.wrap .i64 (s2+1)) h2)))
 (Br (decide ((s_0.size:Int)≥1)) (R (decide ((s_0.size:Int)≤12)) h2) (R false h2))) (0:Int) h1
theorem qz (s_0:ByteArray) (hm: @nq R h s_0):ae Tryz.prog 208 #[s_0] h R:=az ag Tryz.func208 (.two .n (.two (.two .n (.inn (.loop [(8,bk)] [(2,3),(4,5),(8,31)] .n))) .n)) hm
noncomputable def mu (p_0:gQ):Prop:=
 aI Tryz.prog (Instr.box 44 p_0) h fun a1 h1=>
 ∃x2:Int,cellOf h1 a1=some (.int .i64 x2)∧
 ∃x3:Int,cellOf h1 (a1.add 2)=some (.int .i64 x3)∧
 R (IntKind.wrap .i64 (x2*x3)) h1
theorem px (p_0:gQ) (hm: @mu R h p_0):ae Tryz.prog 210 #[p_0] h R:=az ag Tryz.func210 .n hm
noncomputable def bY (s_0:Sl) (f_1:FuncId×Array Value×Array Value):Prop:=
 aS (σ:=Int) (fun s1 K1 h1=>
 Br (decide (s1<(s_0.len:Int)))
 (∃a2:Addr,(s_0.ptr=some a2∧0≤s1∧s1<(s_0.len:Int))∧
 ∃x3:oy,ai h1 (a2.add (s1.toNat*4)) 0 x3∧
 pd C f_1.1 (f_1.2.1.toList++[(.agg #[x3.1,x3.2.1,x3.2.2.1,x3.2.2.2])]++f_1.2.2.toList) cB h1 fun r4 h2=>
 Br r4
 (R s1 h2)
 (K1 (IntKind.wrap .i64 (s1+1)) h2))
 (R (.int .i64 (-1:Int)) h1)) (0:Int) h
theorem dH (s_0:Sl) (f_1:FuncId×Array Value×Array Value) (hm: @bY R h s_0 f_1):ae Tryz.prog 221 #[s_0,(.func (.func f_1.1) f_1.2.1 f_1.2.2)] h R:=az ag Tryz.func221 (.two .n (.two (.two .n (.inn (.loop [(8,bk)] [(4,6),(8,19)] .n))) .n)) hm
end Go.Qw
