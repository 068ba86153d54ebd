/- Part of the proofs that the laws of this seat answer true whatever the input reads, and leave it as it was; no condition. -/
import Derived.Test.YteieadfggboeeaaGreatDoorTabA
set_option linter.unusedVariables false
set_option linter.unusedSimpArgs false
namespace Go.Qw
open Go Go.Vc Go.Proofs
set_option maxRecDepth 1000000
variable {R:Value→Heap→Prop} {h:Heap}
abbrev py:FuncId:=250
noncomputable def lD (n_0:Int) (least_1:Int) (most_2:Int):Prop:=
 Br (decide (n_0≥least_1)) (R (decide (n_0≤most_2)) h) (R false h)
theorem oN (n_0:Int) (least_1:Int) (most_2:Int) (hm: @lD R h n_0 least_1 most_2):ae Tryz.prog 250 #[n_0,least_1,most_2] h R:=az ag Tryz.func250 .n hm
abbrev rP:FuncId:=251
noncomputable def nr (l_0:Sl) (most_1:Int):Prop:=
 aS (σ:=Int) (fun s1 K1 h1=>
 Br (decide (s1<(l_0.len:Int)))
 (∃a2:Addr,(l_0.ptr=some a2∧0≤s1∧s1<(l_0.len:Int))∧
 ∃x3:Int,cellOf h1 (a2.add (s1.toNat*1))=some (.int .i64 x3)∧
 ah Tryz.prog 250 #[x3,(.int .i64 (0:Int)),most_1] cB h1 fun r4 h2=>
 Br (!r4) (R false h2) (Br (decide (s1>0)) (∃a5:Addr,(l_0.ptr=some a5∧0≤(IntKind.wrap .i64 (s1-1))∧(IntKind.wrap .i64 (s1-1))<(l_0.len:Int))∧
 ∃x6:Int,cellOf h2 (a5.add ((IntKind.wrap .i64 (s1-1)).toNat*1))=some (.int .i64 x6)∧
 Br (decide (x6≥x3))
 (R false h2)
 (K1 (IntKind.wrap .i64 (s1+1)) h2)) (K1 (IntKind.wrap .i64 (s1+1)) h2)))
 (R true h1)) (0:Int) h
theorem qA (l_0:Sl) (most_1:Int) (hm: @nr R h l_0 most_1):ae Tryz.prog 251 #[l_0,most_1] h R:=az ag Tryz.func251 (.two .n (.two (.two .n (.inn (.loop [(9,bk)] [(4,7),(9,32)] .n))) .n)) hm
abbrev qB:FuncId:=252
noncomputable def mv (m_0:ic) (x_1:oy):Prop:=
 aI Tryz.prog (Instr.box 118 m_0) h fun a1 h1=>
 aI Tryz.prog (Instr.box 157 x_1) h1 fun a2 h2=>
 aD (σ:=Unit) (fun _ h6=>
 ∃x13:Sl,cellOf h6 (a2.add 3)=some (.slice x13.ptr x13.len x13.cap)∧
 ah Tryz.prog 164 #[x13,(.func (.func 315) #[] #[])] cB h6 fun r14 h7=>
 Br (!r14) (∃x15:Sl,cellOf h7 (a2.add 3)=some (.slice x15.ptr x15.len x15.cap)∧
 ∃x16:gQ,ai h7 (a1.add 2) 0 x16∧
 ∃x17:Int,cellOf h7 (a2.add 2)=some (.int .i64 x17)∧
 ah Tryz.prog 138 #[x16,x17] cU h7 fun r18 h8=>
 (ar.ok [(a2.add 3,x15)] h8)∧
 R (.bool ((x15.len:Int)==r18)) h8) ((ar.ok [] h7)∧
 R false h7))
 (fun K1=>
 ∃x3:ByteArray,cellOf h2 a2=some (.string x3)∧
 ah Tryz.prog 208 #[x3] cB h2 fun r4 h3=>
 Br (!r4) (R false h3) (∃x5:Int,cellOf h3 (a2.add 1)=some (.int .i64 x5)∧
 ∃x6:Int,cellOf h3 (a1.add 1)=some (.int .i64 x6)∧
 ah Tryz.prog 250 #[x5,(.int .i64 (0:Int)),(IntKind.wrap .i64 (x6-1))] cB h3 fun r7 h4=>
 Br (!r7) (R false h4) (∃x8:Int,cellOf h4 (a2.add 2)=some (.int .i64 x8)∧
 ∃x9:Int,cellOf h4 (a1.add 2)=some (.int .i64 x9)∧
 ∃x10:Int,cellOf h4 ((a1.add 2).add 2)=some (.int .i64 x10)∧
 ah Tryz.prog 250 #[x8,(.int .i64 (0:Int)),(IntKind.wrap .i64 ((IntKind.wrap .i64 (x9*x10))*8))] cB h4 fun r11 h5=>
 Br (!r11)
 (R false h5)
 (K1 () h5))))
theorem pz (m_0:ic) (x_1:oy) (hm: @mv R h m_0 x_1):ae Tryz.prog 252 #[m_0,x_1] h R:=az ag Tryz.func252 (.two .n (.two (.join [] [(4,5),(6,33)] .n) .n)) hm
abbrev dy:FuncId:=253
noncomputable def bN (s_0:Sl) (f_1:FuncId×Array Value×Array Value):Prop:=
 ah Tryz.prog 221 #[s_0,(.func (.func f_1.1) f_1.2.1 f_1.2.2)] cU h fun r1 h1=>
 R (decide (r1≥0)) h1
theorem dk (s_0:Sl) (f_1:FuncId×Array Value×Array Value) (hm: @bN R h s_0 f_1):ae Tryz.prog 253 #[s_0,(.func (.func f_1.1) f_1.2.1 f_1.2.2)] h R:=az ag Tryz.func253 .n hm
abbrev hU:FuncId:=254
noncomputable def mw (y_0:oy) (cap_1:Addr):Prop:=
 aI Tryz.prog (Instr.box 157 y_0) h fun a1 h1=>
 ∃x2:Int,cellOf h1 (a1.add 1)=some (.int .i64 x2)∧
 ∃x3:Int,cellOf h1 (cap_1.add 1)=some (.int .i64 x3)∧
 R (.bool (x2==x3)) h1
theorem pA (y_0:oy) (cap_1:Addr) (hm: @mw R h y_0 cap_1):ae Tryz.prog 254 #[y_0,cap_1] h R:=az ag Tryz.func254 .n hm
abbrev ut:FuncId:=264
noncomputable def pZ (b_0:Sl):Prop:=
 aS (σ:=Int×Int) (fun s1 K1 h1=>
 Br (decide (s1.2<(b_0.len:Int)))
 (∃a2:Addr,(b_0.ptr=some a2∧0≤s1.2∧s1.2<(b_0.len:Int))∧
 ∃x3:Int,cellOf h1 (a2.add (s1.2.toNat*1))=some (.int .u8 x3)∧
 aS (σ:=Int×Int) (fun s4 K2 h2=>
 Br (decide (s4.2<8))
 ((0≤(1:Int))∧
 Br ((IntKind.wrap .u32 ((BitVec.ofInt (IntKind.bits .u32) s4.1&&&(BitVec.ofInt (IntKind.bits .u32) (1:Int))).toNat:Nat))==1)
 (K2 (IntKind.wrap .u32 ((BitVec.ofInt (IntKind.bits .u32) (Int.fdiv s4.1 (2^min (1:Int).toNat (IntKind.bits .u32)))^^^(BitVec.ofInt (IntKind.bits .u32) (3988292384:Int))).toNat:Nat),IntKind.wrap .i64 (s4.2+1)) h2)
 (K2 (Int.fdiv s4.1 (2^min (1:Int).toNat (IntKind.bits .u32)),IntKind.wrap .i64 (s4.2+1)) h2))
 (K1 (s4.1,IntKind.wrap .i64 (s1.2+1)) h2)) (IntKind.wrap .u32 ((BitVec.ofInt (IntKind.bits .u32) s1.1^^^(BitVec.ofInt (IntKind.bits .u32) (IntKind.wrap .u32 x3))).toNat:Nat),(0:Int)) h1)
 (R (.int .u32 (IntKind.wrap .u32 ((BitVec.ofInt (IntKind.bits .u32) (4294967295:Int)^^^(BitVec.ofInt (IntKind.bits .u32) s1.1)).toNat:Nat))) h1)) ((4294967295:Int),(0:Int)) h
theorem sT (b_0:Sl) (hm: @pZ R h b_0):ae Tryz.prog 264 #[b_0] h R:=az ag Tryz.func264 (.two .n (.two .n (.two (.two .n (.inn (.loop [(3,(.sc (.int .u32))),(9,bk)] [(3,4),(5,7),(9,29)] (.two .n (.two .n (.two (.inn (.two .n (.two .n (.two .n (.inn (.loop [(3,(.sc (.int .u32))),(17,bk)] [(3,4),(6,7),(17,28)] .n)))))) .n)))))) .n))) hm
abbrev fV:FuncId:=315
noncomputable def ky (n_0:Int):Prop:=
 ah Tryz.prog 250 #[n_0,(.int .i64 (0:Int)),(.int .i64 (15:Int))] cB h fun r1 h1=>
 R (.bool (!r1)) h1
theorem nP (n_0:Int) (hm: @ky R h n_0):ae Tryz.prog 315 #[n_0] h R:=az ag Tryz.func315 .n hm
end Go.Qw
