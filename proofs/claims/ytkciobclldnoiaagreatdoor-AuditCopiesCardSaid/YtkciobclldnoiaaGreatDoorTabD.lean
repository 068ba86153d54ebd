/- Part of the proofs that the laws of this seat answer true whatever the input reads, and leave it as it was; no condition. -/
import Derived.Test.YtkciobclldnoiaaGreatDoorTabA
set_option linter.unusedVariables false
set_option linter.unusedSimpArgs false
namespace Go.Proofs.YtkciobclldnoiaaGreatDoor
open Go Go.Vc Go.Proofs
set_option maxRecDepth 1000000
noncomputable def qy (vals_0:Sl) (R:Value→Heap→Prop) (h:Heap):Prop:=
 aH (σ:=Int) (fun s1 K1 h1=>
 Br (decide (s1<((vals_0.len:Nat):Int)))
 (∃a2:Addr,(vals_0.ptr=some a2∧0≤s1∧s1<((vals_0.len:Nat):Int))∧
 ∃x3:Int,cellOf h1 (a2.add (s1.toNat*1))=some (.int .i64 x3)∧
 Br (x3 !=(0:Int))
 (R (.int .i64 x3) h1)
 (K1 (IntKind.wrap .i64 (s1+(1:Int))) h1))
 (R (.int .i64 (0:Int)) h1)) (0:Int) h
theorem wv (vals_0:Sl) {R:Value→Heap→Prop} {h:Heap} (hm:qy vals_0 R h):ae Tryz.prog 160 #[(.slice vals_0.ptr vals_0.len vals_0.cap)] h R:=al ag Tryz.func160 (.two .n (.two .n (.two (.two .n (.inn (.loop [(8,(.sc (.int .i64)))] [(2,3),(5,6),(8,17)] .n))) .n))) hm
abbrev qz:FuncId:=162
noncomputable def kN (x_0:Int) (y_1:Int) (R:Value→Heap→Prop) (h:Heap):Prop:=
 af Tryz.prog 210 #[(.int .i64 x_0)] (.one (.sc .bool)) h fun r1 h1=>
 af Tryz.prog 210 #[(.int .i64 y_1)] (.one (.sc .bool)) h1 fun r2 h2=>
 Br r1
 (Br r2
 (R (.int .i64 (0:Int)) h2)
 (R (.int .i64 (-1:Int)) h2))
 (Br r2
 (R (.int .i64 (1:Int)) h2)
 (Br (decide (x_0<y_1))
 (R (.int .i64 (-1:Int)) h2)
 (Br (decide (x_0>y_1))
 (R (.int .i64 (1:Int)) h2)
 (R (.int .i64 (0:Int)) h2))))
theorem pv (x_0:Int) (y_1:Int) {R:Value→Heap→Prop} {h:Heap} (hm:kN x_0 y_1 R h):ae Tryz.prog 162 #[(.int .i64 x_0),(.int .i64 y_1)] h R:=al ag Tryz.func162 .n hm
abbrev yc:FuncId:=163
noncomputable def qA (r_0:Int×Int×Int×Int×Int×Int×Int×Sl) (R:Value→Heap→Prop) (h:Heap):Prop:=
 aU Tryz.prog (Instr.box 164 (.agg #[(.int .i64 r_0.1),(.int .i64 r_0.2.1),(.int .i64 r_0.2.2.1),(.int .i64 r_0.2.2.2.1),(.int .i64 r_0.2.2.2.2.1),(.int .i64 r_0.2.2.2.2.2.1),(.int .u32 r_0.2.2.2.2.2.2.1),(.slice r_0.2.2.2.2.2.2.2.ptr r_0.2.2.2.2.2.2.2.len r_0.2.2.2.2.2.2.2.cap)])) h fun a1 h1=>
 ba (σ:=Bool) (fun s8 h2=>
 Br s8 (∃x9:Int×Int×Int,ak h2 (a1.add 3) 0 [(.int .i64 x9.1),(.int .i64 x9.2.1),(.int .i64 x9.2.2)]∧
 af Tryz.prog 29 #[(.agg #[(.int .i64 x9.1),(.int .i64 x9.2.1),(.int .i64 x9.2.2)])] (.one (.sc .bool)) h2 fun r10 h3=>
 Br r10 (∃x11:Sl,cellOf h3 (a1.add 7)=some (.slice x11.ptr x11.len x11.cap)∧
 ∃x12:Int,cellOf h3 ((a1.add 3).add 2)=some (.int .i64 x12)∧
 R (.bool (((x11.len:Nat):Int)==x12)) h3) (R (.bool false) h3)) (R (.bool false) h2))
 (fun K1=>
 ∃x2:Int,cellOf h1 a1=some (.int .i64 x2)∧
 Br (decide (x2≥(0:Int))) (∃x3:Int,cellOf h1 a1=some (.int .i64 x3)∧
 Br (decide (x3≤(16777215:Int))) (∃x4:Int,cellOf h1 (a1.add 1)=some (.int .i64 x4)∧
 Br (decide (x4≥(0:Int))) (∃x5:Int,cellOf h1 (a1.add 1)=some (.int .i64 x5)∧
 Br (decide (x5<(8:Int))) (∃x6:Int,cellOf h1 (a1.add 2)=some (.int .i64 x6)∧
 Br (decide (x6≥(0:Int))) (∃x7:Int,cellOf h1 (a1.add 2)=some (.int .i64 x7)∧
 K1 (decide (x7≤(65535:Int))) h1) (K1 false h1)) (K1 false h1)) (K1 false h1)) (K1 false h1)) (K1 false h1))
theorem wx (r_0:Int×Int×Int×Int×Int×Int×Int×Sl) {R:Value→Heap→Prop} {h:Heap} (hm:qA r_0 R h):ae Tryz.prog 163 #[(.agg #[(.int .i64 r_0.1),(.int .i64 r_0.2.1),(.int .i64 r_0.2.2.1),(.int .i64 r_0.2.2.2.1),(.int .i64 r_0.2.2.2.2.1),(.int .i64 r_0.2.2.2.2.2.1),(.int .u32 r_0.2.2.2.2.2.2.1),(.slice r_0.2.2.2.2.2.2.2.ptr r_0.2.2.2.2.2.2.2.len r_0.2.2.2.2.2.2.2.cap)])] h R:=al ag Tryz.func163 (.two .n (.two (.join [(3,(.sc .bool))] [(3,32)] .n) .n)) hm
abbrev tf:FuncId:=164
noncomputable def mz (to_0:Sl) (n_1:Int) (size_2:Int) (R:Value→Heap→Prop) (h:Heap):Prop:=
 aH (σ:=Sl×Int) (fun s1 K1 h1=>
 Br (decide (s1.2≥(0:Int)))
 ((0≤(IntKind.wrap .i64 ((8:Int)*s1.2)))∧
 aw Tryz.prog (Instr.buildSlice 53 1 #[(0,(.int .u8 (IntKind.wrap .u8 (Int.fdiv n_1 (2^min (IntKind.wrap .i64 ((8:Int)*s1.2)).toNat (IntKind.bits .i64))))))]) (.one (.sc .slc)) h1 fun v2 h2=>
 aw Tryz.prog (Builtin.append_ #[53,53] 53 #[(.slice s1.1.ptr s1.1.len s1.1.cap),(.slice v2.ptr v2.len v2.cap)]) (.one (.sc .slc)) h2 fun v3 h3=>
 K1 ((⟨v3.ptr,v3.len,v3.cap⟩:Sl),IntKind.wrap .i64 (s1.2-(1:Int))) h3)
 (R (.slice s1.1.ptr s1.1.len s1.1.cap) h1)) ((⟨to_0.ptr,to_0.len,to_0.cap⟩:Sl),IntKind.wrap .i64 (size_2-(1:Int))) h
theorem rE (to_0:Sl) (n_1:Int) (size_2:Int) {R:Value→Heap→Prop} {h:Heap} (hm:mz to_0 n_1 size_2 R h):ae Tryz.prog 164 #[(.slice to_0.ptr to_0.len to_0.cap),(.int .i64 n_1),(.int .i64 size_2)] h R:=al ag Tryz.func164 (.two .n (.two (.two .n (.inn (.loop [(0,(.sc .slc)),(7,(.sc (.int .i64)))] [(0,1),(7,8),(10,22)] .n))) .n)) hm
abbrev tg:FuncId:=166
noncomputable def gu (s_0:Sl) (f_1:FuncId×Array Value×Array Value) (R:Value→Heap→Prop) (h:Heap):Prop:=
 aH (σ:=Int) (fun s1 K1 h1=>
 Br (decide (s1<((s_0.len:Nat):Int)))
 (∃a2:Addr,(s_0.ptr=some a2∧0≤s1∧s1<((s_0.len:Nat):Int))∧
 ∃x3:Int,cellOf h1 (a2.add (s1.toNat*1))=some (.int .i64 x3)∧
 fS C f_1.1 (f_1.2.1.toList++[(.int .i64 x3)]++f_1.2.2.toList) (.one (.sc .bool)) h1 fun r4 h2=>
 Br r4
 (R (.int .i64 s1) h2)
 (K1 (IntKind.wrap .i64 (s1+(1:Int))) h2))
 (R (.int .i64 (-1:Int)) h1)) (0:Int) h
theorem jU (s_0:Sl) (f_1:FuncId×Array Value×Array Value) {R:Value→Heap→Prop} {h:Heap} (hm:gu s_0 f_1 R h):ae Tryz.prog 168 #[(.slice s_0.ptr s_0.len s_0.cap),(.func (.func f_1.1) f_1.2.1 f_1.2.2)] h R:=al ag Tryz.func168 (.two .n (.two (.two .n (.inn (.loop [(8,(.sc (.int .i64)))] [(4,6),(8,19)] .n))) .n)) hm
abbrev CX:FuncId:=172
noncomputable def xm (b_0:Sl) (R:Value→Heap→Prop) (h:Heap):Prop:=
 aH (σ:=Int×Int) (fun s1 K1 h1=>
 Br (decide (s1.2<((b_0.len:Nat):Int)))
 (∃a2:Addr,(b_0.ptr=some a2∧0≤s1.2∧s1.2<((b_0.len:Nat):Int))∧
 ∃x3:Int,cellOf h1 (a2.add (s1.2.toNat*1))=some (.int .u8 x3)∧
 aH (σ:=Int×Int) (fun s4 K2 h2=>
 Br (decide (s4.2<(8:Int)))
 ((0≤(1:Int))∧
 Br ((IntKind.wrap .u32 ((BitVec.ofInt (IntKind.bits .u32) s4.1&&&(BitVec.ofInt (IntKind.bits .u32) (1:Int))).toNat:Nat))==(1:Int))
 (K2 (IntKind.wrap .u32 ((BitVec.ofInt (IntKind.bits .u32) (Int.fdiv s4.1 (2^min (1:Int).toNat (IntKind.bits .u32)))^^^(BitVec.ofInt (IntKind.bits .u32) (3988292384:Int))).toNat:Nat),IntKind.wrap .i64 (s4.2+(1:Int))) h2)
 (K2 (Int.fdiv s4.1 (2^min (1:Int).toNat (IntKind.bits .u32)),IntKind.wrap .i64 (s4.2+(1:Int))) h2))
 (K1 (s4.1,IntKind.wrap .i64 (s1.2+(1:Int))) h2)) (IntKind.wrap .u32 ((BitVec.ofInt (IntKind.bits .u32) s1.1^^^(BitVec.ofInt (IntKind.bits .u32) (IntKind.wrap .u32 x3))).toNat:Nat),(0:Int)) h1)
 (R (.int .u32 (IntKind.wrap .u32 ((BitVec.ofInt (IntKind.bits .u32) (4294967295:Int)^^^(BitVec.ofInt (IntKind.bits .u32) s1.1)).toNat:Nat))) h1)) ((4294967295:Int),(0:Int)) h
theorem Bi (b_0:Sl) {R:Value→Heap→Prop} {h:Heap} (hm:xm b_0 R h):ae Tryz.prog 172 #[(.slice b_0.ptr b_0.len b_0.cap)] h R:=al ag Tryz.func172 (.two .n (.two .n (.two (.two .n (.inn (.loop [(3,(.sc (.int .u32))),(9,(.sc (.int .i64)))] [(3,4),(5,7),(9,29)] (.two .n (.two .n (.two (.inn (.two .n (.two .n (.two .n (.inn (.loop [(3,(.sc (.int .u32))),(17,(.sc (.int .i64)))] [(3,4),(6,7),(17,28)] .n)))))) .n)))))) .n))) hm
abbrev Bj:FuncId:=174
noncomputable def uO (a_0:Int) (b_1:Int) (R:Value→Heap→Prop) (h:Heap):Prop:=
 aH (σ:=Int×Int×Int) (fun s1 K1 h1=>
 Br (s1.2.1==(0:Int))
 (R (.int .u8 s1.2.2) h1)
 (ba (σ:=Int) (fun s2 h2=>
 (0≤(1:Int))∧
 ba (σ:=Int) (fun s3 h3=>
 (0≤(1:Int))∧
 K1 (s3,Int.fdiv s1.2.1 (2^min (1:Int).toNat (IntKind.bits .u8)),s2) h3)
 (fun K3=>
 Br ((IntKind.wrap .u8 ((BitVec.ofInt (IntKind.bits .u8) s1.1&&&(BitVec.ofInt (IntKind.bits .u8) (128:Int))).toNat:Nat)) !=(0:Int))
 (K3 (IntKind.wrap .u8 ((BitVec.ofInt (IntKind.bits .u8) (IntKind.wrap .u8 (s1.1*2^min (1:Int).toNat (IntKind.bits .u8)))^^^(BitVec.ofInt (IntKind.bits .u8) (27:Int))).toNat:Nat)) h2)
 (K3 (IntKind.wrap .u8 (s1.1*2^min (1:Int).toNat (IntKind.bits .u8))) h2)))
 (fun K2=>
 Br ((IntKind.wrap .u8 ((BitVec.ofInt (IntKind.bits .u8) s1.2.1&&&(BitVec.ofInt (IntKind.bits .u8) (1:Int))).toNat:Nat))==(1:Int))
 (K2 (IntKind.wrap .u8 ((BitVec.ofInt (IntKind.bits .u8) s1.2.2^^^(BitVec.ofInt (IntKind.bits .u8) s1.1)).toNat:Nat)) h1)
 (K2 s1.2.2 h1)))) (a_0,b_1,(0:Int)) h
theorem zY (a_0:Int) (b_1:Int) {R:Value→Heap→Prop} {h:Heap} (hm:uO a_0 b_1 R h):ae Tryz.prog 174 #[(.int .u8 a_0),(.int .u8 b_1)] h R:=al ag Tryz.func174 (.two .n (.scope 0 [(0,(.sc (.int .u8))),(1,(.sc (.int .u8))),(5,(.sc (.int .u8)))] [(0,2),(4,26)] [.n] [(.two .n (.two (.join [(5,(.sc (.int .u8)))] [(5,6),(10,16)] .n) (.two .n (.two .n (.two (.join [(0,(.sc (.int .u8)))] [(0,1),(21,24)] .n) .n)))))] [])) hm
abbrev uP:FuncId:=175
noncomputable def nw (f_0:Option Addr) (R:Value→Heap→Prop) (h:Heap):Prop:=
 Br (Option.isNone f_0)
 (af Tryz.prog 85 #[] (.one (.sc .ptr)) h fun r1 h1=>
 R (.pointer r1) h1)
 (R (.pointer f_0) h)
theorem th (f_0:Option Addr) {R:Value→Heap→Prop} {h:Heap} (hm:nw f_0 R h):ae Tryz.prog 175 #[(.pointer f_0)] h R:=al ag Tryz.func175 .n hm
abbrev Bl:FuncId:=176
noncomputable def uQ (f_0:Option Addr) (c_1:Int) (a_2:Sl) (b_3:Sl) (R:Value→Heap→Prop) (h:Heap):Prop:=
 af Tryz.prog 236 #[(.pointer f_0),(.int .u8 c_1),(.slice a_2.ptr a_2.len a_2.cap)] (.one (.sc .slc)) h fun r1 h1=>
 af Tryz.prog 235 #[(.slice r1.ptr r1.len r1.cap),(.slice b_3.ptr b_3.len b_3.cap)] (.many [(.sc .slc),(.sc .bool)]) h1 fun r2 h2=>
 R (.tuple #[(.slice r2.1.ptr r2.1.len r2.1.cap),(.bool r2.2)]) h2
theorem zZ (f_0:Option Addr) (c_1:Int) (a_2:Sl) (b_3:Sl) {R:Value→Heap→Prop} {h:Heap} (hm:uQ f_0 c_1 a_2 b_3 R h):ae Tryz.prog 176 #[(.pointer f_0),(.int .u8 c_1),(.slice a_2.ptr a_2.len a_2.cap),(.slice b_3.ptr b_3.len b_3.cap)] h R:=al ag Tryz.func176 .n hm
noncomputable def fW (s_0:Sl) (f_1:FuncId×Array Value×Array Value) (R:Value→Heap→Prop) (h:Heap):Prop:=
 aH (σ:=Int) (fun s1 K1 h1=>
 Br (decide (s1<((s_0.len:Nat):Int)))
 (∃a2:Addr,(s_0.ptr=some a2∧0≤s1∧s1<((s_0.len:Nat):Int))∧
 ∃x3:Int,cellOf h1 (a2.add (s1.toNat*1))=some (.int .u8 x3)∧
 fS C f_1.1 (f_1.2.1.toList++[(.int .u8 x3)]++f_1.2.2.toList) (.one (.sc .bool)) h1 fun r4 h2=>
 Br r4
 (R (.int .i64 s1) h2)
 (K1 (IntKind.wrap .i64 (s1+(1:Int))) h2))
 (R (.int .i64 (-1:Int)) h1)) (0:Int) h
theorem jy (s_0:Sl) (f_1:FuncId×Array Value×Array Value) {R:Value→Heap→Prop} {h:Heap} (hm:fW s_0 f_1 R h):ae Tryz.prog 177 #[(.slice s_0.ptr s_0.len s_0.cap),(.func (.func f_1.1) f_1.2.1 f_1.2.2)] h R:=al ag Tryz.func177 (.two .n (.two (.two .n (.inn (.loop [(8,(.sc (.int .i64)))] [(4,6),(8,19)] .n))) .n)) hm
abbrev oX:FuncId:=178
noncomputable def qB (x_0:Int) (R:Value→Heap→Prop) (h:Heap):Prop:=
 R (.bool (x_0 !=(0:Int))) h
theorem wy (x_0:Int) {R:Value→Heap→Prop} {h:Heap} (hm:qB x_0 R h):ae Tryz.prog 178 #[(.int .u8 x_0)] h R:=al ag Tryz.func178 .n hm
abbrev CY:FuncId:=179
noncomputable def xn (a_0:Sl) (R:Value→Heap→Prop) (h:Heap):Prop:=
 aH (σ:=Int) (fun s1 K1 h1=>
 Br (decide (s1<((a_0.len:Nat):Int)))
 (∃a2:Addr,(a_0.ptr=some a2∧0≤s1∧s1<((a_0.len:Nat):Int))∧
 ∃x3:Sl,cellOf h1 (a2.add (s1.toNat*1))=some (.slice x3.ptr x3.len x3.cap)∧
 ∃a4:Addr,(a_0.ptr=some a4∧0≤(0:Int)∧(0:Int)<((a_0.len:Nat):Int))∧
 ∃x5:Sl,cellOf h1 (a4.add ((0:Int).toNat*1))=some (.slice x5.ptr x5.len x5.cap)∧
 Br (((x3.len:Nat):Int) !=((x5.len:Nat):Int)) (R (.bool false) h1) (Br (decide (((x3.len:Nat):Int)>(64:Int)))
 (R (.bool false) h1)
 (K1 (IntKind.wrap .i64 (s1+(1:Int))) h1)))
 (R (.bool true) h1)) (0:Int) h
theorem Bm (a_0:Sl) {R:Value→Heap→Prop} {h:Heap} (hm:xn a_0 R h):ae Tryz.prog 179 #[(.slice a_0.ptr a_0.len a_0.cap)] h R:=al ag Tryz.func179 (.two .n (.two (.two .n (.inn (.loop [(7,(.sc (.int .i64)))] [(2,3),(4,5),(7,24)] .n))) .n)) hm
abbrev CZ:FuncId:=180
noncomputable def xo (a_0:Sl) (R:Value→Heap→Prop) (h:Heap):Prop:=
 aw Tryz.prog (Instr.makeSlice 70 (.int .i64 (0:Int)) (.int .i64 ((a_0.len:Nat):Int))) (.one (.sc .slc)) h fun v1 h1=>
 aH (σ:=Sl×Int) (fun s2 K1 h2=>
 Br (decide (s2.2<((a_0.len:Nat):Int)))
 (∃a3:Addr,(a_0.ptr=some a3∧0≤s2.2∧s2.2<((a_0.len:Nat):Int))∧
 ∃x4:Sl,cellOf h2 (a3.add (s2.2.toNat*1))=some (.slice x4.ptr x4.len x4.cap)∧
 af Tryz.prog 98 #[(.slice x4.ptr x4.len x4.cap)] (.one (.sc .slc)) h2 fun r5 h3=>
 aw Tryz.prog (Instr.buildSlice 70 1 #[(0,(.slice r5.ptr r5.len r5.cap))]) (.one (.sc .slc)) h3 fun v6 h4=>
 aw Tryz.prog (Builtin.append_ #[70,70] 70 #[(.slice s2.1.ptr s2.1.len s2.1.cap),(.slice v6.ptr v6.len v6.cap)]) (.one (.sc .slc)) h4 fun v7 h5=>
 K1 ((⟨v7.ptr,v7.len,v7.cap⟩:Sl),IntKind.wrap .i64 (s2.2+(1:Int))) h5)
 (R (.slice s2.1.ptr s2.1.len s2.1.cap) h2)) ((⟨v1.ptr,v1.len,v1.cap⟩:Sl),(0:Int)) h1
theorem Bn (a_0:Sl) {R:Value→Heap→Prop} {h:Heap} (hm:xo a_0 R h):ae Tryz.prog 180 #[(.slice a_0.ptr a_0.len a_0.cap)] h R:=al ag Tryz.func180 (.two .n (.two .n (.two (.two .n (.inn (.loop [(3,(.sc .slc)),(11,(.sc (.int .i64)))] [(3,4),(5,6),(11,21)] .n))) .n))) hm
abbrev yd:FuncId:=181
noncomputable def qC (f_0:Option Addr) (a_1:Sl) (cols_2:Int) (R:Value→Heap→Prop) (h:Heap):Prop:=
 aH (σ:=Int×Int) (fun s1 K1 h1=>
 Br (decide (s1.2<cols_2))
 (af Tryz.prog 237 #[(.slice a_1.ptr a_1.len a_1.cap),(.int .i64 s1.1),(.int .i64 s1.2)] (.one (.sc (.int .i64))) h1 fun r2 h2=>
 Br (decide (r2<(0:Int)))
 (K1 (s1.1,IntKind.wrap .i64 (s1.2+(1:Int))) h2)
 (ba (σ:=Unit) (fun _ h5=>
 ba (σ:=Unit) (fun _ h9=>
 aH (σ:=Int) (fun s20 K4 h10=>
 Br (decide (s20<((a_1.len:Nat):Int)))
 (Br (s20 !=s1.1)
 (∃a21:Addr,(a_1.ptr=some a21∧0≤s20∧s20<((a_1.len:Nat):Int))∧
 ∃x22:Sl,cellOf h10 (a21.add (s20.toNat*1))=some (.slice x22.ptr x22.len x22.cap)∧
 ∃a23:Addr,(x22.ptr=some a23∧0≤s1.2∧s1.2<((x22.len:Nat):Int))∧
 ∃x24:Int,cellOf h10 (a23.add (s1.2.toNat*1))=some (.int .u8 x24)∧
 ∃a25:Addr,(a_1.ptr=some a25∧0≤s1.1∧s1.1<((a_1.len:Nat):Int))∧
 ∃x26:Sl,cellOf h10 (a25.add (s1.1.toNat*1))=some (.slice x26.ptr x26.len x26.cap)∧
 ∃a27:Addr,(a_1.ptr=some a27∧0≤s20∧s20<((a_1.len:Nat):Int))∧
 ∃x28:Sl,cellOf h10 (a27.add (s20.toNat*1))=some (.slice x28.ptr x28.len x28.cap)∧
 af Tryz.prog 239 #[(.pointer f_0),(.int .u8 x24),(.slice x26.ptr x26.len x26.cap),(.slice x28.ptr x28.len x28.cap)] (.many []) h10 fun _ h11=>
 (aE.ok [(a21.add (s20.toNat*1),(.slice x22.ptr x22.len x22.cap))] h11)∧
 K4 (IntKind.wrap .i64 (s20+(1:Int))) h11)
 (K4 (IntKind.wrap .i64 (s20+(1:Int))) h10))
 (K1 (IntKind.wrap .i64 (s1.1+(1:Int)),IntKind.wrap .i64 (s1.2+(1:Int))) h10)) (0:Int) h9)
 (fun K3=>
 ∃a10:Addr,(a_1.ptr=some a10∧0≤s1.1∧s1.1<((a_1.len:Nat):Int))∧
 ∃x11:Sl,cellOf h5 (a10.add (s1.1.toNat*1))=some (.slice x11.ptr x11.len x11.cap)∧
 ∃a12:Addr,(x11.ptr=some a12∧0≤s1.2∧s1.2<((x11.len:Nat):Int))∧
 ∃x13:Int,cellOf h5 (a12.add (s1.2.toNat*1))=some (.int .u8 x13)∧
 ∃a14:Addr,(a_1.ptr=some a14∧0≤s1.1∧s1.1<((a_1.len:Nat):Int))∧
 ∃x15:Sl,cellOf h5 (a14.add (s1.1.toNat*1))=some (.slice x15.ptr x15.len x15.cap)∧
 af Tryz.prog 238 #[(.pointer f_0),(.int .u8 x13)] (.one (.sc (.int .u8))) h5 fun r16 h6=>
 (aE.ok [(a14.add (s1.1.toNat*1),(.slice x15.ptr x15.len x15.cap)),(a10.add (s1.1.toNat*1),(.slice x11.ptr x11.len x11.cap))] h6)∧
 af Tryz.prog 236 #[(.pointer f_0),(.int .u8 r16),(.slice x15.ptr x15.len x15.cap)] (.one (.sc .slc)) h6 fun r17 h7=>
 (aE.ok [(a10.add (s1.1.toNat*1),(.slice x11.ptr x11.len x11.cap))] h7)∧
 ∃a18:Addr,(a_1.ptr=some a18∧0≤s1.1∧s1.1<((a_1.len:Nat):Int))∧
 ab Tryz.prog (Instr.storeAt 53 (.pointer (some (a18.add (s1.1.toNat*1)))) (.slice r17.ptr r17.len r17.cap)) h7 fun _ h8=>
 (aE.ok [] h8)∧
 K3 () h8))
 (fun K2=>
 ∃a3:Addr,(a_1.ptr=some a3∧0≤r2∧r2<((a_1.len:Nat):Int))∧
 ∃x4:Sl,cellOf h2 (a3.add (r2.toNat*1))=some (.slice x4.ptr x4.len x4.cap)∧
 ∃a5:Addr,(a_1.ptr=some a5∧0≤s1.1∧s1.1<((a_1.len:Nat):Int))∧
 ∃x6:Sl,cellOf h2 (a5.add (s1.1.toNat*1))=some (.slice x6.ptr x6.len x6.cap)∧
 ∃a7:Addr,(a_1.ptr=some a7∧0≤s1.1∧s1.1<((a_1.len:Nat):Int))∧
 ab Tryz.prog (Instr.storeAt 53 (.pointer (some (a7.add (s1.1.toNat*1)))) (.slice x4.ptr x4.len x4.cap)) h2 fun _ h3=>
 (aE.ok [] h3)∧
 ∃a8:Addr,(a_1.ptr=some a8∧0≤r2∧r2<((a_1.len:Nat):Int))∧
 ab Tryz.prog (Instr.storeAt 53 (.pointer (some (a8.add (r2.toNat*1)))) (.slice x6.ptr x6.len x6.cap)) h3 fun _ h4=>
 (aE.ok [] h4)∧
 K2 () h4)))
 (R (.int .i64 s1.1) h1)) ((0:Int),(0:Int)) h
theorem wz (f_0:Option Addr) (a_1:Sl) (cols_2:Int) {R:Value→Heap→Prop} {h:Heap} (hm:qC f_0 a_1 cols_2 R h):ae Tryz.prog 181 #[(.pointer f_0),(.slice a_1.ptr a_1.len a_1.cap),(.int .i64 cols_2)] h R:=al ag Tryz.func181 (.two .n (.two .n (.two (.two .n (.inn (.loop [(7,(.sc (.int .i64))),(12,(.sc (.int .i64)))] [(7,11),(12,82)] (.two .n (.two .n (.two (.inn (.two .n (.two .n (.two .n (.two (.join [] [(21,35)] .n) (.two (.join [] [(35,53)] .n) (.two (.two .n (.inn (.loop [(55,(.sc (.int .i64)))] [(10,11),(55,79)] .n))) .n))))))) .n)))))) .n))) hm
abbrev Bo:FuncId:=182
noncomputable def uR (f_0:Option Addr) (R:Value→Heap→Prop) (h:Heap):Prop:=
 Br (Option.isNone f_0)
 (af Tryz.prog 85 #[] (.one (.sc .ptr)) h fun r1 h1=>
 R (.pointer r1) h1)
 (R (.pointer f_0) h)
theorem z6 (f_0:Option Addr) {R:Value→Heap→Prop} {h:Heap} (hm:uR f_0 R h):ae Tryz.prog 182 #[(.pointer f_0)] h R:=al ag Tryz.func182 .n hm
abbrev z7:FuncId:=183
noncomputable def sk (a_0:Sl) (R:Value→Heap→Prop) (h:Heap):Prop:=
 Br (((a_0.len:Nat):Int)==(0:Int))
 (R (.int .i64 (0:Int)) h)
 (∃a1:Addr,(a_0.ptr=some a1∧0≤(0:Int)∧(0:Int)<((a_0.len:Nat):Int))∧
 ∃x2:Sl,cellOf h (a1.add ((0:Int).toNat*1))=some (.slice x2.ptr x2.len x2.cap)∧
 R (.int .i64 ((x2.len:Nat):Int)) h)
theorem ye (a_0:Sl) {R:Value→Heap→Prop} {h:Heap} (hm:sk a_0 R h):ae Tryz.prog 183 #[(.slice a_0.ptr a_0.len a_0.cap)] h R:=al ag Tryz.func183 .n hm
abbrev rF:FuncId:=184
noncomputable def lR (s_0:Option Addr) (R:Value→Heap→Prop) (h:Heap):Prop:=
 Br (Option.isNone s_0)
 (R (.slice none 0 0) h)
 (∃a1:Addr,(s_0=some a1)∧
 ∃x2:Sl,cellOf h (a1.add 2)=some (.slice x2.ptr x2.len x2.cap)∧
 aH (σ:=Sl×Int) (fun s3 K1 h1=>
 Br (decide (s3.2<((x2.len:Nat):Int)))
 (∃a4:Addr,(x2.ptr=some a4∧0≤s3.2∧s3.2<((x2.len:Nat):Int))∧
 ∃x5:Sl,cellOf h1 (a4.add (s3.2.toNat*1))=some (.slice x5.ptr x5.len x5.cap)∧
 af Tryz.prog 98 #[(.slice x5.ptr x5.len x5.cap)] (.one (.sc .slc)) h1 fun r6 h2=>
 aw Tryz.prog (Instr.buildSlice 70 1 #[(0,(.slice r6.ptr r6.len r6.cap))]) (.one (.sc .slc)) h2 fun v7 h3=>
 aw Tryz.prog (Builtin.append_ #[70,70] 70 #[(.slice s3.1.ptr s3.1.len s3.1.cap),(.slice v7.ptr v7.len v7.cap)]) (.one (.sc .slc)) h3 fun v8 h4=>
 K1 ((⟨v8.ptr,v8.len,v8.cap⟩:Sl),IntKind.wrap .i64 (s3.2+(1:Int))) h4)
 (R (.slice s3.1.ptr s3.1.len s3.1.cap) h1)) ((⟨none,0,0⟩:Sl),(0:Int)) h)
theorem qD (s_0:Option Addr) {R:Value→Heap→Prop} {h:Heap} (hm:lR s_0 R h):ae Tryz.prog 184 #[(.pointer s_0)] h R:=al ag Tryz.func184 (.two .n (.two .n (.two .n (.two (.two .n (.inn (.loop [(3,(.sc .slc)),(13,(.sc (.int .i64)))] [(3,4),(5,6),(13,23)] .n))) .n)))) hm
abbrev mf:FuncId:=185
noncomputable def iJ (s_0:Sl) (v_1:Int) (R:Value→Heap→Prop) (h:Heap):Prop:=
 aH (σ:=Int) (fun s1 K1 h1=>
 Br (decide (s1<((s_0.len:Nat):Int)))
 (∃a2:Addr,(s_0.ptr=some a2∧0≤s1∧s1<((s_0.len:Nat):Int))∧
 ∃x3:Int,cellOf h1 (a2.add (s1.toNat*1))=some (.int .i64 x3)∧
 Br (v_1==x3)
 (R (.int .i64 s1) h1)
 (K1 (IntKind.wrap .i64 (s1+(1:Int))) h1))
 (R (.int .i64 (-1:Int)) h1)) (0:Int) h
theorem lS (s_0:Sl) (v_1:Int) {R:Value→Heap→Prop} {h:Heap} (hm:iJ s_0 v_1 R h):ae Tryz.prog 185 #[(.slice s_0.ptr s_0.len s_0.cap),(.int .i64 v_1)] h R:=al ag Tryz.func185 (.two .n (.two (.two .n (.inn (.loop [(8,(.sc (.int .i64)))] [(4,6),(8,19)] .n))) .n)) hm
abbrev wA:FuncId:=186
noncomputable def oY (b_0:Sl) (R:Value→Heap→Prop) (h:Heap):Prop:=
 aU Tryz.prog (Instr.alloc 164 true (.tuple #[])) h fun a1 h1=>
 af Tryz.prog 240 #[(.slice b_0.ptr b_0.len b_0.cap)] (.many [(.sc (.int .i64)),(.sc .slc),(.sc .bool)]) h1 fun r2 h2=>
 ba (σ:=Unit) (fun _ h5=>
 ba (σ:=Addr) (fun s19 h23=>
 ba (σ:=Unit) (fun _ h28=>
 (0≤(9:Int)∧(9:Int)≤(13:Int)∧(13:Int)≤((r2.2.1.cap:Nat):Int))∧
 af Tryz.prog 241 #[(.slice (if r2.2.1.cap=(9:Int).toNat then r2.2.1.ptr else r2.2.1.ptr.map (·.add ((9:Int).toNat*1))) ((13:Int).toNat-(9:Int).toNat) (r2.2.1.cap-(9:Int).toNat))] (.one (.sc (.int .i64))) h28 fun r24 h29=>
 ab Tryz.prog (Instr.storeAt 44 (.pointer (some (s19.add 6))) (.int .u32 (IntKind.wrap .u32 r24))) h29 fun _ h30=>
 ∃x25:Int×Int×Int,ak h30 (s19.add 3) 0 [(.int .i64 x25.1),(.int .i64 x25.2.1),(.int .i64 x25.2.2)]∧
 af Tryz.prog 29 #[(.agg #[(.int .i64 x25.1),(.int .i64 x25.2.1),(.int .i64 x25.2.2)])] (.one (.sc .bool)) h30 fun r26 h31=>
 Br (!r26)
 (ab Tryz.prog (Instr.storeAt 164 (.pointer (some a1)) (.agg #[(.int .i64 (0:Int)),(.int .i64 (0:Int)),(.int .i64 (0:Int)),(.int .i64 (0:Int)),(.int .i64 (0:Int)),(.int .i64 (0:Int)),(.int .u32 (0:Int)),(.slice none 0 0)])) h31 fun _ h32=>
 ∃res27:Int×Int×Int×Int×Int×Int×Int×Sl,ak h32 a1 0 [(.int .i64 res27.1),(.int .i64 res27.2.1),(.int .i64 res27.2.2.1),(.int .i64 res27.2.2.2.1),(.int .i64 res27.2.2.2.2.1),(.int .i64 res27.2.2.2.2.2.1),(.int .u32 res27.2.2.2.2.2.2.1),(.slice res27.2.2.2.2.2.2.2.ptr res27.2.2.2.2.2.2.2.len res27.2.2.2.2.2.2.2.cap)]∧
 R (.tuple #[(.agg #[(.int .i64 res27.1),(.int .i64 res27.2.1),(.int .i64 res27.2.2.1),(.int .i64 res27.2.2.2.1),(.int .i64 res27.2.2.2.2.1),(.int .i64 res27.2.2.2.2.2.1),(.int .u32 res27.2.2.2.2.2.2.1),(.slice res27.2.2.2.2.2.2.2.ptr res27.2.2.2.2.2.2.2.len res27.2.2.2.2.2.2.2.cap)]),(.bool false)]) h32)
 (∃x28:Int,cellOf h31 ((s19.add 3).add 2)=some (.int .i64 x28)∧
 (0≤(13:Int)∧(13:Int)≤(IntKind.wrap .i64 ((13:Int)+x28))∧(IntKind.wrap .i64 ((13:Int)+x28))≤((r2.2.1.cap:Nat):Int))∧
 af Tryz.prog 98 #[(.slice (if r2.2.1.cap=(13:Int).toNat then r2.2.1.ptr else r2.2.1.ptr.map (·.add ((13:Int).toNat*1))) ((IntKind.wrap .i64 ((13:Int)+x28)).toNat-(13:Int).toNat) (r2.2.1.cap-(13:Int).toNat))] (.one (.sc .slc)) h31 fun r29 h33=>
 ab Tryz.prog (Instr.storeAt 53 (.pointer (some (s19.add 7))) (.slice r29.ptr r29.len r29.cap)) h33 fun _ h34=>
 ∃x30:Int×Int×Int×Int×Int×Int×Int×Sl,ak h34 s19 0 [(.int .i64 x30.1),(.int .i64 x30.2.1),(.int .i64 x30.2.2.1),(.int .i64 x30.2.2.2.1),(.int .i64 x30.2.2.2.2.1),(.int .i64 x30.2.2.2.2.2.1),(.int .u32 x30.2.2.2.2.2.2.1),(.slice x30.2.2.2.2.2.2.2.ptr x30.2.2.2.2.2.2.2.len x30.2.2.2.2.2.2.2.cap)]∧
 af Tryz.prog 107 #[(.agg #[(.int .i64 x30.1),(.int .i64 x30.2.1),(.int .i64 x30.2.2.1),(.int .i64 x30.2.2.2.1),(.int .i64 x30.2.2.2.2.1),(.int .i64 x30.2.2.2.2.2.1),(.int .u32 x30.2.2.2.2.2.2.1),(.slice x30.2.2.2.2.2.2.2.ptr x30.2.2.2.2.2.2.2.len x30.2.2.2.2.2.2.2.cap)])] (.one (.sc .slc)) h34 fun r31 h35=>
 af Tryz.prog 39 #[(.slice b_0.ptr b_0.len b_0.cap),(.slice r31.ptr r31.len r31.cap)] (.one (.sc .bool)) h35 fun r32 h36=>
 Br (!r32)
 (ab Tryz.prog (Instr.storeAt 164 (.pointer (some a1)) (.agg #[(.int .i64 (0:Int)),(.int .i64 (0:Int)),(.int .i64 (0:Int)),(.int .i64 (0:Int)),(.int .i64 (0:Int)),(.int .i64 (0:Int)),(.int .u32 (0:Int)),(.slice none 0 0)])) h36 fun _ h37=>
 ∃res33:Int×Int×Int×Int×Int×Int×Int×Sl,ak h37 a1 0 [(.int .i64 res33.1),(.int .i64 res33.2.1),(.int .i64 res33.2.2.1),(.int .i64 res33.2.2.2.1),(.int .i64 res33.2.2.2.2.1),(.int .i64 res33.2.2.2.2.2.1),(.int .u32 res33.2.2.2.2.2.2.1),(.slice res33.2.2.2.2.2.2.2.ptr res33.2.2.2.2.2.2.2.len res33.2.2.2.2.2.2.2.cap)]∧
 R (.tuple #[(.agg #[(.int .i64 res33.1),(.int .i64 res33.2.1),(.int .i64 res33.2.2.1),(.int .i64 res33.2.2.2.1),(.int .i64 res33.2.2.2.2.1),(.int .i64 res33.2.2.2.2.2.1),(.int .u32 res33.2.2.2.2.2.2.1),(.slice res33.2.2.2.2.2.2.2.ptr res33.2.2.2.2.2.2.2.len res33.2.2.2.2.2.2.2.cap)]),(.bool false)]) h37)
 (∃x34:Int×Int×Int×Int×Int×Int×Int×Sl,ak h36 s19 0 [(.int .i64 x34.1),(.int .i64 x34.2.1),(.int .i64 x34.2.2.1),(.int .i64 x34.2.2.2.1),(.int .i64 x34.2.2.2.2.1),(.int .i64 x34.2.2.2.2.2.1),(.int .u32 x34.2.2.2.2.2.2.1),(.slice x34.2.2.2.2.2.2.2.ptr x34.2.2.2.2.2.2.2.len x34.2.2.2.2.2.2.2.cap)]∧
 ab Tryz.prog (Instr.storeAt 164 (.pointer (some a1)) (.agg #[(.int .i64 x34.1),(.int .i64 x34.2.1),(.int .i64 x34.2.2.1),(.int .i64 x34.2.2.2.1),(.int .i64 x34.2.2.2.2.1),(.int .i64 x34.2.2.2.2.2.1),(.int .u32 x34.2.2.2.2.2.2.1),(.slice x34.2.2.2.2.2.2.2.ptr x34.2.2.2.2.2.2.2.len x34.2.2.2.2.2.2.2.cap)])) h36 fun _ h38=>
 ∃res35:Int×Int×Int×Int×Int×Int×Int×Sl,ak h38 a1 0 [(.int .i64 res35.1),(.int .i64 res35.2.1),(.int .i64 res35.2.2.1),(.int .i64 res35.2.2.2.1),(.int .i64 res35.2.2.2.2.1),(.int .i64 res35.2.2.2.2.2.1),(.int .u32 res35.2.2.2.2.2.2.1),(.slice res35.2.2.2.2.2.2.2.ptr res35.2.2.2.2.2.2.2.len res35.2.2.2.2.2.2.2.cap)]∧
 R (.tuple #[(.agg #[(.int .i64 res35.1),(.int .i64 res35.2.1),(.int .i64 res35.2.2.1),(.int .i64 res35.2.2.2.1),(.int .i64 res35.2.2.2.2.1),(.int .i64 res35.2.2.2.2.2.1),(.int .u32 res35.2.2.2.2.2.2.1),(.slice res35.2.2.2.2.2.2.2.ptr res35.2.2.2.2.2.2.2.len res35.2.2.2.2.2.2.2.cap)]),(.bool true)]) h38)))
 (fun K3=>
 (0≤(6:Int)∧(6:Int)≤(7:Int)∧(7:Int)≤((r2.2.1.cap:Nat):Int))∧
 (0≤(7:Int)∧(7:Int)≤(8:Int)∧(8:Int)≤((r2.2.1.cap:Nat):Int))∧
 (0≤(8:Int)∧(8:Int)≤(9:Int)∧(9:Int)≤((r2.2.1.cap:Nat):Int))∧
 af Tryz.prog 241 #[(.slice (if r2.2.1.cap=(6:Int).toNat then r2.2.1.ptr else r2.2.1.ptr.map (·.add ((6:Int).toNat*1))) ((7:Int).toNat-(6:Int).toNat) (r2.2.1.cap-(6:Int).toNat))] (.one (.sc (.int .i64))) h23 fun r20 h24=>
 (aE.ok [] h24)∧
 af Tryz.prog 241 #[(.slice (if r2.2.1.cap=(7:Int).toNat then r2.2.1.ptr else r2.2.1.ptr.map (·.add ((7:Int).toNat*1))) ((8:Int).toNat-(7:Int).toNat) (r2.2.1.cap-(7:Int).toNat))] (.one (.sc (.int .i64))) h24 fun r21 h25=>
 (aE.ok [] h25)∧
 af Tryz.prog 241 #[(.slice (if r2.2.1.cap=(8:Int).toNat then r2.2.1.ptr else r2.2.1.ptr.map (·.add ((8:Int).toNat*1))) ((9:Int).toNat-(8:Int).toNat) (r2.2.1.cap-(8:Int).toNat))] (.one (.sc (.int .i64))) h25 fun r22 h26=>
 (aE.ok [] h26)∧
 ab Tryz.prog (Instr.storeAt 24 (.pointer (some (s19.add 3))) (.agg #[(.int .i64 r20),(.int .i64 r21),(.int .i64 r22)])) h26 fun _ h27=>
 (aE.ok [] h27)∧
 K3 () h27))
 (fun K2=>
 (0≤(3:Int)∧(3:Int)≤((r2.2.1.cap:Nat):Int))∧
 (0≤(3:Int)∧(3:Int)≤(4:Int)∧(4:Int)≤((r2.2.1.cap:Nat):Int))∧
 (0≤(4:Int)∧(4:Int)≤(6:Int)∧(6:Int)≤((r2.2.1.cap:Nat):Int))∧
 (af Tryz.prog 241 #[(.slice r2.2.1.ptr ((3:Int).toNat) r2.2.1.cap)] (.one (.sc (.int .i64))) h5 fun r6 h6=>
 (aE.ok [] h6)∧
 (af Tryz.prog 241 #[(.slice (if r2.2.1.cap=(3:Int).toNat then r2.2.1.ptr else r2.2.1.ptr.map (·.add ((3:Int).toNat*1))) ((4:Int).toNat-(3:Int).toNat) (r2.2.1.cap-(3:Int).toNat))] (.one (.sc (.int .i64))) h6 fun r7 h7=>
 (aE.ok [] h7)∧
 (af Tryz.prog 241 #[(.slice (if r2.2.1.cap=(4:Int).toNat then r2.2.1.ptr else r2.2.1.ptr.map (·.add ((4:Int).toNat*1))) ((6:Int).toNat-(4:Int).toNat) (r2.2.1.cap-(4:Int).toNat))] (.one (.sc (.int .i64))) h7 fun r8 h8=>
 (aE.ok [] h8)∧
 aU Tryz.prog (Instr.alloc 164 true (.tuple #[])) h8 fun a9 h9=>
 (aE.ok [] h9)∧
 ab Tryz.prog (Instr.storeAt 164 (.pointer (some a9)) (.agg #[(.int .i64 r6),(.int .i64 r7),(.int .i64 r8),(.int .i64 (0:Int)),(.int .i64 (0:Int)),(.int .i64 (0:Int)),(.int .u32 (0:Int)),(.slice none 0 0)])) h9 fun _ h10=>
 (aE.ok [] h10)∧
 K2 a9 h10)∧(aU Tryz.prog (Instr.alloc 164 true (.tuple #[])) h7 fun a10 h11=>
 (aE.ok [] h11)∧
 af Tryz.prog 241 #[(.slice (if r2.2.1.cap=(4:Int).toNat then r2.2.1.ptr else r2.2.1.ptr.map (·.add ((4:Int).toNat*1))) ((6:Int).toNat-(4:Int).toNat) (r2.2.1.cap-(4:Int).toNat))] (.one (.sc (.int .i64))) h11 fun r11 h12=>
 (aE.ok [] h12)∧
 ab Tryz.prog (Instr.storeAt 164 (.pointer (some a10)) (.agg #[(.int .i64 r6),(.int .i64 r7),(.int .i64 r11),(.int .i64 (0:Int)),(.int .i64 (0:Int)),(.int .i64 (0:Int)),(.int .u32 (0:Int)),(.slice none 0 0)])) h12 fun _ h13=>
 (aE.ok [] h13)∧
 K2 a10 h13))∧(aU Tryz.prog (Instr.alloc 164 true (.tuple #[])) h6 fun a12 h14=>
 (aE.ok [] h14)∧
 af Tryz.prog 241 #[(.slice (if r2.2.1.cap=(3:Int).toNat then r2.2.1.ptr else r2.2.1.ptr.map (·.add ((3:Int).toNat*1))) ((4:Int).toNat-(3:Int).toNat) (r2.2.1.cap-(3:Int).toNat))] (.one (.sc (.int .i64))) h14 fun r13 h15=>
 (aE.ok [] h15)∧
 af Tryz.prog 241 #[(.slice (if r2.2.1.cap=(4:Int).toNat then r2.2.1.ptr else r2.2.1.ptr.map (·.add ((4:Int).toNat*1))) ((6:Int).toNat-(4:Int).toNat) (r2.2.1.cap-(4:Int).toNat))] (.one (.sc (.int .i64))) h15 fun r14 h16=>
 (aE.ok [] h16)∧
 ab Tryz.prog (Instr.storeAt 164 (.pointer (some a12)) (.agg #[(.int .i64 r6),(.int .i64 r13),(.int .i64 r14),(.int .i64 (0:Int)),(.int .i64 (0:Int)),(.int .i64 (0:Int)),(.int .u32 (0:Int)),(.slice none 0 0)])) h16 fun _ h17=>
 (aE.ok [] h17)∧
 K2 a12 h17))∧(aU Tryz.prog (Instr.alloc 164 true (.tuple #[])) h5 fun a15 h18=>
 (aE.ok [] h18)∧
 af Tryz.prog 241 #[(.slice r2.2.1.ptr ((3:Int).toNat) r2.2.1.cap)] (.one (.sc (.int .i64))) h18 fun r16 h19=>
 (aE.ok [] h19)∧
 af Tryz.prog 241 #[(.slice (if r2.2.1.cap=(3:Int).toNat then r2.2.1.ptr else r2.2.1.ptr.map (·.add ((3:Int).toNat*1))) ((4:Int).toNat-(3:Int).toNat) (r2.2.1.cap-(3:Int).toNat))] (.one (.sc (.int .i64))) h19 fun r17 h20=>
 (aE.ok [] h20)∧
 af Tryz.prog 241 #[(.slice (if r2.2.1.cap=(4:Int).toNat then r2.2.1.ptr else r2.2.1.ptr.map (·.add ((4:Int).toNat*1))) ((6:Int).toNat-(4:Int).toNat) (r2.2.1.cap-(4:Int).toNat))] (.one (.sc (.int .i64))) h20 fun r18 h21=>
 (aE.ok [] h21)∧
 ab Tryz.prog (Instr.storeAt 164 (.pointer (some a15)) (.agg #[(.int .i64 r16),(.int .i64 r17),(.int .i64 r18),(.int .i64 (0:Int)),(.int .i64 (0:Int)),(.int .i64 (0:Int)),(.int .u32 (0:Int)),(.slice none 0 0)])) h21 fun _ h22=>
 (aE.ok [] h22)∧
 K2 a15 h22)))
 (fun K1=>
 Br (!r2.2.2) (ab Tryz.prog (Instr.storeAt 164 (.pointer (some a1)) (.agg #[(.int .i64 (0:Int)),(.int .i64 (0:Int)),(.int .i64 (0:Int)),(.int .i64 (0:Int)),(.int .i64 (0:Int)),(.int .i64 (0:Int)),(.int .u32 (0:Int)),(.slice none 0 0)])) h2 fun _ h3=>
 ∃res3:Int×Int×Int×Int×Int×Int×Int×Sl,ak h3 a1 0 [(.int .i64 res3.1),(.int .i64 res3.2.1),(.int .i64 res3.2.2.1),(.int .i64 res3.2.2.2.1),(.int .i64 res3.2.2.2.2.1),(.int .i64 res3.2.2.2.2.2.1),(.int .u32 res3.2.2.2.2.2.2.1),(.slice res3.2.2.2.2.2.2.2.ptr res3.2.2.2.2.2.2.2.len res3.2.2.2.2.2.2.2.cap)]∧
 R (.tuple #[(.agg #[(.int .i64 res3.1),(.int .i64 res3.2.1),(.int .i64 res3.2.2.1),(.int .i64 res3.2.2.2.1),(.int .i64 res3.2.2.2.2.1),(.int .i64 res3.2.2.2.2.2.1),(.int .u32 res3.2.2.2.2.2.2.1),(.slice res3.2.2.2.2.2.2.2.ptr res3.2.2.2.2.2.2.2.len res3.2.2.2.2.2.2.2.cap)]),(.bool false)]) h3) (Br (r2.1 !=(1:Int))
 (ab Tryz.prog (Instr.storeAt 164 (.pointer (some a1)) (.agg #[(.int .i64 (0:Int)),(.int .i64 (0:Int)),(.int .i64 (0:Int)),(.int .i64 (0:Int)),(.int .i64 (0:Int)),(.int .i64 (0:Int)),(.int .u32 (0:Int)),(.slice none 0 0)])) h2 fun _ h4=>
 ∃res4:Int×Int×Int×Int×Int×Int×Int×Sl,ak h4 a1 0 [(.int .i64 res4.1),(.int .i64 res4.2.1),(.int .i64 res4.2.2.1),(.int .i64 res4.2.2.2.1),(.int .i64 res4.2.2.2.2.1),(.int .i64 res4.2.2.2.2.2.1),(.int .u32 res4.2.2.2.2.2.2.1),(.slice res4.2.2.2.2.2.2.2.ptr res4.2.2.2.2.2.2.2.len res4.2.2.2.2.2.2.2.cap)]∧
 R (.tuple #[(.agg #[(.int .i64 res4.1),(.int .i64 res4.2.1),(.int .i64 res4.2.2.1),(.int .i64 res4.2.2.2.1),(.int .i64 res4.2.2.2.2.1),(.int .i64 res4.2.2.2.2.2.1),(.int .u32 res4.2.2.2.2.2.2.1),(.slice res4.2.2.2.2.2.2.2.ptr res4.2.2.2.2.2.2.2.len res4.2.2.2.2.2.2.2.cap)]),(.bool false)]) h4)
 (K1 () h2)))
theorem uS (b_0:Sl) {R:Value→Heap→Prop} {h:Heap} (hm:oY b_0 R h):ae Tryz.prog 186 #[(.slice b_0.ptr b_0.len b_0.cap)] h R:=al ag Tryz.func186 (.two .n (.two .n (.two (.join [] [(3,4),(14,21)] .n) (.two (.join [(7,(.sc .adr))] [(7,8),(21,31)] .n) (.two (.join [] [(31,42)] .n) .n))))) hm
abbrev wB:FuncId:=187
noncomputable def oZ (m_0:Int×Int×Int×Int×Int×Int×Sl×Sl) (r_1:Int×Int×Int×Int×Int×Int×Int×Sl) (R:Value→Heap→Prop) (h:Heap):Prop:=
 aU Tryz.prog (Instr.box 41 (.agg #[(.int .i64 m_0.1),(.int .i64 m_0.2.1),(.int .i64 m_0.2.2.1),(.int .i64 m_0.2.2.2.1),(.int .i64 m_0.2.2.2.2.1),(.int .i64 m_0.2.2.2.2.2.1),(.slice m_0.2.2.2.2.2.2.1.ptr m_0.2.2.2.2.2.2.1.len m_0.2.2.2.2.2.2.1.cap),(.slice m_0.2.2.2.2.2.2.2.ptr m_0.2.2.2.2.2.2.2.len m_0.2.2.2.2.2.2.2.cap)])) h fun a1 h1=>
 aU Tryz.prog (Instr.box 164 (.agg #[(.int .i64 r_1.1),(.int .i64 r_1.2.1),(.int .i64 r_1.2.2.1),(.int .i64 r_1.2.2.2.1),(.int .i64 r_1.2.2.2.2.1),(.int .i64 r_1.2.2.2.2.2.1),(.int .u32 r_1.2.2.2.2.2.2.1),(.slice r_1.2.2.2.2.2.2.2.ptr r_1.2.2.2.2.2.2.2.len r_1.2.2.2.2.2.2.2.cap)])) h1 fun a2 h2=>
 ba (σ:=Unit) (fun _ h4=>
 ∃x9:Sl,cellOf h4 (a1.add 7)=some (.slice x9.ptr x9.len x9.cap)∧
 af Tryz.prog 76 #[(.slice x9.ptr x9.len x9.cap),(.func (.func 242) #[] #[(.pointer (some a2))])] (.one (.sc .bool)) h4 fun r10 h5=>
 R (.bool r10) h5)
 (fun K1=>
 ∃x3:Int×Int×Int×Int×Int×Int×Int×Sl,ak h2 a2 0 [(.int .i64 x3.1),(.int .i64 x3.2.1),(.int .i64 x3.2.2.1),(.int .i64 x3.2.2.2.1),(.int .i64 x3.2.2.2.2.1),(.int .i64 x3.2.2.2.2.2.1),(.int .u32 x3.2.2.2.2.2.2.1),(.slice x3.2.2.2.2.2.2.2.ptr x3.2.2.2.2.2.2.2.len x3.2.2.2.2.2.2.2.cap)]∧
 af Tryz.prog 163 #[(.agg #[(.int .i64 x3.1),(.int .i64 x3.2.1),(.int .i64 x3.2.2.1),(.int .i64 x3.2.2.2.1),(.int .i64 x3.2.2.2.2.1),(.int .i64 x3.2.2.2.2.2.1),(.int .u32 x3.2.2.2.2.2.2.1),(.slice x3.2.2.2.2.2.2.2.ptr x3.2.2.2.2.2.2.2.len x3.2.2.2.2.2.2.2.cap)])] (.one (.sc .bool)) h2 fun r4 h3=>
 Br (!r4) (R (.bool false) h3) (∃x5:Int×Int×Int,ak h3 (a2.add 3) 0 [(.int .i64 x5.1),(.int .i64 x5.2.1),(.int .i64 x5.2.2)]∧
 ∃x6:Int×Int×Int,ak h3 (a1.add 2) 0 [(.int .i64 x6.1),(.int .i64 x6.2.1),(.int .i64 x6.2.2)]∧
 ∃b7:Bool,(mW Tryz.prog .neq 24 (.tmp 10) (.tmp 12) (.agg #[(.int .i64 x5.1),(.int .i64 x5.2.1),(.int .i64 x5.2.2)]) (.agg #[(.int .i64 x6.1),(.int .i64 x6.2.1),(.int .i64 x6.2.2)]) (.bool b7))∧
 Br b7
 (R (.bool false) h3)
 (K1 () h3)))
theorem uT (m_0:Int×Int×Int×Int×Int×Int×Sl×Sl) (r_1:Int×Int×Int×Int×Int×Int×Int×Sl) {R:Value→Heap→Prop} {h:Heap} (hm:oZ m_0 r_1 R h):ae Tryz.prog 187 #[(.agg #[(.int .i64 m_0.1),(.int .i64 m_0.2.1),(.int .i64 m_0.2.2.1),(.int .i64 m_0.2.2.2.1),(.int .i64 m_0.2.2.2.2.1),(.int .i64 m_0.2.2.2.2.2.1),(.slice m_0.2.2.2.2.2.2.1.ptr m_0.2.2.2.2.2.2.1.len m_0.2.2.2.2.2.2.1.cap),(.slice m_0.2.2.2.2.2.2.2.ptr m_0.2.2.2.2.2.2.2.len m_0.2.2.2.2.2.2.2.cap)]),(.agg #[(.int .i64 r_1.1),(.int .i64 r_1.2.1),(.int .i64 r_1.2.2.1),(.int .i64 r_1.2.2.2.1),(.int .i64 r_1.2.2.2.2.1),(.int .i64 r_1.2.2.2.2.2.1),(.int .u32 r_1.2.2.2.2.2.2.1),(.slice r_1.2.2.2.2.2.2.2.ptr r_1.2.2.2.2.2.2.2.len r_1.2.2.2.2.2.2.2.cap)])] h R:=al ag Tryz.func187 (.two .n (.two (.join [] [(4,15)] .n) .n)) hm
abbrev fm:FuncId:=188
noncomputable def cW (x_0:Sl) (cmp_1:FuncId×Array Value×Array Value) (R:Value→Heap→Prop) (h:Heap):Prop:=
 af Tryz.prog 243 #[(.slice x_0.ptr x_0.len x_0.cap),(.int .i64 ((x_0.len:Nat):Int)),(.func (.func cmp_1.1) cmp_1.2.1 cmp_1.2.2)] (.many []) h fun _ h1=>
 R (.tuple #[]) h1
theorem fj (x_0:Sl) (cmp_1:FuncId×Array Value×Array Value) {R:Value→Heap→Prop} {h:Heap} (hm:cW x_0 cmp_1 R h):ae Tryz.prog 188 #[(.slice x_0.ptr x_0.len x_0.cap),(.func (.func cmp_1.1) cmp_1.2.1 cmp_1.2.2)] h R:=al ag Tryz.func188 .n hm
abbrev bI:FuncId:=189
noncomputable def qE (a_0:Int×Int×Int×Int×Int×Int×Int×Sl) (b_1:Int×Int×Int×Int×Int×Int×Int×Sl) (R:Value→Heap→Prop) (h:Heap):Prop:=
 aU Tryz.prog (Instr.box 164 (.agg #[(.int .i64 a_0.1),(.int .i64 a_0.2.1),(.int .i64 a_0.2.2.1),(.int .i64 a_0.2.2.2.1),(.int .i64 a_0.2.2.2.2.1),(.int .i64 a_0.2.2.2.2.2.1),(.int .u32 a_0.2.2.2.2.2.2.1),(.slice a_0.2.2.2.2.2.2.2.ptr a_0.2.2.2.2.2.2.2.len a_0.2.2.2.2.2.2.2.cap)])) h fun a1 h1=>
 aU Tryz.prog (Instr.box 164 (.agg #[(.int .i64 b_1.1),(.int .i64 b_1.2.1),(.int .i64 b_1.2.2.1),(.int .i64 b_1.2.2.2.1),(.int .i64 b_1.2.2.2.2.1),(.int .i64 b_1.2.2.2.2.2.1),(.int .u32 b_1.2.2.2.2.2.2.1),(.slice b_1.2.2.2.2.2.2.2.ptr b_1.2.2.2.2.2.2.2.len b_1.2.2.2.2.2.2.2.cap)])) h1 fun a2 h2=>
 ∃x3:Int,cellOf h2 a1=some (.int .i64 x3)∧
 ∃x4:Int,cellOf h2 a2=some (.int .i64 x4)∧
 ∃x5:Int,cellOf h2 (a1.add 1)=some (.int .i64 x5)∧
 ∃x6:Int,cellOf h2 (a2.add 1)=some (.int .i64 x6)∧
 ∃x7:Int,cellOf h2 (a1.add 2)=some (.int .i64 x7)∧
 ∃x8:Int,cellOf h2 (a2.add 2)=some (.int .i64 x8)∧
 af Tryz.prog 162 #[(.int .i64 x3),(.int .i64 x4)] (.one (.sc (.int .i64))) h2 fun r9 h3=>
 (aE.ok [(a2.add 2,(.int .i64 x8)),(a1.add 2,(.int .i64 x7)),(a2.add 1,(.int .i64 x6)),(a1.add 1,(.int .i64 x5))] h3)∧
 af Tryz.prog 162 #[(.int .i64 x5),(.int .i64 x6)] (.one (.sc (.int .i64))) h3 fun r10 h4=>
 (aE.ok [(a2.add 2,(.int .i64 x8)),(a1.add 2,(.int .i64 x7))] h4)∧
 af Tryz.prog 162 #[(.int .i64 x7),(.int .i64 x8)] (.one (.sc (.int .i64))) h4 fun r11 h5=>
 (aE.ok [] h5)∧
 aw Tryz.prog (Instr.buildSlice 22 3 #[(0,(.int .i64 r9)),(1,(.int .i64 r10)),(2,(.int .i64 r11))]) (.one (.sc .slc)) h5 fun v12 h6=>
 (aE.ok [] h6)∧
 af Tryz.prog 160 #[(.slice v12.ptr v12.len v12.cap)] (.one (.sc (.int .i64))) h6 fun r13 h7=>
 (aE.ok [] h7)∧
 R (.int .i64 r13) h7
theorem wC (a_0:Int×Int×Int×Int×Int×Int×Int×Sl) (b_1:Int×Int×Int×Int×Int×Int×Int×Sl) {R:Value→Heap→Prop} {h:Heap} (hm:qE a_0 b_1 R h):ae Tryz.prog 189 #[(.agg #[(.int .i64 a_0.1),(.int .i64 a_0.2.1),(.int .i64 a_0.2.2.1),(.int .i64 a_0.2.2.2.1),(.int .i64 a_0.2.2.2.2.1),(.int .i64 a_0.2.2.2.2.2.1),(.int .u32 a_0.2.2.2.2.2.2.1),(.slice a_0.2.2.2.2.2.2.2.ptr a_0.2.2.2.2.2.2.2.len a_0.2.2.2.2.2.2.2.cap)]),(.agg #[(.int .i64 b_1.1),(.int .i64 b_1.2.1),(.int .i64 b_1.2.2.1),(.int .i64 b_1.2.2.2.1),(.int .i64 b_1.2.2.2.2.1),(.int .i64 b_1.2.2.2.2.2.1),(.int .u32 b_1.2.2.2.2.2.2.1),(.slice b_1.2.2.2.2.2.2.2.ptr b_1.2.2.2.2.2.2.2.len b_1.2.2.2.2.2.2.2.cap)])] h R:=al ag Tryz.func189 .n hm
abbrev fM:FuncId:=190
noncomputable def dn (s_0:Sl) (eq_1:FuncId×Array Value×Array Value) (R:Value→Heap→Prop) (h:Heap):Prop:=
 Br (decide (((s_0.len:Nat):Int)<(2:Int)))
 (R (.slice s_0.ptr s_0.len s_0.cap) h)
 (aH (σ:=Int) (fun s1 K1 h1=>
 Br (decide (s1<((s_0.len:Nat):Int)))
 (∃a2:Addr,(s_0.ptr=some a2∧0≤s1∧s1<((s_0.len:Nat):Int))∧
 ∃x3:Int×Int×Int×Int×Int×Int×Int×Sl,ak h1 (a2.add (s1.toNat*8)) 0 [(.int .i64 x3.1),(.int .i64 x3.2.1),(.int .i64 x3.2.2.1),(.int .i64 x3.2.2.2.1),(.int .i64 x3.2.2.2.2.1),(.int .i64 x3.2.2.2.2.2.1),(.int .u32 x3.2.2.2.2.2.2.1),(.slice x3.2.2.2.2.2.2.2.ptr x3.2.2.2.2.2.2.2.len x3.2.2.2.2.2.2.2.cap)]∧
 ∃a4:Addr,(s_0.ptr=some a4∧0≤(IntKind.wrap .i64 (s1-(1:Int)))∧(IntKind.wrap .i64 (s1-(1:Int)))<((s_0.len:Nat):Int))∧
 ∃x5:Int×Int×Int×Int×Int×Int×Int×Sl,ak h1 (a4.add ((IntKind.wrap .i64 (s1-(1:Int))).toNat*8)) 0 [(.int .i64 x5.1),(.int .i64 x5.2.1),(.int .i64 x5.2.2.1),(.int .i64 x5.2.2.2.1),(.int .i64 x5.2.2.2.2.1),(.int .i64 x5.2.2.2.2.2.1),(.int .u32 x5.2.2.2.2.2.2.1),(.slice x5.2.2.2.2.2.2.2.ptr x5.2.2.2.2.2.2.2.len x5.2.2.2.2.2.2.2.cap)]∧
 fS C eq_1.1 (eq_1.2.1.toList++[(.agg #[(.int .i64 x3.1),(.int .i64 x3.2.1),(.int .i64 x3.2.2.1),(.int .i64 x3.2.2.2.1),(.int .i64 x3.2.2.2.2.1),(.int .i64 x3.2.2.2.2.2.1),(.int .u32 x3.2.2.2.2.2.2.1),(.slice x3.2.2.2.2.2.2.2.ptr x3.2.2.2.2.2.2.2.len x3.2.2.2.2.2.2.2.cap)]),(.agg #[(.int .i64 x5.1),(.int .i64 x5.2.1),(.int .i64 x5.2.2.1),(.int .i64 x5.2.2.2.1),(.int .i64 x5.2.2.2.2.1),(.int .i64 x5.2.2.2.2.2.1),(.int .u32 x5.2.2.2.2.2.2.1),(.slice x5.2.2.2.2.2.2.2.ptr x5.2.2.2.2.2.2.2.len x5.2.2.2.2.2.2.2.cap)])]++eq_1.2.2.toList) (.one (.sc .bool)) h1 fun r6 h2=>
 (aE.ok [] h2)∧
 Br r6
 ((0≤s1∧s1≤((s_0.len:Nat):Int))∧
 aH (σ:=Int×Int) (fun s7 K2 h3=>
 Br (decide (s7.2<(((s_0.len-s1.toNat):Nat):Int)))
 (∃a8:Addr,((if s_0.cap=s1.toNat then s_0.ptr else s_0.ptr.map (·.add (s1.toNat*8)))=some a8∧0≤s7.2∧s7.2<(((s_0.len-s1.toNat):Nat):Int))∧
 ∃x9:Int×Int×Int×Int×Int×Int×Int×Sl,ak h3 (a8.add (s7.2.toNat*8)) 0 [(.int .i64 x9.1),(.int .i64 x9.2.1),(.int .i64 x9.2.2.1),(.int .i64 x9.2.2.2.1),(.int .i64 x9.2.2.2.2.1),(.int .i64 x9.2.2.2.2.2.1),(.int .u32 x9.2.2.2.2.2.2.1),(.slice x9.2.2.2.2.2.2.2.ptr x9.2.2.2.2.2.2.2.len x9.2.2.2.2.2.2.2.cap)]∧
 ∃a10:Addr,((if s_0.cap=s1.toNat then s_0.ptr else s_0.ptr.map (·.add (s1.toNat*8)))=some a10∧0≤(IntKind.wrap .i64 (s7.2-(1:Int)))∧(IntKind.wrap .i64 (s7.2-(1:Int)))<(((s_0.len-s1.toNat):Nat):Int))∧
 ∃x11:Int×Int×Int×Int×Int×Int×Int×Sl,ak h3 (a10.add ((IntKind.wrap .i64 (s7.2-(1:Int))).toNat*8)) 0 [(.int .i64 x11.1),(.int .i64 x11.2.1),(.int .i64 x11.2.2.1),(.int .i64 x11.2.2.2.1),(.int .i64 x11.2.2.2.2.1),(.int .i64 x11.2.2.2.2.2.1),(.int .u32 x11.2.2.2.2.2.2.1),(.slice x11.2.2.2.2.2.2.2.ptr x11.2.2.2.2.2.2.2.len x11.2.2.2.2.2.2.2.cap)]∧
 fS C eq_1.1 (eq_1.2.1.toList++[(.agg #[(.int .i64 x9.1),(.int .i64 x9.2.1),(.int .i64 x9.2.2.1),(.int .i64 x9.2.2.2.1),(.int .i64 x9.2.2.2.2.1),(.int .i64 x9.2.2.2.2.2.1),(.int .u32 x9.2.2.2.2.2.2.1),(.slice x9.2.2.2.2.2.2.2.ptr x9.2.2.2.2.2.2.2.len x9.2.2.2.2.2.2.2.cap)]),(.agg #[(.int .i64 x11.1),(.int .i64 x11.2.1),(.int .i64 x11.2.2.1),(.int .i64 x11.2.2.2.1),(.int .i64 x11.2.2.2.2.1),(.int .i64 x11.2.2.2.2.2.1),(.int .u32 x11.2.2.2.2.2.2.1),(.slice x11.2.2.2.2.2.2.2.ptr x11.2.2.2.2.2.2.2.len x11.2.2.2.2.2.2.2.cap)])]++eq_1.2.2.toList) (.one (.sc .bool)) h3 fun r12 h4=>
 (aE.ok [] h4)∧
 Br (!r12)
 (∃a13:Addr,((if s_0.cap=s1.toNat then s_0.ptr else s_0.ptr.map (·.add (s1.toNat*8)))=some a13∧0≤s7.2∧s7.2<(((s_0.len-s1.toNat):Nat):Int))∧
 ∃x14:Int×Int×Int×Int×Int×Int×Int×Sl,ak h4 (a13.add (s7.2.toNat*8)) 0 [(.int .i64 x14.1),(.int .i64 x14.2.1),(.int .i64 x14.2.2.1),(.int .i64 x14.2.2.2.1),(.int .i64 x14.2.2.2.2.1),(.int .i64 x14.2.2.2.2.2.1),(.int .u32 x14.2.2.2.2.2.2.1),(.slice x14.2.2.2.2.2.2.2.ptr x14.2.2.2.2.2.2.2.len x14.2.2.2.2.2.2.2.cap)]∧
 ∃a15:Addr,(s_0.ptr=some a15∧0≤s7.1∧s7.1<((s_0.len:Nat):Int))∧
 ab Tryz.prog (Instr.storeAt 164 (.pointer (some (a15.add (s7.1.toNat*8)))) (.agg #[(.int .i64 x14.1),(.int .i64 x14.2.1),(.int .i64 x14.2.2.1),(.int .i64 x14.2.2.2.1),(.int .i64 x14.2.2.2.2.1),(.int .i64 x14.2.2.2.2.2.1),(.int .u32 x14.2.2.2.2.2.2.1),(.slice x14.2.2.2.2.2.2.2.ptr x14.2.2.2.2.2.2.2.len x14.2.2.2.2.2.2.2.cap)])) h4 fun _ h5=>
 K2 (IntKind.wrap .i64 (s7.1+(1:Int)),IntKind.wrap .i64 (s7.2+(1:Int))) h5)
 (K2 (s7.1,IntKind.wrap .i64 (s7.2+(1:Int))) h4))
 ((0≤s7.1∧s7.1≤((s_0.len:Nat):Int))∧
 ab Tryz.prog (Builtin.clear_ #[195] 0 #[(.slice (if s_0.cap=s7.1.toNat then s_0.ptr else s_0.ptr.map (·.add (s7.1.toNat*8))) (s_0.len-s7.1.toNat) (s_0.cap-s7.1.toNat))]) h3 fun _ h6=>
 (0≤s7.1∧s7.1≤((s_0.cap:Nat):Int))∧
 R (.slice s_0.ptr s7.1.toNat s_0.cap) h6)) (s1,(1:Int)) h2)
 (K1 (IntKind.wrap .i64 (s1+(1:Int))) h2))
 (R (.slice s_0.ptr s_0.len s_0.cap) h1)) (1:Int) h)
theorem fF (s_0:Sl) (eq_1:FuncId×Array Value×Array Value) {R:Value→Heap→Prop} {h:Heap} (hm:dn s_0 eq_1 R h):ae Tryz.prog 190 #[(.slice s_0.ptr s_0.len s_0.cap),(.func (.func eq_1.1) eq_1.2.1 eq_1.2.2)] h R:=al ag Tryz.func190 (.two .n (.two .n (.two (.two .n (.inn (.loop [(5,(.sc (.int .i64)))] [(4,8),(12,65)] (.two .n (.two (.inn (.two .n (.two (.two .n (.two (.two .n (.inn (.loop [(5,(.sc (.int .i64))),(7,(.sc (.int .i64)))] [(5,6),(7,8),(32,59)] .n))) .n)) .n))) .n))))) .n))) hm
abbrev iw:FuncId:=191
noncomputable def lT (a_0:Int×Int×Int×Int×Int×Int×Int×Sl) (b_1:Int×Int×Int×Int×Int×Int×Int×Sl) (R:Value→Heap→Prop) (h:Heap):Prop:=
 aU Tryz.prog (Instr.box 164 (.agg #[(.int .i64 a_0.1),(.int .i64 a_0.2.1),(.int .i64 a_0.2.2.1),(.int .i64 a_0.2.2.2.1),(.int .i64 a_0.2.2.2.2.1),(.int .i64 a_0.2.2.2.2.2.1),(.int .u32 a_0.2.2.2.2.2.2.1),(.slice a_0.2.2.2.2.2.2.2.ptr a_0.2.2.2.2.2.2.2.len a_0.2.2.2.2.2.2.2.cap)])) h fun a1 h1=>
 aU Tryz.prog (Instr.box 164 (.agg #[(.int .i64 b_1.1),(.int .i64 b_1.2.1),(.int .i64 b_1.2.2.1),(.int .i64 b_1.2.2.2.1),(.int .i64 b_1.2.2.2.2.1),(.int .i64 b_1.2.2.2.2.2.1),(.int .u32 b_1.2.2.2.2.2.2.1),(.slice b_1.2.2.2.2.2.2.2.ptr b_1.2.2.2.2.2.2.2.len b_1.2.2.2.2.2.2.2.cap)])) h1 fun a2 h2=>
 ∃x3:Int×Int×Int×Int×Int×Int×Int×Sl,ak h2 a1 0 [(.int .i64 x3.1),(.int .i64 x3.2.1),(.int .i64 x3.2.2.1),(.int .i64 x3.2.2.2.1),(.int .i64 x3.2.2.2.2.1),(.int .i64 x3.2.2.2.2.2.1),(.int .u32 x3.2.2.2.2.2.2.1),(.slice x3.2.2.2.2.2.2.2.ptr x3.2.2.2.2.2.2.2.len x3.2.2.2.2.2.2.2.cap)]∧
 ∃x4:Int×Int×Int×Int×Int×Int×Int×Sl,ak h2 a2 0 [(.int .i64 x4.1),(.int .i64 x4.2.1),(.int .i64 x4.2.2.1),(.int .i64 x4.2.2.2.1),(.int .i64 x4.2.2.2.2.1),(.int .i64 x4.2.2.2.2.2.1),(.int .u32 x4.2.2.2.2.2.2.1),(.slice x4.2.2.2.2.2.2.2.ptr x4.2.2.2.2.2.2.2.len x4.2.2.2.2.2.2.2.cap)]∧
 af Tryz.prog 189 #[(.agg #[(.int .i64 x3.1),(.int .i64 x3.2.1),(.int .i64 x3.2.2.1),(.int .i64 x3.2.2.2.1),(.int .i64 x3.2.2.2.2.1),(.int .i64 x3.2.2.2.2.2.1),(.int .u32 x3.2.2.2.2.2.2.1),(.slice x3.2.2.2.2.2.2.2.ptr x3.2.2.2.2.2.2.2.len x3.2.2.2.2.2.2.2.cap)]),(.agg #[(.int .i64 x4.1),(.int .i64 x4.2.1),(.int .i64 x4.2.2.1),(.int .i64 x4.2.2.2.1),(.int .i64 x4.2.2.2.2.1),(.int .i64 x4.2.2.2.2.2.1),(.int .u32 x4.2.2.2.2.2.2.1),(.slice x4.2.2.2.2.2.2.2.ptr x4.2.2.2.2.2.2.2.len x4.2.2.2.2.2.2.2.cap)])] (.one (.sc (.int .i64))) h2 fun r5 h3=>
 R (.bool (r5==(0:Int))) h3
theorem qF (a_0:Int×Int×Int×Int×Int×Int×Int×Sl) (b_1:Int×Int×Int×Int×Int×Int×Int×Sl) {R:Value→Heap→Prop} {h:Heap} (hm:lT a_0 b_1 R h):ae Tryz.prog 191 #[(.agg #[(.int .i64 a_0.1),(.int .i64 a_0.2.1),(.int .i64 a_0.2.2.1),(.int .i64 a_0.2.2.2.1),(.int .i64 a_0.2.2.2.2.1),(.int .i64 a_0.2.2.2.2.2.1),(.int .u32 a_0.2.2.2.2.2.2.1),(.slice a_0.2.2.2.2.2.2.2.ptr a_0.2.2.2.2.2.2.2.len a_0.2.2.2.2.2.2.2.cap)]),(.agg #[(.int .i64 b_1.1),(.int .i64 b_1.2.1),(.int .i64 b_1.2.2.1),(.int .i64 b_1.2.2.2.1),(.int .i64 b_1.2.2.2.2.1),(.int .i64 b_1.2.2.2.2.2.1),(.int .u32 b_1.2.2.2.2.2.2.1),(.slice b_1.2.2.2.2.2.2.2.ptr b_1.2.2.2.2.2.2.2.len b_1.2.2.2.2.2.2.2.cap)])] h R:=al ag Tryz.func191 .n hm
end Go.Proofs.YtkciobclldnoiaaGreatDoor
