/- Part of the proofs that the laws of this seat answer true whatever the input reads, and leave it as it was; no condition. -/
import Derived.Test.YtkciobclldnoiaaGreatDoorTabA
set_option linter.unusedVariables false
set_option linter.unusedSimpArgs false
namespace Go.Proofs.YtkciobclldnoiaaGreatDoor
open Go Go.Vc Go.Proofs
set_option maxRecDepth 1000000
abbrev wh:FuncId:=88
noncomputable def oS (p_0:Int×Int×Int) (seed_1:Int) (where_2:Sl) (R:Value→Heap→Prop) (h:Heap):Prop:=
 aU Tryz.prog (Instr.box 24 (.agg #[(.int .i64 p_0.1),(.int .i64 p_0.2.1),(.int .i64 p_0.2.2)])) h fun a1 h1=>
 aH (σ:=Sl×Int) (fun s2 K1 h2=>
 Br (decide (s2.2<((where_2.len:Nat):Int)))
 (∃a3:Addr,(where_2.ptr=some a3∧0≤s2.2∧s2.2<((where_2.len:Nat):Int))∧
 ∃x4:Sl,cellOf h2 (a3.add (s2.2.toNat*1))=some (.slice x4.ptr x4.len x4.cap)∧
 aH (σ:=Sl×Int) (fun s5 K2 h3=>
 Br (decide (s5.2<((x4.len:Nat):Int)))
 (∃a6:Addr,(x4.ptr=some a6∧0≤s5.2∧s5.2<((x4.len:Nat):Int))∧
 ∃x7:Int,cellOf h3 (a6.add (s5.2.toNat*1))=some (.int .i64 x7)∧
 ∃x8:Int×Int×Int,ak h3 a1 0 [(.int .i64 x8.1),(.int .i64 x8.2.1),(.int .i64 x8.2.2)]∧
 af Tryz.prog 137 #[(.agg #[(.int .i64 x8.1),(.int .i64 x8.2.1),(.int .i64 x8.2.2)]),(.int .u32 seed_1),(.int .i64 x7)] (.one (.sc .slc)) h3 fun r9 h4=>
 Br (!(Option.isNone r9.ptr))
 (aw Tryz.prog (Instr.buildSlice 70 1 #[(0,(.slice r9.ptr r9.len r9.cap))]) (.one (.sc .slc)) h4 fun v10 h5=>
 aw Tryz.prog (Builtin.append_ #[70,70] 70 #[(.slice s5.1.ptr s5.1.len s5.1.cap),(.slice v10.ptr v10.len v10.cap)]) (.one (.sc .slc)) h5 fun v11 h6=>
 K2 ((⟨v11.ptr,v11.len,v11.cap⟩:Sl),IntKind.wrap .i64 (s5.2+(1:Int))) h6)
 (K2 ((⟨s5.1.ptr,s5.1.len,s5.1.cap⟩:Sl),IntKind.wrap .i64 (s5.2+(1:Int))) h4))
 (aw Tryz.prog (Instr.buildSlice 141 1 #[(0,(.slice s5.1.ptr s5.1.len s5.1.cap))]) (.one (.sc .slc)) h3 fun v12 h7=>
 aw Tryz.prog (Builtin.append_ #[141,141] 141 #[(.slice s2.1.ptr s2.1.len s2.1.cap),(.slice v12.ptr v12.len v12.cap)]) (.one (.sc .slc)) h7 fun v13 h8=>
 K1 ((⟨v13.ptr,v13.len,v13.cap⟩:Sl),IntKind.wrap .i64 (s2.2+(1:Int))) h8)) ((⟨none,0,0⟩:Sl),(0:Int)) h2)
 (R (.slice s2.1.ptr s2.1.len s2.1.cap) h2)) ((⟨none,0,0⟩:Sl),(0:Int)) h1
theorem uF (p_0:Int×Int×Int) (seed_1:Int) (where_2:Sl) {R:Value→Heap→Prop} {h:Heap} (hm:oS p_0 seed_1 where_2 R h):ae Tryz.prog 88 #[(.agg #[(.int .i64 p_0.1),(.int .i64 p_0.2.1),(.int .i64 p_0.2.2)]),(.int .u32 seed_1),(.slice where_2.ptr where_2.len where_2.cap)] h R:=al ag Tryz.func88 (.two .n (.two .n (.two (.two .n (.inn (.loop [(7,(.sc .slc)),(16,(.sc (.int .i64)))] [(7,8),(9,11),(12,14),(16,42)] (.two .n (.two .n (.two (.inn (.two .n (.two .n (.two (.two .n (.inn (.loop [(10,(.sc .slc)),(22,(.sc (.int .i64)))] [(10,11),(12,14),(22,37)] .n))) .n)))) .n)))))) .n))) hm
abbrev wi:FuncId:=89
noncomputable def oT (ahead_0:Option Addr) (l_1:Sl) (gone_2:Sl) (cols_3:Int) (R:Value→Heap→Prop) (h:Heap):Prop:=
 af Tryz.prog 138 #[(.pointer ahead_0)] (.one (.sc .ptr)) h fun r1 h1=>
 aH (σ:=Int) (fun s2 K1 h2=>
 Br (decide (s2<((l_1.len:Nat):Int)))
 (∃a3:Addr,(l_1.ptr=some a3∧0≤s2∧s2<((l_1.len:Nat):Int))∧
 ∃x4:Sl,cellOf h2 (a3.add (s2.toNat*1))=some (.slice x4.ptr x4.len x4.cap)∧
 af Tryz.prog 139 #[(.slice gone_2.ptr gone_2.len gone_2.cap),(.int .i64 s2)] (.one (.sc .bool)) h2 fun r5 h3=>
 Br r5
 (K1 (IntKind.wrap .i64 (s2+(1:Int))) h3)
 (aH (σ:=Int) (fun s6 K2 h4=>
 Br (decide (s6<((x4.len:Nat):Int)))
 (∃a7:Addr,(x4.ptr=some a7∧0≤s6∧s6<((x4.len:Nat):Int))∧
 ∃x8:Sl,cellOf h4 (a7.add (s6.toNat*1))=some (.slice x8.ptr x8.len x8.cap)∧
 af Tryz.prog 140 #[(.pointer r1)] (.one (.sc (.int .i64))) h4 fun r9 h5=>
 Br (r9==cols_3)
 (R (.bool true) h5)
 (af Tryz.prog 87 #[(.pointer r1),(.slice x8.ptr x8.len x8.cap)] (.one (.sc .bool)) h5 fun _ h6=>
 K2 (IntKind.wrap .i64 (s6+(1:Int))) h6))
 (K1 (IntKind.wrap .i64 (s2+(1:Int))) h4)) (0:Int) h3))
 (af Tryz.prog 140 #[(.pointer r1)] (.one (.sc (.int .i64))) h2 fun r11 h7=>
 R (.bool (r11==cols_3)) h7)) (0:Int) h1
theorem uG (ahead_0:Option Addr) (l_1:Sl) (gone_2:Sl) (cols_3:Int) {R:Value→Heap→Prop} {h:Heap} (hm:oT ahead_0 l_1 gone_2 cols_3 R h):ae Tryz.prog 89 #[(.pointer ahead_0),(.slice l_1.ptr l_1.len l_1.cap),(.slice gone_2.ptr gone_2.len gone_2.cap),(.int .i64 cols_3)] h R:=al ag Tryz.func89 (.two .n (.two .n (.two (.two .n (.inn (.loop [(18,(.sc (.int .i64)))] [(8,9),(10,12),(13,14),(18,41)] (.two .n (.two .n (.two (.inn (.two .n (.two .n (.two .n (.inn (.loop [(28,(.sc (.int .i64)))] [(8,9),(13,14),(28,40)] .n)))))) .n)))))) .n))) hm
abbrev wj:FuncId:=90
noncomputable def oU (at_0:FuncId×Array Value×Array Value) (slots_1:Sl) (m_2:Int×Int×Int×Int×Int×Int×Sl×Sl) (object_3:Int) (block_4:Int) (R:Value→Heap→Prop) (h:Heap):Prop:=
 aU Tryz.prog (Instr.box 41 (.agg #[(.int .i64 m_2.1),(.int .i64 m_2.2.1),(.int .i64 m_2.2.2.1),(.int .i64 m_2.2.2.2.1),(.int .i64 m_2.2.2.2.2.1),(.int .i64 m_2.2.2.2.2.2.1),(.slice m_2.2.2.2.2.2.2.1.ptr m_2.2.2.2.2.2.2.1.len m_2.2.2.2.2.2.2.1.cap),(.slice m_2.2.2.2.2.2.2.2.ptr m_2.2.2.2.2.2.2.2.len m_2.2.2.2.2.2.2.2.cap)])) h fun a1 h1=>
 aH (σ:=Sl×Int) (fun s2 K1 h2=>
 Br (decide (s2.2<((slots_1.len:Nat):Int)))
 (∃a3:Addr,(slots_1.ptr=some a3∧0≤s2.2∧s2.2<((slots_1.len:Nat):Int))∧
 ∃x4:Int,cellOf h2 (a3.add (s2.2.toNat*1))=some (.int .i64 x4)∧
 ba (σ:=Sl×Int×Int) (fun s8 h5=>
 aH (σ:=Sl×Int) (fun s9 K3 h6=>
 Br (decide (s9.2<s8.2.1))
 (∃a10:Addr,(s8.1.ptr=some a10∧0≤s9.2∧s9.2<((s8.1.len:Nat):Int))∧
 ∃x11:Int×Int×Int×Int×Int×Int×Int×Sl,ak h6 (a10.add (s9.2.toNat*8)) 0 [(.int .i64 x11.1),(.int .i64 x11.2.1),(.int .i64 x11.2.2.1),(.int .i64 x11.2.2.2.1),(.int .i64 x11.2.2.2.2.1),(.int .i64 x11.2.2.2.2.2.1),(.int .u32 x11.2.2.2.2.2.2.1),(.slice x11.2.2.2.2.2.2.2.ptr x11.2.2.2.2.2.2.2.len x11.2.2.2.2.2.2.2.cap)]∧
 aU Tryz.prog (Instr.alloc 164 true (.tuple #[])) h6 fun a12 h7=>
 ab Tryz.prog (Instr.storeAt 164 (.pointer (some a12)) (.agg #[(.int .i64 x11.1),(.int .i64 x11.2.1),(.int .i64 x11.2.2.1),(.int .i64 x11.2.2.2.1),(.int .i64 x11.2.2.2.2.1),(.int .i64 x11.2.2.2.2.2.1),(.int .u32 x11.2.2.2.2.2.2.1),(.slice x11.2.2.2.2.2.2.2.ptr x11.2.2.2.2.2.2.2.len x11.2.2.2.2.2.2.2.cap)])) h7 fun _ h8=>
 ∃x13:Int,cellOf h8 a12=some (.int .i64 x13)∧
 Br (x13==object_3) (∃x14:Int,cellOf h8 (a12.add 1)=some (.int .i64 x14)∧
 Br (x14==block_4)
 (∃x15:Int,cellOf h8 (a12.add 2)=some (.int .i64 x15)∧
 ∃x16:Sl,cellOf h8 (a12.add 7)=some (.slice x16.ptr x16.len x16.cap)∧
 aw Tryz.prog (Instr.buildSlice 144 1 #[(0,(.agg #[(.int .i64 x15),(.slice x16.ptr x16.len x16.cap)]))]) (.one (.sc .slc)) h8 fun v17 h9=>
 aw Tryz.prog (Builtin.append_ #[144,144] 144 #[(.slice s9.1.ptr s9.1.len s9.1.cap),(.slice v17.ptr v17.len v17.cap)]) (.one (.sc .slc)) h9 fun v18 h10=>
 K3 ((⟨v18.ptr,v18.len,v18.cap⟩:Sl),IntKind.wrap .i64 (s9.2+(1:Int))) h10)
 (K3 ((⟨s9.1.ptr,s9.1.len,s9.1.cap⟩:Sl),IntKind.wrap .i64 (s9.2+(1:Int))) h8)) (K3 ((⟨s9.1.ptr,s9.1.len,s9.1.cap⟩:Sl),IntKind.wrap .i64 (s9.2+(1:Int))) h8))
 (K1 ((⟨s9.1.ptr,s9.1.len,s9.1.cap⟩:Sl),IntKind.wrap .i64 (s2.2+(1:Int))) h6)) ((⟨s2.1.ptr,s2.1.len,s2.1.cap⟩:Sl),s8.2.2) h5)
 (fun K2=>
 ∃x5:Int×Int×Int×Int×Int×Int×Sl×Sl,ak h2 a1 0 [(.int .i64 x5.1),(.int .i64 x5.2.1),(.int .i64 x5.2.2.1),(.int .i64 x5.2.2.2.1),(.int .i64 x5.2.2.2.2.1),(.int .i64 x5.2.2.2.2.2.1),(.slice x5.2.2.2.2.2.2.1.ptr x5.2.2.2.2.2.2.1.len x5.2.2.2.2.2.2.1.cap),(.slice x5.2.2.2.2.2.2.2.ptr x5.2.2.2.2.2.2.2.len x5.2.2.2.2.2.2.2.cap)]∧
 fS C at_0.1 (at_0.2.1.toList++[(.int .i64 x4)]++at_0.2.2.toList) (.one (.sc .ptr)) h2 fun r6 h3=>
 (aE.ok [(a1,(.int .i64 x5.1)),(a1.add 1,(.int .i64 x5.2.1)),(a1.add 2,(.int .i64 x5.2.2.1)),(a1.add 3,(.int .i64 x5.2.2.2.1)),(a1.add 4,(.int .i64 x5.2.2.2.2.1)),(a1.add 5,(.int .i64 x5.2.2.2.2.2.1)),(a1.add 6,(.slice x5.2.2.2.2.2.2.1.ptr x5.2.2.2.2.2.2.1.len x5.2.2.2.2.2.2.1.cap)),(a1.add 7,(.slice x5.2.2.2.2.2.2.2.ptr x5.2.2.2.2.2.2.2.len x5.2.2.2.2.2.2.2.cap))] h3)∧
 af Tryz.prog 141 #[(.pointer r6),(.agg #[(.int .i64 x5.1),(.int .i64 x5.2.1),(.int .i64 x5.2.2.1),(.int .i64 x5.2.2.2.1),(.int .i64 x5.2.2.2.2.1),(.int .i64 x5.2.2.2.2.2.1),(.slice x5.2.2.2.2.2.2.1.ptr x5.2.2.2.2.2.2.1.len x5.2.2.2.2.2.2.1.cap),(.slice x5.2.2.2.2.2.2.2.ptr x5.2.2.2.2.2.2.2.len x5.2.2.2.2.2.2.2.cap)])] (.one (.sc .slc)) h3 fun r7 h4=>
 (aE.ok [] h4)∧
 K2 ((⟨r7.ptr,r7.len,r7.cap⟩:Sl),((r7.len:Nat):Int),(0:Int)) h4))
 (R (.slice s2.1.ptr s2.1.len s2.1.cap) h2)) ((⟨none,0,0⟩:Sl),(0:Int)) h1
theorem uH (at_0:FuncId×Array Value×Array Value) (slots_1:Sl) (m_2:Int×Int×Int×Int×Int×Int×Sl×Sl) (object_3:Int) (block_4:Int) {R:Value→Heap→Prop} {h:Heap} (hm:oU at_0 slots_1 m_2 object_3 block_4 R h):ae Tryz.prog 90 #[(.func (.func at_0.1) at_0.2.1 at_0.2.2),(.slice slots_1.ptr slots_1.len slots_1.cap),(.agg #[(.int .i64 m_2.1),(.int .i64 m_2.2.1),(.int .i64 m_2.2.2.1),(.int .i64 m_2.2.2.2.1),(.int .i64 m_2.2.2.2.2.1),(.int .i64 m_2.2.2.2.2.2.1),(.slice m_2.2.2.2.2.2.2.1.ptr m_2.2.2.2.2.2.2.1.len m_2.2.2.2.2.2.2.1.cap),(.slice m_2.2.2.2.2.2.2.2.ptr m_2.2.2.2.2.2.2.2.len m_2.2.2.2.2.2.2.2.cap)]),(.int .i64 object_3),(.int .i64 block_4)] h R:=al ag Tryz.func90 (.two .n (.two .n (.two (.two .n (.inn (.loop [(11,(.sc .slc)),(18,(.sc (.int .i64)))] [(11,12),(13,14),(15,16),(18,52)] (.two .n (.two .n (.two (.inn (.two .n (.two (.join [(26,(.sc .slc)),(27,(.sc (.int .i64))),(28,(.sc (.int .i64)))] [(22,29)] .n) (.inn (.loop [(11,(.sc .slc)),(28,(.sc (.int .i64)))] [(11,12),(15,16),(28,51)] .n))))) .n)))))) .n))) hm
noncomputable def fc (s_0:Sl) (f_1:FuncId×Array Value×Array Value) (R:Value→Heap→Prop) (h:Heap):Prop:=
 aH (σ:=Int) (fun s1 K1 h1=>
 Br (decide (s1<((s_0.len:Nat):Int)))
 (∃a2:Addr,(s_0.ptr=some a2∧0≤s1∧s1<((s_0.len:Nat):Int))∧
 ∃x3:ByteArray,cellOf h1 (a2.add (s1.toNat*1))=some (.string x3)∧
 fS C f_1.1 (f_1.2.1.toList++[(.string x3)]++f_1.2.2.toList) (.one (.sc .bool)) h1 fun r4 h2=>
 Br r4
 (R (.int .i64 s1) h2)
 (K1 (IntKind.wrap .i64 (s1+(1:Int))) h2))
 (R (.int .i64 (-1:Int)) h1)) (0:Int) h
theorem iv (s_0:Sl) (f_1:FuncId×Array Value×Array Value) {R:Value→Heap→Prop} {h:Heap} (hm:fc s_0 f_1 R h):ae Tryz.prog 91 #[(.slice s_0.ptr s_0.len s_0.cap),(.func (.func f_1.1) f_1.2.1 f_1.2.2)] h R:=al ag Tryz.func91 (.two .n (.two (.two .n (.inn (.loop [(8,(.sc (.int .i64)))] [(4,6),(8,19)] .n))) .n)) hm
abbrev qo:FuncId:=92
noncomputable def kL (s_0:Option Addr) (R:Value→Heap→Prop) (h:Heap):Prop:=
 Br (Option.isNone s_0) (R (.bool true) h) (af Tryz.prog 72 #[(.pointer s_0)] (.one (.sc .bool)) h fun r1 h1=>
 R (.bool r1) h1)
theorem pn (s_0:Option Addr) {R:Value→Heap→Prop} {h:Heap} (hm:kL s_0 R h):ae Tryz.prog 92 #[(.pointer s_0)] h R:=al ag Tryz.func92 .n hm
abbrev wk:FuncId:=98
noncomputable def oV (b_0:Sl) (R:Value→Heap→Prop) (h:Heap):Prop:=
 Br (Option.isNone b_0.ptr)
 (R (.slice none 0 0) h)
 (aw Tryz.prog (Instr.buildSlice 53 0 #[]) (.one (.sc .slc)) h fun v1 h1=>
 aw Tryz.prog (Builtin.append_ #[53,53] 53 #[(.slice v1.ptr v1.len v1.cap),(.slice b_0.ptr b_0.len b_0.cap)]) (.one (.sc .slc)) h1 fun v2 h2=>
 R (.slice v2.ptr v2.len v2.cap) h2)
theorem uI (b_0:Sl) {R:Value→Heap→Prop} {h:Heap} (hm:oV b_0 R h):ae Tryz.prog 98 #[(.slice b_0.ptr b_0.len b_0.cap)] h R:=al ag Tryz.func98 .n hm
abbrev zR:FuncId:=99
noncomputable def sh (s_0:ByteArray) (R:Value→Heap→Prop) (h:Heap):Prop:=
 aw Tryz.prog (convert 9 53 (.string s_0)) (.one (.sc .slc)) h fun v1 h1=>
 aH (σ:=Int) (fun s2 K1 h2=>
 Br (decide (s2<((v1.len:Nat):Int)))
 (∃a3:Addr,(v1.ptr=some a3∧0≤s2∧s2<((v1.len:Nat):Int))∧
 ∃x4:Int,cellOf h2 (a3.add (s2.toNat*1))=some (.int .u8 x4)∧
 Br (decide (x4<(97:Int))) (Br (decide (x4<(48:Int))) (Br (x4 !=(45:Int))
 (R (.bool false) h2)
 (K1 (IntKind.wrap .i64 (s2+(1:Int))) h2)) (Br (decide (x4>(57:Int))) (Br (x4 !=(45:Int))
 (R (.bool false) h2)
 (K1 (IntKind.wrap .i64 (s2+(1:Int))) h2)) (K1 (IntKind.wrap .i64 (s2+(1:Int))) h2))) (Br (decide (x4>(122:Int))) (Br (decide (x4<(48:Int))) (Br (x4 !=(45:Int))
 (R (.bool false) h2)
 (K1 (IntKind.wrap .i64 (s2+(1:Int))) h2)) (Br (decide (x4>(57:Int))) (Br (x4 !=(45:Int))
 (R (.bool false) h2)
 (K1 (IntKind.wrap .i64 (s2+(1:Int))) h2)) (K1 (IntKind.wrap .i64 (s2+(1:Int))) h2))) (K1 (IntKind.wrap .i64 (s2+(1:Int))) h2)))
 (Br (decide (((s_0.size:Nat):Int)≥(1:Int))) (R (.bool (decide (((s_0.size:Nat):Int)≤(12:Int)))) h2) (R (.bool false) h2))) (0:Int) h1
theorem xX (s_0:ByteArray) {R:Value→Heap→Prop} {h:Heap} (hm:sh s_0 R h):ae Tryz.prog 99 #[(.string s_0)] h R:=al ag Tryz.func99 (.two .n (.two (.two .n (.inn (.loop [(8,(.sc (.int .i64)))] [(2,3),(4,5),(8,31)] .n))) .n)) hm
noncomputable def qp (p_0:Int×Int×Int) (R:Value→Heap→Prop) (h:Heap):Prop:=
 aU Tryz.prog (Instr.box 24 (.agg #[(.int .i64 p_0.1),(.int .i64 p_0.2.1),(.int .i64 p_0.2.2)])) h fun a1 h1=>
 ∃x2:Int,cellOf h1 a1=some (.int .i64 x2)∧
 ∃x3:Int,cellOf h1 (a1.add 2)=some (.int .i64 x3)∧
 R (.int .i64 (IntKind.wrap .i64 (x2*x3))) h1
theorem wm (p_0:Int×Int×Int) {R:Value→Heap→Prop} {h:Heap} (hm:qp p_0 R h):ae Tryz.prog 101 #[(.agg #[(.int .i64 p_0.1),(.int .i64 p_0.2.1),(.int .i64 p_0.2.2)])] h R:=al ag Tryz.func101 .n hm
abbrev xY:FuncId:=107
noncomputable def qq (r_0:Int×Int×Int×Int×Int×Int×Int×Sl) (R:Value→Heap→Prop) (h:Heap):Prop:=
 aU Tryz.prog (Instr.box 164 (.agg #[(.int .i64 r_0.1),(.int .i64 r_0.2.1),(.int .i64 r_0.2.2.1),(.int .i64 r_0.2.2.2.1),(.int .i64 r_0.2.2.2.2.1),(.int .i64 r_0.2.2.2.2.2.1),(.int .u32 r_0.2.2.2.2.2.2.1),(.slice r_0.2.2.2.2.2.2.2.ptr r_0.2.2.2.2.2.2.2.len r_0.2.2.2.2.2.2.2.cap)])) h fun a1 h1=>
 ∃x2:Int×Int×Int×Int×Int×Int×Int×Sl,ak h1 a1 0 [(.int .i64 x2.1),(.int .i64 x2.2.1),(.int .i64 x2.2.2.1),(.int .i64 x2.2.2.2.1),(.int .i64 x2.2.2.2.2.1),(.int .i64 x2.2.2.2.2.2.1),(.int .u32 x2.2.2.2.2.2.2.1),(.slice x2.2.2.2.2.2.2.2.ptr x2.2.2.2.2.2.2.2.len x2.2.2.2.2.2.2.2.cap)]∧
 af Tryz.prog 163 #[(.agg #[(.int .i64 x2.1),(.int .i64 x2.2.1),(.int .i64 x2.2.2.1),(.int .i64 x2.2.2.2.1),(.int .i64 x2.2.2.2.2.1),(.int .i64 x2.2.2.2.2.2.1),(.int .u32 x2.2.2.2.2.2.2.1),(.slice x2.2.2.2.2.2.2.2.ptr x2.2.2.2.2.2.2.2.len x2.2.2.2.2.2.2.2.cap)])] (.one (.sc .bool)) h1 fun r3 h2=>
 Br (!r3)
 (R (.slice none 0 0) h2)
 (∃x4:Int,cellOf h2 a1=some (.int .i64 x4)∧
 af Tryz.prog 164 #[(.slice none 0 0),(.int .i64 x4),(.int .i64 (3:Int))] (.one (.sc .slc)) h2 fun r5 h3=>
 ∃x6:Int,cellOf h3 (a1.add 1)=some (.int .i64 x6)∧
 af Tryz.prog 164 #[(.slice r5.ptr r5.len r5.cap),(.int .i64 x6),(.int .i64 (1:Int))] (.one (.sc .slc)) h3 fun r7 h4=>
 ∃x8:Int,cellOf h4 (a1.add 2)=some (.int .i64 x8)∧
 af Tryz.prog 164 #[(.slice r7.ptr r7.len r7.cap),(.int .i64 x8),(.int .i64 (2:Int))] (.one (.sc .slc)) h4 fun r9 h5=>
 ∃x10:Int,cellOf h5 (a1.add 3)=some (.int .i64 x10)∧
 ∃x11:Int,cellOf h5 ((a1.add 3).add 1)=some (.int .i64 x11)∧
 ∃x12:Int,cellOf h5 ((a1.add 3).add 2)=some (.int .i64 x12)∧
 aw Tryz.prog (Instr.buildSlice 53 3 #[(0,(.int .u8 (IntKind.wrap .u8 x10))),(1,(.int .u8 (IntKind.wrap .u8 x11))),(2,(.int .u8 (IntKind.wrap .u8 x12)))]) (.one (.sc .slc)) h5 fun v13 h6=>
 aw Tryz.prog (Builtin.append_ #[53,53] 53 #[(.slice r9.ptr r9.len r9.cap),(.slice v13.ptr v13.len v13.cap)]) (.one (.sc .slc)) h6 fun v14 h7=>
 ∃x15:Int,cellOf h7 (a1.add 6)=some (.int .u32 x15)∧
 af Tryz.prog 164 #[(.slice v14.ptr v14.len v14.cap),(.int .i64 (IntKind.wrap .i64 x15)),(.int .i64 (4:Int))] (.one (.sc .slc)) h7 fun r16 h8=>
 ∃x17:Sl,cellOf h8 (a1.add 7)=some (.slice x17.ptr x17.len x17.cap)∧
 aw Tryz.prog (Builtin.append_ #[53,53] 53 #[(.slice r16.ptr r16.len r16.cap),(.slice x17.ptr x17.len x17.cap)]) (.one (.sc .slc)) h8 fun v18 h9=>
 af Tryz.prog 123 #[(.int .i64 (1:Int)),(.slice v18.ptr v18.len v18.cap)] (.one (.sc .slc)) h9 fun r19 h10=>
 R (.slice r19.ptr r19.len r19.cap) h10)
theorem wo (r_0:Int×Int×Int×Int×Int×Int×Int×Sl) {R:Value→Heap→Prop} {h:Heap} (hm:qq r_0 R h):ae Tryz.prog 107 #[(.agg #[(.int .i64 r_0.1),(.int .i64 r_0.2.1),(.int .i64 r_0.2.2.1),(.int .i64 r_0.2.2.2.1),(.int .i64 r_0.2.2.2.2.1),(.int .i64 r_0.2.2.2.2.2.1),(.int .u32 r_0.2.2.2.2.2.2.1),(.slice r_0.2.2.2.2.2.2.2.ptr r_0.2.2.2.2.2.2.2.len r_0.2.2.2.2.2.2.2.cap)])] h R:=al ag Tryz.func107 .n hm
abbrev jv:FuncId:=111
noncomputable def fL (s_0:Sl) (f_1:FuncId×Array Value×Array Value) (R:Value→Heap→Prop) (h:Heap):Prop:=
 af Tryz.prog 168 #[(.slice s_0.ptr s_0.len s_0.cap),(.func (.func f_1.1) f_1.2.1 f_1.2.2)] (.one (.sc (.int .i64))) h fun r1 h1=>
 R (.bool (decide (r1≥(0:Int)))) h1
theorem jd (s_0:Sl) (f_1:FuncId×Array Value×Array Value) {R:Value→Heap→Prop} {h:Heap} (hm:fL s_0 f_1 R h):ae Tryz.prog 111 #[(.slice s_0.ptr s_0.len s_0.cap),(.func (.func f_1.1) f_1.2.1 f_1.2.2)] h R:=al ag Tryz.func111 .n hm
abbrev rB:FuncId:=119
noncomputable def lO (p_0:Option Addr) (R:Value→Heap→Prop) (h:Heap):Prop:=
 Br (!(Option.isNone p_0)) (∃a1:Addr,(p_0=some a1)∧
 ∃x2:Bool,cellOf h a1=some (.bool x2)∧
 R (.bool (!x2)) h) (R (.bool false) h)
theorem qt (p_0:Option Addr) {R:Value→Heap→Prop} {h:Heap} (hm:lO p_0 R h):ae Tryz.prog 119 #[(.pointer p_0)] h R:=al ag Tryz.func119 .n hm
abbrev po:FuncId:=120
noncomputable def kq (p_0:Option Addr) (R:Value→Heap→Prop) (h:Heap):Prop:=
 af Tryz.prog 119 #[(.pointer p_0)] (.one (.sc .bool)) h fun r1 h1=>
 Br (!r1)
 (R (.bool false) h1)
 (∃a2:Addr,(p_0=some a2)∧
 ∃x3:Bool,cellOf h1 (a2.add 1)=some (.bool x3)∧
 Br (!x3)
 (R (.bool true) h1)
 (∃a4:Addr,(p_0=some a4)∧
 ∃x5:Int,cellOf h1 (a4.add 2)=some (.int .i64 x5)∧
 Br (x5==(0:Int))
 (∃a6:Addr,(p_0=some a6)∧
 ab Tryz.prog (Instr.storeAt 4 (.pointer (some a6)) (.bool true)) h1 fun _ h2=>
 ∃a7:Addr,(p_0=some a7)∧
 ∃x8:Int,cellOf h2 (a7.add 3)=some (.int .i64 x8)∧
 ∃a9:Addr,(p_0=some a9)∧
 ab Tryz.prog (Instr.storeAt 3 (.pointer (some (a9.add 3))) (.int .i64 (IntKind.wrap .i64 (x8+(1:Int))))) h2 fun _ h3=>
 R (.bool false) h3)
 (∃a10:Addr,(p_0=some a10)∧
 ∃x11:Int,cellOf h1 (a10.add 2)=some (.int .i64 x11)∧
 ∃a12:Addr,(p_0=some a12)∧
 ab Tryz.prog (Instr.storeAt 3 (.pointer (some (a12.add 2))) (.int .i64 (IntKind.wrap .i64 (x11-(1:Int))))) h1 fun _ h4=>
 R (.bool true) h4)))
theorem oy (p_0:Option Addr) {R:Value→Heap→Prop} {h:Heap} (hm:kq p_0 R h):ae Tryz.prog 120 #[(.pointer p_0)] h R:=al ag Tryz.func120 .n hm
abbrev pq:FuncId:=121
noncomputable def kr (d_0:Option Addr) (R:Value→Heap→Prop) (h:Heap):Prop:=
 ∃a1:Addr,(d_0=some a1)∧
 ab Tryz.prog (Instr.storeAt 70 (.pointer (some (a1.add 4))) (.slice none 0 0)) h fun _ h1=>
 ∃a2:Addr,(d_0=some a2)∧
 ab Tryz.prog (Instr.storeAt 4 (.pointer (some (a2.add 5))) (.bool false)) h1 fun _ h2=>
 R (.int .i64 (0:Int)) h2
theorem oz (d_0:Option Addr) {R:Value→Heap→Prop} {h:Heap} (hm:kr d_0 R h):ae Tryz.prog 121 #[(.pointer d_0)] h R:=al ag Tryz.func121 .n hm
abbrev wq:FuncId:=122
noncomputable def oW (to_0:Sl) (n_1:Int) (size_2:Int) (R:Value→Heap→Prop) (h:Heap):Prop:=
 aH (σ:=Sl×Int) (fun s1 K1 h1=>
 Br (decide (s1.2≥(0:Int)))
 ((0≤(IntKind.wrap .i64 ((8:Int)*s1.2)))∧
 aw Tryz.prog (Instr.buildSlice 53 1 #[(0,(.int .u8 (IntKind.wrap .u8 (Int.fdiv n_1 (2^min (IntKind.wrap .i64 ((8:Int)*s1.2)).toNat (IntKind.bits .i64))))))]) (.one (.sc .slc)) h1 fun v2 h2=>
 aw Tryz.prog (Builtin.append_ #[53,53] 53 #[(.slice s1.1.ptr s1.1.len s1.1.cap),(.slice v2.ptr v2.len v2.cap)]) (.one (.sc .slc)) h2 fun v3 h3=>
 K1 ((⟨v3.ptr,v3.len,v3.cap⟩:Sl),IntKind.wrap .i64 (s1.2-(1:Int))) h3)
 (R (.slice s1.1.ptr s1.1.len s1.1.cap) h1)) ((⟨to_0.ptr,to_0.len,to_0.cap⟩:Sl),IntKind.wrap .i64 (size_2-(1:Int))) h
theorem uJ (to_0:Sl) (n_1:Int) (size_2:Int) {R:Value→Heap→Prop} {h:Heap} (hm:oW to_0 n_1 size_2 R h):ae Tryz.prog 122 #[(.slice to_0.ptr to_0.len to_0.cap),(.int .i64 n_1),(.int .i64 size_2)] h R:=al ag Tryz.func122 (.two .n (.two (.two .n (.inn (.loop [(0,(.sc .slc)),(7,(.sc (.int .i64)))] [(0,1),(7,8),(10,22)] .n))) .n)) hm
abbrev Bd:FuncId:=123
noncomputable def uK (kind_0:Int) (body_1:Sl) (R:Value→Heap→Prop) (h:Heap):Prop:=
 ba (σ:=Unit) (fun _ h1=>
 aw Tryz.prog (Instr.makeSlice 53 (.int .i64 (64:Int)) (.int .i64 (64:Int))) (.one (.sc .slc)) h1 fun v2 h2=>
 aw Tryz.prog (Instr.buildSlice 53 4 #[(0,(.int .u8 (87:Int))),(1,(.int .u8 (115:Int))),(2,(.int .u8 (1:Int))),(3,(.int .u8 (IntKind.wrap .u8 kind_0)))]) (.one (.sc .slc)) h2 fun v3 h3=>
 aw Tryz.prog (Builtin.copy_ #[53,53] 3 #[(.slice v2.ptr v2.len v2.cap),(.slice v3.ptr v3.len v3.cap)]) (.one (.sc (.int .i64))) h3 fun _ h4=>
 (0≤(4:Int)∧(4:Int)≤((v2.len:Nat):Int))∧
 aw Tryz.prog (Builtin.copy_ #[53,53] 3 #[(.slice (if v2.cap=(4:Int).toNat then v2.ptr else v2.ptr.map (·.add ((4:Int).toNat*1))) (v2.len-(4:Int).toNat) (v2.cap-(4:Int).toNat)),(.slice body_1.ptr body_1.len body_1.cap)]) (.one (.sc (.int .i64))) h4 fun _ h5=>
 (0≤(59:Int)∧(59:Int)≤((v2.cap:Nat):Int))∧
 af Tryz.prog 172 #[(.slice v2.ptr ((59:Int).toNat) v2.cap)] (.one (.sc (.int .u32))) h5 fun r6 h6=>
 aH (σ:=Int) (fun s7 K2 h7=>
 Br (decide (s7<(4:Int)))
 ((0≤(IntKind.wrap .i64 ((8:Int)*s7)))∧
 ∃a8:Addr,(v2.ptr=some a8∧0≤(IntKind.wrap .i64 ((59:Int)+s7))∧(IntKind.wrap .i64 ((59:Int)+s7))<((v2.len:Nat):Int))∧
 ab Tryz.prog (Instr.storeAt 5 (.pointer (some (a8.add ((IntKind.wrap .i64 ((59:Int)+s7)).toNat*1)))) (.int .u8 (IntKind.wrap .u8 (Int.fdiv r6 (2^min (IntKind.wrap .i64 ((8:Int)*s7)).toNat (IntKind.bits .u32)))))) h7 fun _ h8=>
 K2 (IntKind.wrap .i64 (s7+(1:Int))) h8)
 (∃a9:Addr,(v2.ptr=some a9∧0≤(63:Int)∧(63:Int)<((v2.len:Nat):Int))∧
 ab Tryz.prog (Instr.storeAt 5 (.pointer (some (a9.add ((63:Int).toNat*1)))) (.int .u8 (165:Int))) h7 fun _ h9=>
 R (.slice v2.ptr v2.len v2.cap) h9)) (0:Int) h6)
 (fun K1=>
 Br (decide (kind_0<(1:Int))) (R (.slice none 0 0) h) (Br (decide (kind_0>(255:Int))) (R (.slice none 0 0) h) (Br (decide (((body_1.len:Nat):Int)>(55:Int)))
 (R (.slice none 0 0) h)
 (K1 () h))))
theorem zS (kind_0:Int) (body_1:Sl) {R:Value→Heap→Prop} {h:Heap} (hm:uK kind_0 body_1 R h):ae Tryz.prog 123 #[(.int .i64 kind_0),(.slice body_1.ptr body_1.len body_1.cap)] h R:=al ag Tryz.func123 (.two .n (.two (.join [] [(4,5),(8,19)] .n) (.two .n (.two .n (.two .n (.two .n (.two (.two .n (.inn (.loop [(32,(.sc (.int .i64)))] [(7,8),(32,45)] .n))) .n))))))) hm
abbrev mP:FuncId:=124
abbrev kY:FuncId:=125
abbrev jL:FuncId:=126
noncomputable def gX (d_0:Option Addr) (R:Value→Heap→Prop) (h:Heap):Prop:=
 ba (σ:=Unit) (fun _ h1=>
 ∃a4:Addr,(d_0=some a4)∧
 ∃x5:Option Addr,cellOf h1 a4=some (.pointer x5)∧
 af Tryz.prog 120 #[(.pointer x5)] (.one (.sc .bool)) h1 fun r6 h2=>
 Br (!r6)
 (R (.int .i64 (14:Int)) h2)
 (∃a7:Addr,(d_0=some a7)∧
 ab Tryz.prog (Instr.storeAt 3 (.pointer (some (a7.add 3))) (.int .i64 (0:Int))) h2 fun _ h3=>
 af Tryz.prog 121 #[(.pointer d_0)] (.one (.sc (.int .i64))) h3 fun r8 h4=>
 R (.int .i64 r8) h4))
 (fun K1=>
 Br (Option.isNone d_0) (R (.int .i64 (5:Int)) h) (∃a1:Addr,(d_0=some a1)∧
 ∃x2:Bool,cellOf h (a1.add 6)=some (.bool x2)∧
 Br x2
 (R (.int .i64 (5:Int)) h)
 (K1 () h)))
theorem jw (d_0:Option Addr) {R:Value→Heap→Prop} {h:Heap} (hm:gX d_0 R h):ae Tryz.prog 126 #[(.pointer d_0)] h R:=al ag Tryz.func126 (.two .n (.two (.join [] [(2,11)] .n) .n)) hm
abbrev jx:FuncId:=127
noncomputable def nt (n_0:Int) (R:Value→Heap→Prop) (h:Heap):Prop:=
 af Tryz.prog 73 #[(.int .i64 n_0),(.int .i64 (0:Int)),(.int .i64 (15:Int))] (.one (.sc .bool)) h fun r1 h1=>
 R (.bool (!r1)) h1
theorem tc (n_0:Int) {R:Value→Heap→Prop} {h:Heap} (hm:nt n_0 R h):ae Tryz.prog 127 #[(.int .i64 n_0)] h R:=al ag Tryz.func127 .n hm
abbrev gr:FuncId:=128
noncomputable def cH (s_0:Sl) (f_1:FuncId×Array Value×Array Value) (R:Value→Heap→Prop) (h:Heap):Prop:=
 aH (σ:=Int) (fun s1 K1 h1=>
 Br (decide (s1<((s_0.len:Nat):Int)))
 (∃a2:Addr,(s_0.ptr=some a2∧0≤s1∧s1<((s_0.len:Nat):Int))∧
 ∃x3:ByteArray×Int×Int×Sl,ak h1 (a2.add (s1.toNat*4)) 0 [(.string x3.1),(.int .i64 x3.2.1),(.int .i64 x3.2.2.1),(.slice x3.2.2.2.ptr x3.2.2.2.len x3.2.2.2.cap)]∧
 fS C f_1.1 (f_1.2.1.toList++[(.agg #[(.string x3.1),(.int .i64 x3.2.1),(.int .i64 x3.2.2.1),(.slice x3.2.2.2.ptr x3.2.2.2.len x3.2.2.2.cap)])]++f_1.2.2.toList) (.one (.sc .bool)) h1 fun r4 h2=>
 Br r4
 (R (.int .i64 s1) h2)
 (K1 (IntKind.wrap .i64 (s1+(1:Int))) h2))
 (R (.int .i64 (-1:Int)) h1)) (0:Int) h
theorem dz (s_0:Sl) (f_1:FuncId×Array Value×Array Value) {R:Value→Heap→Prop} {h:Heap} (hm:cH s_0 f_1 R h):ae Tryz.prog 128 #[(.slice s_0.ptr s_0.len s_0.cap),(.func (.func f_1.1) f_1.2.1 f_1.2.2)] h R:=al ag Tryz.func128 (.two .n (.two (.two .n (.inn (.loop [(8,(.sc (.int .i64)))] [(4,6),(8,19)] .n))) .n)) hm
abbrev zT:FuncId:=129
noncomputable def si (l_0:Sl) (n_1:Int) (R:Value→Heap→Prop) (h:Heap):Prop:=
 aH (σ:=Int) (fun s1 K1 h1=>
 Br (decide (s1≥(0:Int)))
 (∃a2:Addr,(l_0.ptr=some a2∧0≤s1∧s1<((l_0.len:Nat):Int))∧
 ∃x3:Int,cellOf h1 (a2.add (s1.toNat*1))=some (.int .i64 x3)∧
 Br (decide (x3<(IntKind.wrap .i64 ((IntKind.wrap .i64 (n_1-((l_0.len:Nat):Int)))+s1))))
 (∃a4:Addr,(l_0.ptr=some a4∧0≤s1∧s1<((l_0.len:Nat):Int))∧
 ∃x5:Int,cellOf h1 (a4.add (s1.toNat*1))=some (.int .i64 x5)∧
 ∃a6:Addr,(l_0.ptr=some a6∧0≤s1∧s1<((l_0.len:Nat):Int))∧
 ab Tryz.prog (Instr.storeAt 3 (.pointer (some (a6.add (s1.toNat*1)))) (.int .i64 (IntKind.wrap .i64 (x5+(1:Int))))) h1 fun _ h2=>
 aH (σ:=Int) (fun s7 K2 h3=>
 Br (decide (s7<((l_0.len:Nat):Int)))
 (∃a8:Addr,(l_0.ptr=some a8∧0≤(IntKind.wrap .i64 (s7-(1:Int)))∧(IntKind.wrap .i64 (s7-(1:Int)))<((l_0.len:Nat):Int))∧
 ∃x9:Int,cellOf h3 (a8.add ((IntKind.wrap .i64 (s7-(1:Int))).toNat*1))=some (.int .i64 x9)∧
 ∃a10:Addr,(l_0.ptr=some a10∧0≤s7∧s7<((l_0.len:Nat):Int))∧
 ab Tryz.prog (Instr.storeAt 3 (.pointer (some (a10.add (s7.toNat*1)))) (.int .i64 (IntKind.wrap .i64 (x9+(1:Int))))) h3 fun _ h4=>
 K2 (IntKind.wrap .i64 (s7+(1:Int))) h4)
 (R (.bool true) h3)) (IntKind.wrap .i64 (s1+(1:Int))) h2)
 (K1 (IntKind.wrap .i64 (s1-(1:Int))) h1))
 (R (.bool false) h1)) (IntKind.wrap .i64 (((l_0.len:Nat):Int)-(1:Int))) h
theorem xZ (l_0:Sl) (n_1:Int) {R:Value→Heap→Prop} {h:Heap} (hm:si l_0 n_1 R h):ae Tryz.prog 129 #[(.slice l_0.ptr l_0.len l_0.cap),(.int .i64 n_1)] h R:=al ag Tryz.func129 (.two .n (.two (.two .n (.inn (.loop [(5,(.sc (.int .i64)))] [(4,7),(10,48)] (.two .n (.two (.inn (.two .n (.two (.two .n (.two (.two .n (.inn (.loop [(6,(.sc (.int .i64)))] [(6,7),(33,48)] .n))) .n)) .n))) .n))))) .n)) hm
abbrev zU:FuncId:=130
noncomputable def sj (R:Value→Heap→Prop) (h:Heap):Prop:=
 aU Tryz.prog (Instr.alloc 183 true (.tuple #[])) h fun a1 h1=>
 aH (σ:=Int×Int) (fun s2 K1 h2=>
 Br (decide (s2.2<(255:Int)))
 ((0≤s2.2∧s2.2<((255:Nat):Int))∧
 ab Tryz.prog (Instr.storeAt 5 (.pointer (some (a1.add (s2.2.toNat*1)))) (.int .u8 s2.1)) h2 fun _ h3=>
 af Tryz.prog 174 #[(.int .u8 s2.1),(.int .u8 (3:Int))] (.one (.sc (.int .u8))) h3 fun r3 h4=>
 K1 (r3,IntKind.wrap .i64 (s2.2+(1:Int))) h4)
 (∃x4:List (Int),(x4.length=255∧ak h2 a1 0 (x4.map (Sc.enc (.int .u8))))∧
 ab Tryz.prog (Instr.storeAt 183 (.pointer (some a1)) (.agg (x4.map (Sc.enc (.int .u8))).toArray)) h2 fun _ h5=>
 ∃res5:List (Int),(res5.length=255∧ak h5 a1 0 (res5.map (Sc.enc (.int .u8))))∧
 R (.agg (res5.map (Sc.enc (.int .u8))).toArray) h5)) ((1:Int),(0:Int)) h1
theorem ya {R:Value→Heap→Prop} {h:Heap} (hm:sj R h):ae Tryz.prog 130 #[] h R:=al ag Tryz.func130 (.two .n (.two .n (.two (.two .n (.inn (.loop [(1,(.sc (.int .u8))),(3,(.sc (.int .i64)))] [(1,12)] .n))) .n))) hm
abbrev CU:FuncId:=131
noncomputable def xk (l_0:List (Int)) (R:Value→Heap→Prop) (h:Heap):Prop:=
 aU Tryz.prog (Instr.box 183 (.agg (l_0.map (Sc.enc (.int .u8))).toArray)) h fun a1 h1=>
 aU Tryz.prog (Instr.alloc 185 true (.tuple #[])) h1 fun a2 h2=>
 ∃x3:List (Int),(x3.length=255∧ak h2 a1 0 (x3.map (Sc.enc (.int .u8))))∧
 aH (σ:=Int) (fun s4 K1 h3=>
 Br (decide (s4<(255:Int)))
 (∃x5:Int,(0≤s4∧s4<((255:Nat):Int)∧((x3.map (Sc.enc (.int .u8))).toArray:Array Value)[s4.toNat]?=some (.int .u8 x5))∧
 (0≤x5∧x5<((256:Nat):Int))∧
 ab Tryz.prog (Instr.storeAt 3 (.pointer (some (a2.add (x5.toNat*1)))) (.int .i64 s4)) h3 fun _ h4=>
 K1 (IntKind.wrap .i64 (s4+(1:Int))) h4)
 (∃x6:List (Int),(x6.length=256∧ak h3 a2 0 (x6.map (Sc.enc (.int .i64))))∧
 ab Tryz.prog (Instr.storeAt 185 (.pointer (some a2)) (.agg (x6.map (Sc.enc (.int .i64))).toArray)) h3 fun _ h5=>
 ∃res7:List (Int),(res7.length=256∧ak h5 a2 0 (res7.map (Sc.enc (.int .i64))))∧
 R (.agg (res7.map (Sc.enc (.int .i64))).toArray) h5)) (0:Int) h2
theorem Be (l_0:List (Int)) {R:Value→Heap→Prop} {h:Heap} (hm:xk l_0 R h):ae Tryz.prog 131 #[(.agg (l_0.map (Sc.enc (.int .u8))).toArray)] h R:=al ag Tryz.func131 (.two .n (.two (.two .n (.inn (.loop [(6,(.sc (.int .i64)))] [(3,5),(6,14)] .n))) .n)) hm
abbrev Bf:FuncId:=132
noncomputable def uL (n_0:Int) (at_1:Int) (R:Value→Heap→Prop) (h:Heap):Prop:=
 ba (σ:=Unit) (fun _ h1=>
 aw Tryz.prog (Instr.makeSlice 53 (.int .i64 n_0) (.int .i64 n_0)) (.one (.sc .slc)) h1 fun v2 h2=>
 ∃a3:Addr,(v2.ptr=some a3∧0≤at_1∧at_1<((v2.len:Nat):Int))∧
 ab Tryz.prog (Instr.storeAt 5 (.pointer (some (a3.add (at_1.toNat*1)))) (.int .u8 (1:Int))) h2 fun _ h3=>
 R (.slice v2.ptr v2.len v2.cap) h3)
 (fun K1=>
 Br (decide (n_0<(1:Int))) (R (.slice none 0 0) h) (Br (decide (n_0>(64:Int))) (R (.slice none 0 0) h) (Br (decide (at_1<(0:Int))) (R (.slice none 0 0) h) (Br (decide (at_1≥n_0))
 (R (.slice none 0 0) h)
 (K1 () h)))))
theorem zV (n_0:Int) (at_1:Int) {R:Value→Heap→Prop} {h:Heap} (hm:uL n_0 at_1 R h):ae Tryz.prog 132 #[(.int .i64 n_0),(.int .i64 at_1)] h R:=al ag Tryz.func132 (.two .n (.two (.join [] [(4,5),(6,21)] .n) .n)) hm
abbrev uM:FuncId:=133
noncomputable def nu (f_0:Option Addr) (n_1:Int) (R:Value→Heap→Prop) (h:Heap):Prop:=
 ((255:Int)≠0)∧
 ba (σ:=Int) (fun s1 h1=>
 af Tryz.prog 175 #[(.pointer f_0)] (.one (.sc .ptr)) h1 fun r2 h2=>
 ∃a3:Addr,(r2=some a3)∧
 (0≤s1∧s1<((255:Nat):Int))∧
 ∃x4:Int,cellOf h2 (a3.add (s1.toNat*1))=some (.int .u8 x4)∧
 R (.int .u8 x4) h2)
 (fun K1=>
 Br (decide ((Int.tmod n_1 (255:Int))<(0:Int)))
 (K1 (IntKind.wrap .i64 ((Int.tmod n_1 (255:Int))+(255:Int))) h)
 (K1 (Int.tmod n_1 (255:Int)) h))
theorem td (f_0:Option Addr) (n_1:Int) {R:Value→Heap→Prop} {h:Heap} (hm:nu f_0 n_1 R h):ae Tryz.prog 133 #[(.pointer f_0),(.int .i64 n_1)] h R:=al ag Tryz.func133 (.two .n (.two .n (.two (.join [(1,(.sc (.int .i64)))] [(1,2),(7,11)] .n) .n))) hm
abbrev rC:FuncId:=134
noncomputable def lP (s_0:Option Addr) (r_1:Sl) (R:Value→Heap→Prop) (h:Heap):Prop:=
 ba (σ:=Unit) (fun _ h1=>
 af Tryz.prog 98 #[(.slice r_1.ptr r_1.len r_1.cap)] (.one (.sc .slc)) h1 fun r4 h2=>
 ∃a5:Addr,(s_0=some a5)∧
 ∃x6:Sl,cellOf h2 (a5.add 2)=some (.slice x6.ptr x6.len x6.cap)∧
 aH (σ:=Sl×Int) (fun s7 K2 h3=>
 Br (decide (s7.2<((x6.len:Nat):Int)))
 (∃a8:Addr,(x6.ptr=some a8∧0≤s7.2∧s7.2<((x6.len:Nat):Int))∧
 ∃x9:Sl,cellOf h3 (a8.add (s7.2.toNat*1))=some (.slice x9.ptr x9.len x9.cap)∧
 af Tryz.prog 135 #[(.slice x9.ptr x9.len x9.cap)] (.one (.sc (.int .i64))) h3 fun r10 h4=>
 ∃a11:Addr,(s7.1.ptr=some a11∧0≤r10∧r10<((s7.1.len:Nat):Int))∧
 ∃x12:Int,cellOf h4 (a11.add (r10.toNat*1))=some (.int .u8 x12)∧
 Br (x12 !=(0:Int))
 (∃a13:Addr,(s_0=some a13)∧
 ∃x14:Option Addr,cellOf h4 a13=some (.pointer x14)∧
 af Tryz.prog 176 #[(.pointer x14),(.int .u8 x12),(.slice x9.ptr x9.len x9.cap),(.slice s7.1.ptr s7.1.len s7.1.cap)] (.many [(.sc .slc),(.sc .bool)]) h4 fun r15 h5=>
 K2 ((⟨r15.1.ptr,r15.1.len,r15.1.cap⟩:Sl),IntKind.wrap .i64 (s7.2+(1:Int))) h5)
 (K2 ((⟨s7.1.ptr,s7.1.len,s7.1.cap⟩:Sl),IntKind.wrap .i64 (s7.2+(1:Int))) h4))
 (R (.tuple #[(.slice s7.1.ptr s7.1.len s7.1.cap),(.bool true)]) h3)) ((⟨r4.ptr,r4.len,r4.cap⟩:Sl),(0:Int)) h2)
 (fun K1=>
 Br (Option.isNone s_0) (R (.tuple #[(.slice none 0 0),(.bool false)]) h) (∃a1:Addr,(s_0=some a1)∧
 ∃x2:Int,cellOf h (a1.add 1)=some (.int .i64 x2)∧
 Br (((r_1.len:Nat):Int) !=x2)
 (R (.tuple #[(.slice none 0 0),(.bool false)]) h)
 (K1 () h)))
theorem qu (s_0:Option Addr) (r_1:Sl) {R:Value→Heap→Prop} {h:Heap} (hm:lP s_0 r_1 R h):ae Tryz.prog 134 #[(.pointer s_0),(.slice r_1.ptr r_1.len r_1.cap)] h R:=al ag Tryz.func134 (.two .n (.two (.join [] [(4,6),(10,21)] .n) (.two .n (.two (.two .n (.inn (.loop [(6,(.sc .slc)),(28,(.sc (.int .i64)))] [(6,7),(8,10),(28,51)] .n))) .n)))) hm
abbrev Bg:FuncId:=135
noncomputable def uN (a_0:Sl) (R:Value→Heap→Prop) (h:Heap):Prop:=
 af Tryz.prog 177 #[(.slice a_0.ptr a_0.len a_0.cap),(.func (.func 178) #[] #[])] (.one (.sc (.int .i64))) h fun r1 h1=>
 R (.int .i64 r1) h1
theorem zW (a_0:Sl) {R:Value→Heap→Prop} {h:Heap} (hm:uN a_0 R h):ae Tryz.prog 135 #[(.slice a_0.ptr a_0.len a_0.cap)] h R:=al ag Tryz.func135 .n hm
abbrev yb:FuncId:=136
noncomputable def qv (f_0:Option Addr) (a_1:Sl) (R:Value→Heap→Prop) (h:Heap):Prop:=
 af Tryz.prog 179 #[(.slice a_1.ptr a_1.len a_1.cap)] (.one (.sc .bool)) h fun r1 h1=>
 Br (!r1)
 (R (.slice none 0 0) h1)
 (af Tryz.prog 180 #[(.slice a_1.ptr a_1.len a_1.cap)] (.one (.sc .slc)) h1 fun r2 h2=>
 af Tryz.prog 182 #[(.pointer f_0)] (.one (.sc .ptr)) h2 fun r3 h3=>
 af Tryz.prog 183 #[(.slice r2.ptr r2.len r2.cap)] (.one (.sc (.int .i64))) h3 fun r4 h4=>
 af Tryz.prog 181 #[(.pointer r3),(.slice r2.ptr r2.len r2.cap),(.int .i64 r4)] (.one (.sc (.int .i64))) h4 fun r5 h5=>
 (0≤r5∧r5≤((r2.cap:Nat):Int))∧
 R (.slice r2.ptr r5.toNat r2.cap) h5)
theorem wu (f_0:Option Addr) (a_1:Sl) {R:Value→Heap→Prop} {h:Heap} (hm:qv f_0 a_1 R h):ae Tryz.prog 136 #[(.pointer f_0),(.slice a_1.ptr a_1.len a_1.cap)] h R:=al ag Tryz.func136 .n hm
abbrev Ea:FuncId:=137
noncomputable def zX (p_0:Int×Int×Int) (seed_1:Int) (id_2:Int) (R:Value→Heap→Prop) (h:Heap):Prop:=
 aU Tryz.prog (Instr.box 24 (.agg #[(.int .i64 p_0.1),(.int .i64 p_0.2.1),(.int .i64 p_0.2.2)])) h fun a1 h1=>
 ba (σ:=Unit) (fun _ h3=>
 ∃x5:Int×Int×Int,ak h3 a1 0 [(.int .i64 x5.1),(.int .i64 x5.2.1),(.int .i64 x5.2.2)]∧
 af Tryz.prog 83 #[(.agg #[(.int .i64 x5.1),(.int .i64 x5.2.1),(.int .i64 x5.2.2)])] (.one (.sc (.int .i64))) h3 fun r6 h4=>
 aw Tryz.prog (Instr.makeSlice 53 (.int .i64 r6) (.int .i64 r6)) (.one (.sc .slc)) h4 fun v7 h5=>
 ∃x8:Int×Int×Int,ak h5 a1 0 [(.int .i64 x8.1),(.int .i64 x8.2.1),(.int .i64 x8.2.2)]∧
 af Tryz.prog 151 #[(.agg #[(.int .i64 x8.1),(.int .i64 x8.2.1),(.int .i64 x8.2.2)]),(.int .u32 seed_1),(.int .i64 id_2)] (.one (.sc .slc)) h5 fun r9 h6=>
 aH (σ:=Int) (fun s10 K2 h7=>
 Br (decide (s10<((r9.len:Nat):Int)))
 (∃a11:Addr,(r9.ptr=some a11∧0≤s10∧s10<((r9.len:Nat):Int))∧
 ∃x12:Int,cellOf h7 (a11.add (s10.toNat*1))=some (.int .i64 x12)∧
 ∃a13:Addr,(v7.ptr=some a13∧0≤x12∧x12<((v7.len:Nat):Int))∧
 ab Tryz.prog (Instr.storeAt 5 (.pointer (some (a13.add (x12.toNat*1)))) (.int .u8 (1:Int))) h7 fun _ h8=>
 K2 (IntKind.wrap .i64 (s10+(1:Int))) h8)
 (R (.slice v7.ptr v7.len v7.cap) h7)) (0:Int) h6)
 (fun K1=>
 ∃x2:Int×Int×Int,ak h1 a1 0 [(.int .i64 x2.1),(.int .i64 x2.2.1),(.int .i64 x2.2.2)]∧
 af Tryz.prog 29 #[(.agg #[(.int .i64 x2.1),(.int .i64 x2.2.1),(.int .i64 x2.2.2)])] (.one (.sc .bool)) h1 fun r3 h2=>
 Br (!r3) (R (.slice none 0 0) h2) (Br (decide (id_2<(0:Int))) (R (.slice none 0 0) h2) (Br (decide (id_2>(65535:Int)))
 (R (.slice none 0 0) h2)
 (K1 () h2))))
theorem CV (p_0:Int×Int×Int) (seed_1:Int) (id_2:Int) {R:Value→Heap→Prop} {h:Heap} (hm:zX p_0 seed_1 id_2 R h):ae Tryz.prog 137 #[(.agg #[(.int .i64 p_0.1),(.int .i64 p_0.2.1),(.int .i64 p_0.2.2)]),(.int .u32 seed_1),(.int .i64 id_2)] h R:=al ag Tryz.func137 (.two .n (.two (.join [] [(6,7),(10,21)] .n) (.two .n (.two (.two .n (.inn (.loop [(29,(.sc (.int .i64)))] [(9,10),(29,37)] .n))) .n)))) hm
abbrev qw:FuncId:=138
noncomputable def kM (s_0:Option Addr) (R:Value→Heap→Prop) (h:Heap):Prop:=
 Br (Option.isNone s_0)
 (R (.pointer none) h)
 (∃a1:Addr,(s_0=some a1)∧
 ∃x2:Option Addr,cellOf h a1=some (.pointer x2)∧
 ∃a3:Addr,(s_0=some a3)∧
 ∃x4:Int,cellOf h (a3.add 1)=some (.int .i64 x4)∧
 af Tryz.prog 184 #[(.pointer s_0)] (.one (.sc .slc)) h fun r5 h1=>
 (aE.ok [(a3.add 1,(.int .i64 x4)),(a1,(.pointer x2))] h1)∧
 aU Tryz.prog (Instr.box 182 (.agg #[(.pointer x2),(.int .i64 x4),(.slice r5.ptr r5.len r5.cap)])) h1 fun a6 h2=>
 (aE.ok [(a3.add 1,(.int .i64 x4)),(a1,(.pointer x2))] h2)∧
 R (.pointer (some a6)) h2)
theorem pr (s_0:Option Addr) {R:Value→Heap→Prop} {h:Heap} (hm:kM s_0 R h):ae Tryz.prog 138 #[(.pointer s_0)] h R:=al ag Tryz.func138 .n hm
abbrev kF:FuncId:=139
noncomputable def gH (s_0:Sl) (v_1:Int) (R:Value→Heap→Prop) (h:Heap):Prop:=
 af Tryz.prog 185 #[(.slice s_0.ptr s_0.len s_0.cap),(.int .i64 v_1)] (.one (.sc (.int .i64))) h fun r1 h1=>
 R (.bool (decide (r1≥(0:Int)))) h1
theorem ku (s_0:Sl) (v_1:Int) {R:Value→Heap→Prop} {h:Heap} (hm:gH s_0 v_1 R h):ae Tryz.prog 139 #[(.slice s_0.ptr s_0.len s_0.cap),(.int .i64 v_1)] h R:=al ag Tryz.func139 .n hm
abbrev rD:FuncId:=140
noncomputable def lQ (s_0:Option Addr) (R:Value→Heap→Prop) (h:Heap):Prop:=
 Br (Option.isNone s_0)
 (R (.int .i64 (0:Int)) h)
 (∃a1:Addr,(s_0=some a1)∧
 ∃x2:Sl,cellOf h (a1.add 2)=some (.slice x2.ptr x2.len x2.cap)∧
 R (.int .i64 ((x2.len:Nat):Int)) h)
theorem qx (s_0:Option Addr) {R:Value→Heap→Prop} {h:Heap} (hm:lQ s_0 R h):ae Tryz.prog 140 #[(.pointer s_0)] h R:=al ag Tryz.func140 .n hm
abbrev my:FuncId:=141
noncomputable def nv (d_0:Option Addr) (m_1:Int×Int×Int×Int×Int×Int×Sl×Sl) (R:Value→Heap→Prop) (h:Heap):Prop:=
 aU Tryz.prog (Instr.box 41 (.agg #[(.int .i64 m_1.1),(.int .i64 m_1.2.1),(.int .i64 m_1.2.2.1),(.int .i64 m_1.2.2.2.1),(.int .i64 m_1.2.2.2.2.1),(.int .i64 m_1.2.2.2.2.2.1),(.slice m_1.2.2.2.2.2.2.1.ptr m_1.2.2.2.2.2.2.1.len m_1.2.2.2.2.2.2.1.cap),(.slice m_1.2.2.2.2.2.2.2.ptr m_1.2.2.2.2.2.2.2.len m_1.2.2.2.2.2.2.2.cap)])) h fun a1 h1=>
 af Tryz.prog 36 #[(.pointer d_0)] (.one (.sc .slc)) h1 fun r2 h2=>
 aH (σ:=Sl×Int) (fun s3 K1 h3=>
 Br (decide ((IntKind.wrap .i64 (s3.2+(1:Int)))≥((r2.len:Nat):Int)))
 (af Tryz.prog 188 #[(.slice s3.1.ptr s3.1.len s3.1.cap),(.func (.func 189) #[] #[])] (.many []) h3 fun _ h4=>
 af Tryz.prog 190 #[(.slice s3.1.ptr s3.1.len s3.1.cap),(.func (.func 191) #[] #[])] (.one (.sc .slc)) h4 fun r5 h5=>
 R (.slice r5.ptr r5.len r5.cap) h5)
 (ba (σ:=Sl) (fun s16 h12=>
 K1 ((⟨s16.ptr,s16.len,s16.cap⟩:Sl),IntKind.wrap .i64 (s3.2+(1:Int))) h12)
 (fun K2=>
 ∃a6:Addr,(r2.ptr=some a6∧0≤(IntKind.wrap .i64 (s3.2+(1:Int)))∧(IntKind.wrap .i64 (s3.2+(1:Int)))<((r2.len:Nat):Int))∧
 ∃x7:Sl,cellOf h3 (a6.add ((IntKind.wrap .i64 (s3.2+(1:Int))).toNat*1))=some (.slice x7.ptr x7.len x7.cap)∧
 af Tryz.prog 186 #[(.slice x7.ptr x7.len x7.cap)] (.many [(.agg [(.int .i64),(.int .i64),(.int .i64),(.int .i64),(.int .i64),(.int .i64),(.int .u32),.slc]),(.sc .bool)]) h3 fun r8 h6=>
 aU Tryz.prog (Instr.alloc 164 true (.tuple #[])) h6 fun a9 h7=>
 ab Tryz.prog (Instr.storeAt 164 (.pointer (some a9)) (.agg #[(.int .i64 r8.1.1),(.int .i64 r8.1.2.1),(.int .i64 r8.1.2.2.1),(.int .i64 r8.1.2.2.2.1),(.int .i64 r8.1.2.2.2.2.1),(.int .i64 r8.1.2.2.2.2.2.1),(.int .u32 r8.1.2.2.2.2.2.2.1),(.slice r8.1.2.2.2.2.2.2.2.ptr r8.1.2.2.2.2.2.2.2.len r8.1.2.2.2.2.2.2.2.cap)])) h7 fun _ h8=>
 Br r8.2 (∃x10:Int×Int×Int×Int×Int×Int×Sl×Sl,ak h8 a1 0 [(.int .i64 x10.1),(.int .i64 x10.2.1),(.int .i64 x10.2.2.1),(.int .i64 x10.2.2.2.1),(.int .i64 x10.2.2.2.2.1),(.int .i64 x10.2.2.2.2.2.1),(.slice x10.2.2.2.2.2.2.1.ptr x10.2.2.2.2.2.2.1.len x10.2.2.2.2.2.2.1.cap),(.slice x10.2.2.2.2.2.2.2.ptr x10.2.2.2.2.2.2.2.len x10.2.2.2.2.2.2.2.cap)]∧
 ∃x11:Int×Int×Int×Int×Int×Int×Int×Sl,ak h8 a9 0 [(.int .i64 x11.1),(.int .i64 x11.2.1),(.int .i64 x11.2.2.1),(.int .i64 x11.2.2.2.1),(.int .i64 x11.2.2.2.2.1),(.int .i64 x11.2.2.2.2.2.1),(.int .u32 x11.2.2.2.2.2.2.1),(.slice x11.2.2.2.2.2.2.2.ptr x11.2.2.2.2.2.2.2.len x11.2.2.2.2.2.2.2.cap)]∧
 af Tryz.prog 187 #[(.agg #[(.int .i64 x10.1),(.int .i64 x10.2.1),(.int .i64 x10.2.2.1),(.int .i64 x10.2.2.2.1),(.int .i64 x10.2.2.2.2.1),(.int .i64 x10.2.2.2.2.2.1),(.slice x10.2.2.2.2.2.2.1.ptr x10.2.2.2.2.2.2.1.len x10.2.2.2.2.2.2.1.cap),(.slice x10.2.2.2.2.2.2.2.ptr x10.2.2.2.2.2.2.2.len x10.2.2.2.2.2.2.2.cap)]),(.agg #[(.int .i64 x11.1),(.int .i64 x11.2.1),(.int .i64 x11.2.2.1),(.int .i64 x11.2.2.2.1),(.int .i64 x11.2.2.2.2.1),(.int .i64 x11.2.2.2.2.2.1),(.int .u32 x11.2.2.2.2.2.2.1),(.slice x11.2.2.2.2.2.2.2.ptr x11.2.2.2.2.2.2.2.len x11.2.2.2.2.2.2.2.cap)])] (.one (.sc .bool)) h8 fun r12 h9=>
 Br r12
 (∃x13:Int×Int×Int×Int×Int×Int×Int×Sl,ak h9 a9 0 [(.int .i64 x13.1),(.int .i64 x13.2.1),(.int .i64 x13.2.2.1),(.int .i64 x13.2.2.2.1),(.int .i64 x13.2.2.2.2.1),(.int .i64 x13.2.2.2.2.2.1),(.int .u32 x13.2.2.2.2.2.2.1),(.slice x13.2.2.2.2.2.2.2.ptr x13.2.2.2.2.2.2.2.len x13.2.2.2.2.2.2.2.cap)]∧
 aw Tryz.prog (Instr.buildSlice 195 1 #[(0,(.agg #[(.int .i64 x13.1),(.int .i64 x13.2.1),(.int .i64 x13.2.2.1),(.int .i64 x13.2.2.2.1),(.int .i64 x13.2.2.2.2.1),(.int .i64 x13.2.2.2.2.2.1),(.int .u32 x13.2.2.2.2.2.2.1),(.slice x13.2.2.2.2.2.2.2.ptr x13.2.2.2.2.2.2.2.len x13.2.2.2.2.2.2.2.cap)]))]) (.one (.sc .slc)) h9 fun v14 h10=>
 aw Tryz.prog (Builtin.append_ #[195,195] 195 #[(.slice s3.1.ptr s3.1.len s3.1.cap),(.slice v14.ptr v14.len v14.cap)]) (.one (.sc .slc)) h10 fun v15 h11=>
 K2 (⟨v15.ptr,v15.len,v15.cap⟩:Sl) h11)
 (K2 (⟨s3.1.ptr,s3.1.len,s3.1.cap⟩:Sl) h9)) (K2 (⟨s3.1.ptr,s3.1.len,s3.1.cap⟩:Sl) h8)))) ((⟨none,0,0⟩:Sl),(-1:Int)) h2
theorem te (d_0:Option Addr) (m_1:Int×Int×Int×Int×Int×Int×Sl×Sl) {R:Value→Heap→Prop} {h:Heap} (hm:nv d_0 m_1 R h):ae Tryz.prog 141 #[(.pointer d_0),(.agg #[(.int .i64 m_1.1),(.int .i64 m_1.2.1),(.int .i64 m_1.2.2.1),(.int .i64 m_1.2.2.2.1),(.int .i64 m_1.2.2.2.2.1),(.int .i64 m_1.2.2.2.2.2.1),(.slice m_1.2.2.2.2.2.2.1.ptr m_1.2.2.2.2.2.2.1.len m_1.2.2.2.2.2.2.1.cap),(.slice m_1.2.2.2.2.2.2.2.ptr m_1.2.2.2.2.2.2.2.len m_1.2.2.2.2.2.2.2.cap)])] h R:=al ag Tryz.func141 (.two .n (.scope 0 [(6,(.sc .slc)),(7,(.sc (.int .i64)))] [(4,5),(6,10),(12,40)] [.n,.n,.n] [(.two .n (.two .n (.two (.join [(6,(.sc .slc))] [(6,7),(8,10),(18,36)] .n) .n)))] [(1,[.n])])) hm
abbrev CW:FuncId:=151
noncomputable def xl (p_0:Int×Int×Int) (seed_1:Int) (id_2:Int) (R:Value→Heap→Prop) (h:Heap):Prop:=
 aU Tryz.prog (Instr.box 24 (.agg #[(.int .i64 p_0.1),(.int .i64 p_0.2.1),(.int .i64 p_0.2.2)])) h fun a1 h1=>
 ba (σ:=Unit) (fun _ h3=>
 ∃x5:Int×Int×Int,ak h3 a1 0 [(.int .i64 x5.1),(.int .i64 x5.2.1),(.int .i64 x5.2.2)]∧
 af Tryz.prog 83 #[(.agg #[(.int .i64 x5.1),(.int .i64 x5.2.1),(.int .i64 x5.2.2)])] (.one (.sc (.int .i64))) h3 fun r6 h4=>
 af Tryz.prog 201 #[(.int .u32 (IntKind.wrap .u32 ((BitVec.ofInt (IntKind.bits .u32) seed_1^^^(BitVec.ofInt (IntKind.bits .u32) (IntKind.wrap .u32 ((IntKind.wrap .u32 id_2)*(2654435761:Int))))).toNat:Nat)))] (.one (.sc .ptr)) h4 fun r7 h5=>
 af Tryz.prog 202 #[(.pointer r7)] (.one (.sc (.int .u32))) h5 fun _ h6=>
 af Tryz.prog 204 #[(.int .i64 r6)] (.one (.sc .slc)) h6 fun r9 h7=>
 af Tryz.prog 203 #[(.slice r9.ptr r9.len r9.cap),(.pointer r7)] (.one (.sc (.int .i64))) h7 fun r10 h8=>
 af Tryz.prog 205 #[(.pointer r7),(.int .i64 r6),(.int .i64 r10)] (.one (.sc .slc)) h8 fun r11 h9=>
 R (.slice r11.ptr r11.len r11.cap) h9)
 (fun K1=>
 ∃x2:Int×Int×Int,ak h1 a1 0 [(.int .i64 x2.1),(.int .i64 x2.2.1),(.int .i64 x2.2.2)]∧
 af Tryz.prog 29 #[(.agg #[(.int .i64 x2.1),(.int .i64 x2.2.1),(.int .i64 x2.2.2)])] (.one (.sc .bool)) h1 fun r3 h2=>
 Br (!r3) (R (.slice none 0 0) h2) (Br (decide (id_2<(0:Int))) (R (.slice none 0 0) h2) (Br (decide (id_2>(65535:Int)))
 (R (.slice none 0 0) h2)
 (K1 () h2))))
theorem Bh (p_0:Int×Int×Int) (seed_1:Int) (id_2:Int) {R:Value→Heap→Prop} {h:Heap} (hm:xl p_0 seed_1 id_2 R h):ae Tryz.prog 151 #[(.agg #[(.int .i64 p_0.1),(.int .i64 p_0.2.1),(.int .i64 p_0.2.2)]),(.int .u32 seed_1),(.int .i64 id_2)] h R:=al ag Tryz.func151 (.two .n (.two (.join [] [(6,7),(10,21)] .n) .n)) hm
end Go.Proofs.YtkciobclldnoiaaGreatDoor
