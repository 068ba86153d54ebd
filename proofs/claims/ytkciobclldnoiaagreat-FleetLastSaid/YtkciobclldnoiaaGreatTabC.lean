/- Part of the proofs that the laws of this seat answer true whatever the input reads, and leave it as it was; no condition. -/
import Derived.Test.YtkciobclldnoiaaGreatTabA
set_option linter.unusedVariables false
set_option linter.unusedSimpArgs false
namespace Go.Proofs.YtkciobclldnoiaaGreat
open Go Go.Vc Go.Proofs
set_option maxRecDepth 1000000
abbrev u5:FuncId:=74
noncomputable def nF (s_0:Option Addr) (R:Value→Heap→Prop) (h:Heap):Prop:=
 Br (!(Option.isNone s_0)) (∃a1:Addr,(s_0=some a1)∧
 ∃x2:Option Addr,cellOf h (a1.add 8)=some (.pointer x2)∧
 af Tryz.prog 126 #[(.pointer x2)] (.one (.sc .bool)) h fun r3 h1=>
 (ak.ok [] h1)∧
 Br (!r3) ((ak.ok [] h1)∧
 R (.bool true) h1) (∃a4:Addr,(s_0=some a4)∧
 ∃x5:Option Addr,cellOf h1 (a4.add 8)=some (.pointer x5)∧
 ∃a6:Addr,(s_0=some a6)∧
 ∃x7:Int,cellOf h1 (a6.add 9)=some (.int .i64 x7)∧
 af Tryz.prog 28 #[(.pointer x5)] (.one (.sc (.int .i64))) h1 fun r8 h2=>
 (ak.ok [(a6.add 9,(.int .i64 x7))] h2)∧
 R (.bool (r8 !=x7)) h2)) ((ak.ok [] h)∧
 (ak.ok [] h)∧
 R (.bool false) h)
theorem tv (s_0:Option Addr) {R:Value→Heap→Prop} {h:Heap} (hm:nF s_0 R h):ab Tryz.prog 74 #[(.pointer s_0)] h R:=aq ag Tryz.func74 .n hm
noncomputable def kE (s_0:Sl) (v_1:Int) (R:Value→Heap→Prop) (h:Heap):Prop:=
 aO (σ:=Int) (fun s1 K1 h1=>
 Br (decide (s1<((s_0.len:Nat):Int)))
 (∃a2:Addr,(s_0.ptr=some a2∧0≤s1∧s1<((s_0.len:Nat):Int))∧
 ∃x3:Int,cellOf h1 (a2.add (s1.toNat*1))=some (.int .i64 x3)∧
 Br (v_1==x3)
 (R (.int .i64 s1) h1)
 (K1 (IntKind.wrap .i64 (s1+(1:Int))) h1))
 (R (.int .i64 (-1:Int)) h1)) (0:Int) h
theorem pG (s_0:Sl) (v_1:Int) {R:Value→Heap→Prop} {h:Heap} (hm:kE s_0 v_1 R h):ab Tryz.prog 75 #[(.slice s_0.ptr s_0.len s_0.cap),(.int .i64 v_1)] h R:=aq ag Tryz.func75 (.two .n (.two (.two .n (.inn (.loop [(8,(.sc (.int .i64)))] [(4,6),(8,19)] .n))) .n)) hm
abbrev pH:FuncId:=77
abbrev vY:FuncId:=78
noncomputable def ov (s_0:Option Addr) (R:Value→Heap→Prop) (h:Heap):Prop:=
 Br (Option.isNone s_0) (R (.bool true) h) (af Tryz.prog 74 #[(.pointer s_0)] (.one (.sc .bool)) h fun r1 h1=>
 R (.bool r1) h1)
theorem u6 (s_0:Option Addr) {R:Value→Heap→Prop} {h:Heap} (hm:ov s_0 R h):ab Tryz.prog 78 #[(.pointer s_0)] h R:=aq ag Tryz.func78 .n hm
abbrev gM:FuncId:=79
noncomputable def kF (x_0:Int) (cap_1:Addr) (R:Value→Heap→Prop) (h:Heap):Prop:=
 ∃x1:Int,cellOf h cap_1=some (.int .i64 x1)∧
 R (.int .i64 x1) h
theorem pI (x_0:Int) (cap_1:Addr) {R:Value→Heap→Prop} {h:Heap} (hm:kF x_0 cap_1 R h):ab Tryz.prog 79 #[(.int .i64 x_0),(.pointer (some cap_1))] h R:=aq ag Tryz.func79 .n hm
abbrev mr:FuncId:=80
noncomputable def jU (d_0:Option Addr) (R:Value→Heap→Prop) (h:Heap):Prop:=
 Br (!(Option.isNone d_0)) (∃a1:Addr,(d_0=some a1)∧
 ∃x2:Bool,cellOf h (a1.add 6)=some (.bool x2)∧
 R (.bool x2) h) (R (.bool false) h)
theorem lK (d_0:Option Addr) {R:Value→Heap→Prop} {h:Heap} (hm:jU d_0 R h):ab Tryz.prog 80 #[(.pointer d_0)] h R:=aq ag Tryz.func80 .n hm
abbrev qk:FuncId:=81
noncomputable def kG (s_0:Sl) (R:Value→Heap→Prop) (h:Heap):Prop:=
 Br (Option.isNone s_0.ptr)
 (R (.slice none 0 0) h)
 (az Tryz.prog (Instr.buildSlice 22 0 #[]) (.one (.sc .slc)) h fun v1 h1=>
 az Tryz.prog (Builtin.append_ #[22,22] 22 #[(.slice v1.ptr v1.len v1.cap),(.slice s_0.ptr s_0.len s_0.cap)]) (.one (.sc .slc)) h1 fun v2 h2=>
 R (.slice v2.ptr v2.len v2.cap) h2)
theorem pJ (s_0:Sl) {R:Value→Heap→Prop} {h:Heap} (hm:kG s_0 R h):ab Tryz.prog 81 #[(.slice s_0.ptr s_0.len s_0.cap)] h R:=aq ag Tryz.func81 .n hm
abbrev j5:FuncId:=82
noncomputable def fW (s_0:Sl) (R:Value→Heap→Prop) (h:Heap):Prop:=
 Br (Option.isNone s_0.ptr)
 (R (.slice none 0 0) h)
 (az Tryz.prog (Instr.buildSlice 40 0 #[]) (.one (.sc .slc)) h fun v1 h1=>
 az Tryz.prog (Builtin.append_ #[40,40] 40 #[(.slice v1.ptr v1.len v1.cap),(.slice s_0.ptr s_0.len s_0.cap)]) (.one (.sc .slc)) h1 fun v2 h2=>
 R (.slice v2.ptr v2.len v2.cap) h2)
theorem jV (s_0:Sl) {R:Value→Heap→Prop} {h:Heap} (hm:fW s_0 R h):ab Tryz.prog 82 #[(.slice s_0.ptr s_0.len s_0.cap)] h R:=aq ag Tryz.func82 .n hm
abbrev Ck:FuncId:=83
noncomputable def uy (n_0:Int) (least_1:Int) (most_2:Int) (R:Value→Heap→Prop) (h:Heap):Prop:=
 Br (decide (n_0≥least_1)) (R (.bool (decide (n_0≤most_2))) h) (R (.bool false) h)
theorem Au (n_0:Int) (least_1:Int) (most_2:Int) {R:Value→Heap→Prop} {h:Heap} (hm:uy n_0 least_1 most_2 R h):ab Tryz.prog 83 #[(.int .i64 n_0),(.int .i64 least_1),(.int .i64 most_2)] h R:=aq ag Tryz.func83 .n hm
abbrev Ft:FuncId:=84
noncomputable def yf (l_0:Sl) (most_1:Int) (R:Value→Heap→Prop) (h:Heap):Prop:=
 aO (σ:=Int) (fun s1 K1 h1=>
 Br (decide (s1<((l_0.len:Nat):Int)))
 (∃a2:Addr,(l_0.ptr=some a2∧0≤s1∧s1<((l_0.len:Nat):Int))∧
 ∃x3:Int,cellOf h1 (a2.add (s1.toNat*1))=some (.int .i64 x3)∧
 af Tryz.prog 83 #[(.int .i64 x3),(.int .i64 (0:Int)),(.int .i64 most_1)] (.one (.sc .bool)) h1 fun r4 h2=>
 Br (!r4) (R (.bool false) h2) (Br (decide (s1>(0:Int))) (∃a5:Addr,(l_0.ptr=some a5∧0≤(IntKind.wrap .i64 (s1-(1:Int)))∧(IntKind.wrap .i64 (s1-(1:Int)))<((l_0.len:Nat):Int))∧
 ∃x6:Int,cellOf h2 (a5.add ((IntKind.wrap .i64 (s1-(1:Int))).toNat*1))=some (.int .i64 x6)∧
 Br (decide (x6≥x3))
 (R (.bool false) h2)
 (K1 (IntKind.wrap .i64 (s1+(1:Int))) h2)) (K1 (IntKind.wrap .i64 (s1+(1:Int))) h2)))
 (R (.bool true) h1)) (0:Int) h
theorem DR (l_0:Sl) (most_1:Int) {R:Value→Heap→Prop} {h:Heap} (hm:yf l_0 most_1 R h):ab Tryz.prog 84 #[(.slice l_0.ptr l_0.len l_0.cap),(.int .i64 most_1)] h R:=aq ag Tryz.func84 (.two .n (.two (.two .n (.inn (.loop [(9,(.sc (.int .i64)))] [(4,7),(9,32)] .n))) .n)) hm
abbrev DS:FuncId:=85
noncomputable def vZ (m_0:Int×Int×Int×Int×Int×Int×Sl×Sl) (x_1:ByteArray×Int×Int×Sl) (R:Value→Heap→Prop) (h:Heap):Prop:=
 aK Tryz.prog (Instr.box 42 (.agg #[(.int .i64 m_0.1),(.int .i64 m_0.2.1),(.int .i64 m_0.2.2.1),(.int .i64 m_0.2.2.2.1),(.int .i64 m_0.2.2.2.2.1),(.int .i64 m_0.2.2.2.2.2.1),(.slice m_0.2.2.2.2.2.2.1.ptr m_0.2.2.2.2.2.2.1.len m_0.2.2.2.2.2.2.1.cap),(.slice m_0.2.2.2.2.2.2.2.ptr m_0.2.2.2.2.2.2.2.len m_0.2.2.2.2.2.2.2.cap)])) h fun a1 h1=>
 aK Tryz.prog (Instr.box 89 (.agg #[(.string x_1.1),(.int .i64 x_1.2.1),(.int .i64 x_1.2.2.1),(.slice x_1.2.2.2.ptr x_1.2.2.2.len x_1.2.2.2.cap)])) h1 fun a2 h2=>
 aZ (σ:=Unit) (fun _ h6=>
 ∃x13:Sl,cellOf h6 (a2.add 3)=some (.slice x13.ptr x13.len x13.cap)∧
 af Tryz.prog 104 #[(.slice x13.ptr x13.len x13.cap),(.func (.func 142) #[] #[])] (.one (.sc .bool)) h6 fun r14 h7=>
 Br (!r14) (∃x15:Sl,cellOf h7 (a2.add 3)=some (.slice x15.ptr x15.len x15.cap)∧
 ∃x16:Int×Int×Int,ai h7 (a1.add 2) 0 [(.int .i64 x16.1),(.int .i64 x16.2.1),(.int .i64 x16.2.2)]∧
 ∃x17:Int,cellOf h7 (a2.add 2)=some (.int .i64 x17)∧
 af Tryz.prog 49 #[(.agg #[(.int .i64 x16.1),(.int .i64 x16.2.1),(.int .i64 x16.2.2)]),(.int .i64 x17)] (.one (.sc (.int .i64))) h7 fun r18 h8=>
 (ak.ok [(a2.add 3,(.slice x15.ptr x15.len x15.cap))] h8)∧
 R (.bool (((x15.len:Nat):Int)==r18)) h8) ((ak.ok [] h7)∧
 R (.bool false) h7))
 (fun K1=>
 ∃x3:ByteArray,cellOf h2 a2=some (.string x3)∧
 af Tryz.prog 90 #[(.string x3)] (.one (.sc .bool)) h2 fun r4 h3=>
 Br (!r4) (R (.bool false) h3) (∃x5:Int,cellOf h3 (a2.add 1)=some (.int .i64 x5)∧
 ∃x6:Int,cellOf h3 (a1.add 1)=some (.int .i64 x6)∧
 af Tryz.prog 83 #[(.int .i64 x5),(.int .i64 (0:Int)),(.int .i64 (IntKind.wrap .i64 (x6-(1:Int))))] (.one (.sc .bool)) h3 fun r7 h4=>
 Br (!r7) (R (.bool false) h4) (∃x8:Int,cellOf h4 (a2.add 2)=some (.int .i64 x8)∧
 ∃x9:Int,cellOf h4 (a1.add 2)=some (.int .i64 x9)∧
 ∃x10:Int,cellOf h4 ((a1.add 2).add 2)=some (.int .i64 x10)∧
 af Tryz.prog 83 #[(.int .i64 x8),(.int .i64 (0:Int)),(.int .i64 (IntKind.wrap .i64 ((IntKind.wrap .i64 (x9*x10))*(8:Int))))] (.one (.sc .bool)) h4 fun r11 h5=>
 Br (!r11)
 (R (.bool false) h5)
 (K1 () h5))))
theorem Cl (m_0:Int×Int×Int×Int×Int×Int×Sl×Sl) (x_1:ByteArray×Int×Int×Sl) {R:Value→Heap→Prop} {h:Heap} (hm:vZ m_0 x_1 R h):ab Tryz.prog 85 #[(.agg #[(.int .i64 m_0.1),(.int .i64 m_0.2.1),(.int .i64 m_0.2.2.1),(.int .i64 m_0.2.2.2.1),(.int .i64 m_0.2.2.2.2.1),(.int .i64 m_0.2.2.2.2.2.1),(.slice m_0.2.2.2.2.2.2.1.ptr m_0.2.2.2.2.2.2.1.len m_0.2.2.2.2.2.2.1.cap),(.slice m_0.2.2.2.2.2.2.2.ptr m_0.2.2.2.2.2.2.2.len m_0.2.2.2.2.2.2.2.cap)]),(.agg #[(.string x_1.1),(.int .i64 x_1.2.1),(.int .i64 x_1.2.2.1),(.slice x_1.2.2.2.ptr x_1.2.2.2.len x_1.2.2.2.cap)])] h R:=aq ag Tryz.func85 (.two .n (.two (.join [] [(4,5),(6,33)] .n) .n)) hm
abbrev eS:FuncId:=86
noncomputable def df (s_0:Sl) (f_1:FuncId×Array Value×Array Value) (R:Value→Heap→Prop) (h:Heap):Prop:=
 af Tryz.prog 143 #[(.slice s_0.ptr s_0.len s_0.cap),(.func (.func f_1.1) f_1.2.1 f_1.2.2)] (.one (.sc (.int .i64))) h fun r1 h1=>
 R (.bool (decide (r1≥(0:Int)))) h1
theorem eI (s_0:Sl) (f_1:FuncId×Array Value×Array Value) {R:Value→Heap→Prop} {h:Heap} (hm:df s_0 f_1 R h):ab Tryz.prog 86 #[(.slice s_0.ptr s_0.len s_0.cap),(.func (.func f_1.1) f_1.2.1 f_1.2.2)] h R:=aq ag Tryz.func86 .n hm
abbrev od:FuncId:=87
noncomputable def wa (y_0:ByteArray×Int×Int×Sl) (cap_1:Addr) (R:Value→Heap→Prop) (h:Heap):Prop:=
 aK Tryz.prog (Instr.box 89 (.agg #[(.string y_0.1),(.int .i64 y_0.2.1),(.int .i64 y_0.2.2.1),(.slice y_0.2.2.2.ptr y_0.2.2.2.len y_0.2.2.2.cap)])) h fun a1 h1=>
 ∃x2:Int,cellOf h1 (a1.add 1)=some (.int .i64 x2)∧
 ∃x3:Int,cellOf h1 (cap_1.add 1)=some (.int .i64 x3)∧
 R (.bool (x2==x3)) h1
theorem Cm (y_0:ByteArray×Int×Int×Sl) (cap_1:Addr) {R:Value→Heap→Prop} {h:Heap} (hm:wa y_0 cap_1 R h):ab Tryz.prog 87 #[(.agg #[(.string y_0.1),(.int .i64 y_0.2.1),(.int .i64 y_0.2.2.1),(.slice y_0.2.2.2.ptr y_0.2.2.2.len y_0.2.2.2.cap)]),(.pointer (some cap_1))] h R:=aq ag Tryz.func87 .n hm
abbrev Fu:FuncId:=88
noncomputable def yg (l_0:Sl) (R:Value→Heap→Prop) (h:Heap):Prop:=
 aO (σ:=Sl×Int) (fun s1 K1 h1=>
 Br (decide (s1.2<((l_0.len:Nat):Int)))
 (∃a2:Addr,(l_0.ptr=some a2∧0≤s1.2∧s1.2<((l_0.len:Nat):Int))∧
 ∃x3:Sl,cellOf h1 (a2.add (s1.2.toNat*1))=some (.slice x3.ptr x3.len x3.cap)∧
 af Tryz.prog 109 #[(.slice x3.ptr x3.len x3.cap)] (.one (.sc .slc)) h1 fun r4 h2=>
 az Tryz.prog (Instr.buildSlice 65 1 #[(0,(.slice r4.ptr r4.len r4.cap))]) (.one (.sc .slc)) h2 fun v5 h3=>
 az Tryz.prog (Builtin.append_ #[65,65] 65 #[(.slice s1.1.ptr s1.1.len s1.1.cap),(.slice v5.ptr v5.len v5.cap)]) (.one (.sc .slc)) h3 fun v6 h4=>
 K1 ((⟨v6.ptr,v6.len,v6.cap⟩:Sl),IntKind.wrap .i64 (s1.2+(1:Int))) h4)
 (R (.slice s1.1.ptr s1.1.len s1.1.cap) h1)) ((⟨none,0,0⟩:Sl),(0:Int)) h
theorem DT (l_0:Sl) {R:Value→Heap→Prop} {h:Heap} (hm:yg l_0 R h):ab Tryz.prog 88 #[(.slice l_0.ptr l_0.len l_0.cap)] h R:=aq ag Tryz.func88 (.two .n (.two .n (.two (.two .n (.inn (.loop [(3,(.sc .slc)),(8,(.sc (.int .i64)))] [(3,4),(5,6),(8,18)] .n))) .n))) hm
abbrev Fv:FuncId:=90
noncomputable def yh (s_0:ByteArray) (R:Value→Heap→Prop) (h:Heap):Prop:=
 az Tryz.prog (convert 9 46 (.string s_0)) (.one (.sc .slc)) h fun v1 h1=>
 aO (σ:=Int) (fun s2 K1 h2=>
 Br (decide (s2<((v1.len:Nat):Int)))
 (∃a3:Addr,(v1.ptr=some a3∧0≤s2∧s2<((v1.len:Nat):Int))∧
 ∃x4:Int,cellOf h2 (a3.add (s2.toNat*1))=some (.int .u8 x4)∧
 Br (decide (x4<(97:Int))) (Br (decide (x4<(48:Int))) (Br (x4 !=(45:Int))
 (R (.bool false) h2)
 (K1 (IntKind.wrap .i64 (s2+(1:Int))) h2)) (Br (decide (x4>(57:Int))) (Br (x4 !=(45:Int))
 (R (.bool false) h2)
 (K1 (IntKind.wrap .i64 (s2+(1:Int))) h2)) (K1 (IntKind.wrap .i64 (s2+(1:Int))) h2))) (Br (decide (x4>(122:Int))) (Br (decide (x4<(48:Int))) (Br (x4 !=(45:Int))
 (R (.bool false) h2)
 (K1 (IntKind.wrap .i64 (s2+(1:Int))) h2)) (Br (decide (x4>(57:Int))) (Br (x4 !=(45:Int))
 (R (.bool false) h2)
 (K1 (IntKind.wrap .i64 (s2+(1:Int))) h2)) (K1 (IntKind.wrap .i64 (s2+(1:Int))) h2))) (K1 (IntKind.wrap .i64 (s2+(1:Int))) h2)))
 (Br (decide (((s_0.size:Nat):Int)≥(1:Int))) (R (.bool (decide (((s_0.size:Nat):Int)≤(12:Int)))) h2) (R (.bool false) h2))) (0:Int) h1
theorem DU (s_0:ByteArray) {R:Value→Heap→Prop} {h:Heap} (hm:yh s_0 R h):ab Tryz.prog 90 #[(.string s_0)] h R:=aq ag Tryz.func90 (.two .n (.two (.two .n (.inn (.loop [(8,(.sc (.int .i64)))] [(2,3),(4,5),(8,31)] .n))) .n)) hm
abbrev u7:FuncId:=91
noncomputable def nG (s_0:Option Addr) (name_1:ByteArray) (R:Value→Heap→Prop) (h:Heap):Prop:=
 aK Tryz.prog (Instr.box 9 (.string name_1)) h fun a1 h1=>
 ∃a2:Addr,(s_0=some a2)∧
 ∃x3:Sl,cellOf h1 (a2.add 7)=some (.slice x3.ptr x3.len x3.cap)∧
 af Tryz.prog 143 #[(.slice x3.ptr x3.len x3.cap),(.func (.func 144) #[] #[(.pointer (some a1))])] (.one (.sc (.int .i64))) h1 fun r4 h2=>
 R (.int .i64 r4) h2
theorem tw (s_0:Option Addr) (name_1:ByteArray) {R:Value→Heap→Prop} {h:Heap} (hm:nG s_0 name_1 R h):ab Tryz.prog 91 #[(.pointer s_0),(.string name_1)] h R:=aq ag Tryz.func91 .n hm
abbrev Fy:FuncId:=92
noncomputable def yi (p_0:Int×Int×Int) (object_1:Int) (block_2:Int) (R:Value→Heap→Prop) (h:Heap):Prop:=
 aK Tryz.prog (Instr.box 24 (.agg #[(.int .i64 p_0.1),(.int .i64 p_0.2.1),(.int .i64 p_0.2.2)])) h fun a1 h1=>
 aO (σ:=Int) (fun s2 K1 h2=>
 Br (decide (s2<(16:Int)))
 (∃x3:Int×Int×Int,ai h2 a1 0 [(.int .i64 x3.1),(.int .i64 x3.2.1),(.int .i64 x3.2.2)]∧
 af Tryz.prog 95 #[(.int .i64 object_1),(.int .i64 block_2),(.int .i64 s2)] (.one (.sc (.int .u32))) h2 fun r4 h3=>
 (ak.ok [(a1,(.int .i64 x3.1)),(a1.add 1,(.int .i64 x3.2.1)),(a1.add 2,(.int .i64 x3.2.2))] h3)∧
 af Tryz.prog 145 #[(.agg #[(.int .i64 x3.1),(.int .i64 x3.2.1),(.int .i64 x3.2.2)]),(.int .u32 r4)] (.one (.sc .bool)) h3 fun r5 h4=>
 (ak.ok [] h4)∧
 Br r5
 (R (.tuple #[(.int .i64 s2),(.bool true)]) h4)
 (K1 (IntKind.wrap .i64 (s2+(1:Int))) h4))
 (R (.tuple #[(.int .i64 (0:Int)),(.bool false)]) h2)) (0:Int) h1
theorem DV (p_0:Int×Int×Int) (object_1:Int) (block_2:Int) {R:Value→Heap→Prop} {h:Heap} (hm:yi p_0 object_1 block_2 R h):ab Tryz.prog 92 #[(.agg #[(.int .i64 p_0.1),(.int .i64 p_0.2.1),(.int .i64 p_0.2.2)]),(.int .i64 object_1),(.int .i64 block_2)] h R:=aq ag Tryz.func92 (.two .n (.two (.two .n (.inn (.loop [(9,(.sc (.int .i64)))] [(6,20)] .n))) .n)) hm
abbrev DW:FuncId:=93
noncomputable def pK (p_0:Int×Int×Int) (R:Value→Heap→Prop) (h:Heap):Prop:=
 aK Tryz.prog (Instr.box 24 (.agg #[(.int .i64 p_0.1),(.int .i64 p_0.2.1),(.int .i64 p_0.2.2)])) h fun a1 h1=>
 ∃x2:Int,cellOf h1 a1=some (.int .i64 x2)∧
 ∃x3:Int,cellOf h1 (a1.add 2)=some (.int .i64 x3)∧
 R (.int .i64 (IntKind.wrap .i64 (x2*x3))) h1
theorem rV (p_0:Int×Int×Int) {R:Value→Heap→Prop} {h:Heap} (hm:pK p_0 R h):ab Tryz.prog 93 #[(.agg #[(.int .i64 p_0.1),(.int .i64 p_0.2.1),(.int .i64 p_0.2.2)])] h R:=aq ag Tryz.func93 .n hm
abbrev Cn:FuncId:=94
noncomputable def uz (p_0:Int×Int×Int) (b_1:Sl) (R:Value→Heap→Prop) (h:Heap):Prop:=
 aK Tryz.prog (Instr.box 24 (.agg #[(.int .i64 p_0.1),(.int .i64 p_0.2.1),(.int .i64 p_0.2.2)])) h fun a1 h1=>
 ∃x2:Int×Int×Int,ai h1 a1 0 [(.int .i64 x2.1),(.int .i64 x2.2.1),(.int .i64 x2.2.2)]∧
 af Tryz.prog 49 #[(.agg #[(.int .i64 x2.1),(.int .i64 x2.2.1),(.int .i64 x2.2.2)]),(.int .i64 ((b_1.len:Nat):Int))] (.one (.sc (.int .i64))) h1 fun r3 h2=>
 aO (σ:=Sl×Int) (fun s4 K1 h3=>
 Br (decide (s4.2<r3))
 (∃x5:Int×Int×Int,ai h3 a1 0 [(.int .i64 x5.1),(.int .i64 x5.2.1),(.int .i64 x5.2.2)]∧
 af Tryz.prog 93 #[(.agg #[(.int .i64 x5.1),(.int .i64 x5.2.1),(.int .i64 x5.2.2)])] (.one (.sc (.int .i64))) h3 fun r6 h4=>
 az Tryz.prog (Instr.makeSlice 46 (.int .i64 r6) (.int .i64 r6)) (.one (.sc .slc)) h4 fun v7 h5=>
 ∃x8:Int×Int×Int,ai h5 a1 0 [(.int .i64 x8.1),(.int .i64 x8.2.1),(.int .i64 x8.2.2)]∧
 af Tryz.prog 93 #[(.agg #[(.int .i64 x8.1),(.int .i64 x8.2.1),(.int .i64 x8.2.2)])] (.one (.sc (.int .i64))) h5 fun r9 h6=>
 (0≤(IntKind.wrap .i64 (s4.2*r9))∧(IntKind.wrap .i64 (s4.2*r9))≤((b_1.len:Nat):Int))∧
 az Tryz.prog (Builtin.copy_ #[46,46] 3 #[(.slice v7.ptr v7.len v7.cap),(.slice (if b_1.cap=(IntKind.wrap .i64 (s4.2*r9)).toNat then b_1.ptr else b_1.ptr.map (·.add ((IntKind.wrap .i64 (s4.2*r9)).toNat*1))) (b_1.len-(IntKind.wrap .i64 (s4.2*r9)).toNat) (b_1.cap-(IntKind.wrap .i64 (s4.2*r9)).toNat))]) (.one (.sc (.int .i64))) h6 fun _ h7=>
 az Tryz.prog (Instr.buildSlice 65 1 #[(0,(.slice v7.ptr v7.len v7.cap))]) (.one (.sc .slc)) h7 fun v11 h8=>
 az Tryz.prog (Builtin.append_ #[65,65] 65 #[(.slice s4.1.ptr s4.1.len s4.1.cap),(.slice v11.ptr v11.len v11.cap)]) (.one (.sc .slc)) h8 fun v12 h9=>
 K1 ((⟨v12.ptr,v12.len,v12.cap⟩:Sl),IntKind.wrap .i64 (s4.2+(1:Int))) h9)
 (R (.slice s4.1.ptr s4.1.len s4.1.cap) h3)) ((⟨none,0,0⟩:Sl),(0:Int)) h2
theorem Av (p_0:Int×Int×Int) (b_1:Sl) {R:Value→Heap→Prop} {h:Heap} (hm:uz p_0 b_1 R h):ab Tryz.prog 94 #[(.agg #[(.int .i64 p_0.1),(.int .i64 p_0.2.1),(.int .i64 p_0.2.2)]),(.slice b_1.ptr b_1.len b_1.cap)] h R:=aq ag Tryz.func94 (.two .n (.two .n (.two (.two .n (.inn (.loop [(5,(.sc .slc)),(12,(.sc (.int .i64)))] [(5,8),(12,31)] .n))) .n))) hm
abbrev Fz:FuncId:=95
noncomputable def yj (o_0:Int) (b_1:Int) (try_2:Int) (R:Value→Heap→Prop) (h:Heap):Prop:=
 R (.int .u32 (IntKind.wrap .u32 ((IntKind.wrap .u32 ((IntKind.wrap .u32 ((128:Int)*(IntKind.wrap .u32 o_0)))+(IntKind.wrap .u32 ((16:Int)*(IntKind.wrap .u32 b_1)))))+(IntKind.wrap .u32 try_2)))) h
theorem DX (o_0:Int) (b_1:Int) (try_2:Int) {R:Value→Heap→Prop} {h:Heap} (hm:yj o_0 b_1 try_2 R h):ab Tryz.prog 95 #[(.int .i64 o_0),(.int .i64 b_1),(.int .i64 try_2)] h R:=aq ag Tryz.func95 .n hm
abbrev uA:FuncId:=96
noncomputable def wb (p_0:Int×Int×Int) (seed_1:Int) (data_2:Sl) (R:Value→Heap→Prop) (h:Heap):Prop:=
 aK Tryz.prog (Instr.box 24 (.agg #[(.int .i64 p_0.1),(.int .i64 p_0.2.1),(.int .i64 p_0.2.2)])) h fun a1 h1=>
 aZ (σ:=Unit) (fun _ h3=>
 ∃x7:Int×Int×Int,ai h3 a1 0 [(.int .i64 x7.1),(.int .i64 x7.2.1),(.int .i64 x7.2.2)]∧
 af Tryz.prog 145 #[(.agg #[(.int .i64 x7.1),(.int .i64 x7.2.1),(.int .i64 x7.2.2)]),(.int .u32 seed_1)] (.one (.sc .bool)) h3 fun r8 h4=>
 Br (!r8)
 (R (.tuple #[(.pointer none),(.int .i64 (8:Int))]) h4)
 (∃x9:Int,cellOf h4 (a1.add 1)=some (.int .i64 x9)∧
 aO (σ:=Sl×Int) (fun s10 K2 h5=>
 Br (decide (s10.2<x9))
 (∃x11:Int,cellOf h5 (a1.add 2)=some (.int .i64 x11)∧
 az Tryz.prog (Instr.makeSlice 46 (.int .i64 x11) (.int .i64 x11)) (.one (.sc .slc)) h5 fun v12 h6=>
 az Tryz.prog (Instr.buildSlice 65 1 #[(0,(.slice v12.ptr v12.len v12.cap))]) (.one (.sc .slc)) h6 fun v13 h7=>
 az Tryz.prog (Builtin.append_ #[65,65] 65 #[(.slice s10.1.ptr s10.1.len s10.1.cap),(.slice v13.ptr v13.len v13.cap)]) (.one (.sc .slc)) h7 fun v14 h8=>
 K2 ((⟨v14.ptr,v14.len,v14.cap⟩:Sl),IntKind.wrap .i64 (s10.2+(1:Int))) h8)
 (∃x15:Int,cellOf h5 a1=some (.int .i64 x15)∧
 aO (σ:=Sl×Int) (fun s16 K3 h9=>
 Br (decide (s16.2<x15))
 (∃x17:Int,cellOf h9 (a1.add 2)=some (.int .i64 x17)∧
 ∃x18:Int,cellOf h9 (a1.add 2)=some (.int .i64 x18)∧
 (0≤(IntKind.wrap .i64 (s16.2*x17))∧(IntKind.wrap .i64 (s16.2*x17))≤(IntKind.wrap .i64 ((IntKind.wrap .i64 (s16.2+(1:Int)))*x18))∧(IntKind.wrap .i64 ((IntKind.wrap .i64 (s16.2+(1:Int)))*x18))≤((data_2.cap:Nat):Int))∧
 az Tryz.prog (Instr.buildSlice 65 1 #[(0,(.slice (if data_2.cap=(IntKind.wrap .i64 (s16.2*x17)).toNat then data_2.ptr else data_2.ptr.map (·.add ((IntKind.wrap .i64 (s16.2*x17)).toNat*1))) ((IntKind.wrap .i64 ((IntKind.wrap .i64 (s16.2+(1:Int)))*x18)).toNat-(IntKind.wrap .i64 (s16.2*x17)).toNat) (data_2.cap-(IntKind.wrap .i64 (s16.2*x17)).toNat)))]) (.one (.sc .slc)) h9 fun v19 h10=>
 az Tryz.prog (Builtin.append_ #[65,65] 65 #[(.slice s16.1.ptr s16.1.len s16.1.cap),(.slice v19.ptr v19.len v19.cap)]) (.one (.sc .slc)) h10 fun v20 h11=>
 K3 ((⟨v20.ptr,v20.len,v20.cap⟩:Sl),IntKind.wrap .i64 (s16.2+(1:Int))) h11)
 (aZ (σ:=Sl×Int) (fun s27 h16=>
 Br (s27.2 !=(0:Int))
 (R (.tuple #[(.pointer none),(.int .i64 (8:Int))]) h16)
 (∃x28:Int×Int×Int,ai h16 a1 0 [(.int .i64 x28.1),(.int .i64 x28.2.1),(.int .i64 x28.2.2)]∧
 aK Tryz.prog (Instr.box 190 (.agg #[(.int .i64 x28.1),(.int .i64 x28.2.1),(.int .i64 x28.2.2),(.int .u32 seed_1),(.slice s27.1.ptr s27.1.len s27.1.cap)])) h16 fun a29 h17=>
 R (.tuple #[(.pointer (some a29)),(.int .i64 (0:Int))]) h17))
 (fun K4=>
 ∃x21:Int×Int×Int,ai h9 a1 0 [(.int .i64 x21.1),(.int .i64 x21.2.1),(.int .i64 x21.2.2)]∧
 ∃x22:Int×Int×Int,ai h9 a1 0 [(.int .i64 x22.1),(.int .i64 x22.2.1),(.int .i64 x22.2.2)]∧
 af Tryz.prog 147 #[] (.one (.sc .ptr)) h9 fun r23 h12=>
 (ak.ok [(a1,(.int .i64 x22.1)),(a1.add 1,(.int .i64 x22.2.1)),(a1.add 2,(.int .i64 x22.2.2)),(a1,(.int .i64 x21.1)),(a1.add 1,(.int .i64 x21.2.1)),(a1.add 2,(.int .i64 x21.2.2))] h12)∧
 af Tryz.prog 149 #[(.agg #[(.int .i64 x22.1),(.int .i64 x22.2.1),(.int .i64 x22.2.2)])] (.one (.sc .slc)) h12 fun r24 h13=>
 (ak.ok [(a1,(.int .i64 x21.1)),(a1.add 1,(.int .i64 x21.2.1)),(a1.add 2,(.int .i64 x21.2.2))] h13)∧
 af Tryz.prog 148 #[(.agg #[(.int .i64 x21.1),(.int .i64 x21.2.1),(.int .i64 x21.2.2)]),(.int .u32 seed_1),(.slice r24.ptr r24.len r24.cap)] (.one (.sc .slc)) h13 fun r25 h14=>
 (ak.ok [] h14)∧
 af Tryz.prog 146 #[(.pointer r23),(.slice r25.ptr r25.len r25.cap),(.slice s16.1.ptr s16.1.len s16.1.cap)] (.many [(.sc .slc),(.sc (.int .i64))]) h14 fun r26 h15=>
 (ak.ok [] h15)∧
 K4 ((⟨r26.1.ptr,r26.1.len,r26.1.cap⟩:Sl),r26.2) h15))) ((⟨s10.1.ptr,s10.1.len,s10.1.cap⟩:Sl),(0:Int)) h5)) ((⟨none,0,0⟩:Sl),(0:Int)) h4))
 (fun K1=>
 ∃x2:Int×Int×Int,ai h1 a1 0 [(.int .i64 x2.1),(.int .i64 x2.2.1),(.int .i64 x2.2.2)]∧
 af Tryz.prog 27 #[(.agg #[(.int .i64 x2.1),(.int .i64 x2.2.1),(.int .i64 x2.2.2)])] (.one (.sc .bool)) h1 fun r3 h2=>
 Br (!r3) (R (.tuple #[(.pointer none),(.int .i64 (1:Int))]) h2) (∃x4:Int,cellOf h2 a1=some (.int .i64 x4)∧
 ∃x5:Int,cellOf h2 (a1.add 2)=some (.int .i64 x5)∧
 Br (((data_2.len:Nat):Int) !=(IntKind.wrap .i64 (x4*x5)))
 (R (.tuple #[(.pointer none),(.int .i64 (1:Int))]) h2)
 (K1 () h2)))
theorem Co (p_0:Int×Int×Int) (seed_1:Int) (data_2:Sl) {R:Value→Heap→Prop} {h:Heap} (hm:wb p_0 seed_1 data_2 R h):ab Tryz.prog 96 #[(.agg #[(.int .i64 p_0.1),(.int .i64 p_0.2.1),(.int .i64 p_0.2.2)]),(.int .u32 seed_1),(.slice data_2.ptr data_2.len data_2.cap)] h R:=aq ag Tryz.func96 (.two .n (.two (.join [] [(6,8),(12,25)] .n) (.two .n (.two .n (.two (.two .n (.inn (.loop [(8,(.sc .slc)),(31,(.sc (.int .i64)))] [(8,9),(31,40)] .n))) (.two (.two .n (.inn (.loop [(8,(.sc .slc)),(42,(.sc (.int .i64)))] [(8,10),(42,60)] .n))) (.two (.join [(10,(.sc .slc)),(11,(.sc (.int .i64)))] [(10,12),(60,71)] .n) .n))))))) hm
abbrev Cp:FuncId:=97
noncomputable def uB (object_0:Int) (block_1:Int) (live_2:Sl) (R:Value→Heap→Prop) (h:Heap):Prop:=
 aZ (σ:=Unit) (fun _ h1=>
 ((64:Int)≠0)∧
 af Tryz.prog 150 #[(.int .i64 (Int.tmod (IntKind.wrap .i64 ((IntKind.wrap .i64 ((8:Int)*object_0))+block_1)) (64:Int)))] (.one (.sc (.cpx .f64))) h1 fun r2 h2=>
 aK Tryz.prog (Instr.alloc 194 true (.tuple #[])) h2 fun a3 h3=>
 aO (σ:=Sl×Int) (fun s4 K2 h4=>
 Br (decide (s4.2<((live_2.len:Nat):Int)))
 (∃a5:Addr,(live_2.ptr=some a5∧0≤s4.2∧s4.2<((live_2.len:Nat):Int))∧
 ∃x6:Int,cellOf h4 (a5.add (s4.2.toNat*1))=some (.int .i64 x6)∧
 aZ (σ:=Bool) (fun s8 h5=>
 Br s8
 ((0≤x6∧x6<((64:Nat):Int))∧
 ae Tryz.prog (Instr.storeAt 4 (.pointer (some (a3.add (x6.toNat*1)))) (.bool true)) h5 fun _ h6=>
 af Tryz.prog 150 #[(.int .i64 x6)] (.one (.sc (.cpx .f64))) h6 fun r9 h7=>
 af Tryz.prog 151 #[(.complex .f64 r9.1 r9.2),(.complex .f64 r2.1 r2.2)] (.one (.sc (.flt .f64))) h7 fun r10 h8=>
 az Tryz.prog (Instr.buildSlice 193 1 #[(0,(.agg #[(.int .i64 x6),(.float .f64 r10)]))]) (.one (.sc .slc)) h8 fun v11 h9=>
 az Tryz.prog (Builtin.append_ #[193,193] 193 #[(.slice s4.1.ptr s4.1.len s4.1.cap),(.slice v11.ptr v11.len v11.cap)]) (.one (.sc .slc)) h9 fun v12 h10=>
 K2 ((⟨v12.ptr,v12.len,v12.cap⟩:Sl),IntKind.wrap .i64 (s4.2+(1:Int))) h10)
 (K2 ((⟨s4.1.ptr,s4.1.len,s4.1.cap⟩:Sl),IntKind.wrap .i64 (s4.2+(1:Int))) h5))
 (fun K3=>
 Br (decide (x6≥(0:Int))) (Br (decide (x6<(64:Int))) ((0≤x6∧x6<((64:Nat):Int))∧
 ∃x7:Bool,cellOf h4 (a3.add (x6.toNat*1))=some (.bool x7)∧
 K3 (!x7) h4) (K3 false h4)) (K3 false h4)))
 (af Tryz.prog 152 #[(.slice s4.1.ptr s4.1.len s4.1.cap),(.func (.func 153) #[] #[])] (.many []) h4 fun _ h11=>
 aO (σ:=Sl×Int) (fun s14 K4 h12=>
 Br (decide (s14.2<((s4.1.len:Nat):Int)))
 (∃a15:Addr,(s4.1.ptr=some a15∧0≤s14.2∧s14.2<((s4.1.len:Nat):Int))∧
 ∃x16:Int×Nat,ai h12 (a15.add (s14.2.toNat*2)) 0 [(.int .i64 x16.1),(.float .f64 x16.2)]∧
 aK Tryz.prog (Instr.alloc 198 true (.tuple #[])) h12 fun a17 h13=>
 ae Tryz.prog (Instr.storeAt 198 (.pointer (some a17)) (.agg #[(.int .i64 x16.1),(.float .f64 x16.2)])) h13 fun _ h14=>
 ∃x18:Int,cellOf h14 a17=some (.int .i64 x18)∧
 az Tryz.prog (Instr.buildSlice 22 1 #[(0,(.int .i64 x18))]) (.one (.sc .slc)) h14 fun v19 h15=>
 az Tryz.prog (Builtin.append_ #[22,22] 22 #[(.slice s14.1.ptr s14.1.len s14.1.cap),(.slice v19.ptr v19.len v19.cap)]) (.one (.sc .slc)) h15 fun v20 h16=>
 K4 ((⟨v20.ptr,v20.len,v20.cap⟩:Sl),IntKind.wrap .i64 (s14.2+(1:Int))) h16)
 (R (.slice s14.1.ptr s14.1.len s14.1.cap) h12)) ((⟨none,0,0⟩:Sl),(0:Int)) h11)) ((⟨none,0,0⟩:Sl),(0:Int)) h3)
 (fun K1=>
 Br (decide (object_0<(0:Int))) (R (.slice none 0 0) h) (Br (decide (object_0>(16777215:Int))) (R (.slice none 0 0) h) (Br (decide (block_1<(0:Int))) (R (.slice none 0 0) h) (Br (decide (block_1≥(8:Int)))
 (R (.slice none 0 0) h)
 (K1 () h)))))
theorem Aw (object_0:Int) (block_1:Int) (live_2:Sl) {R:Value→Heap→Prop} {h:Heap} (hm:uB object_0 block_1 live_2 R h):ab Tryz.prog 97 #[(.int .i64 object_0),(.int .i64 block_1),(.slice live_2.ptr live_2.len live_2.cap)] h R:=aq ag Tryz.func97 (.two .n (.two (.join [] [(6,7),(15,29)] .n) (.two .n (.two .n (.two .n (.two (.two .n (.inn (.loop [(8,(.sc .slc)),(37,(.sc (.int .i64)))] [(8,9),(11,12),(37,65)] (.two .n (.two .n (.two (.inn (.two .n (.two (.join [(52,(.sc .bool))] [(41,53)] .n) .n))) .n)))))) (.two .n (.two .n (.two (.two .n (.inn (.loop [(12,(.sc .slc)),(69,(.sc (.int .i64)))] [(12,13),(14,15),(69,79)] .n))) .n))))))))) hm
abbrev kH:FuncId:=98
noncomputable def kZ (b_0:Option Addr) (id_1:Int) (R:Value→Heap→Prop) (h:Heap):Prop:=
 aZ (σ:=Unit) (fun _ h1=>
 ∃a2:Addr,(b_0=some a2)∧
 ∃x3:Int,cellOf h1 (a2.add 2)=some (.int .i64 x3)∧
 az Tryz.prog (Instr.makeSlice 46 (.int .i64 x3) (.int .i64 x3)) (.one (.sc .slc)) h1 fun v4 h2=>
 ∃a5:Addr,(b_0=some a5)∧
 ∃x6:Int×Int×Int,ai h2 a5 0 [(.int .i64 x6.1),(.int .i64 x6.2.1),(.int .i64 x6.2.2)]∧
 ∃a7:Addr,(b_0=some a7)∧
 ∃x8:Int,cellOf h2 (a7.add 3)=some (.int .u32 x8)∧
 af Tryz.prog 155 #[(.agg #[(.int .i64 x6.1),(.int .i64 x6.2.1),(.int .i64 x6.2.2)]),(.int .u32 x8),(.int .i64 id_1)] (.one (.sc .slc)) h2 fun r9 h3=>
 (ak.ok [] h3)∧
 aO (σ:=Int) (fun s10 K2 h4=>
 Br (decide (s10<((r9.len:Nat):Int)))
 (∃a11:Addr,(r9.ptr=some a11∧0≤s10∧s10<((r9.len:Nat):Int))∧
 ∃x12:Int,cellOf h4 (a11.add (s10.toNat*1))=some (.int .i64 x12)∧
 ∃a13:Addr,(b_0=some a13)∧
 ∃x14:Sl,cellOf h4 (a13.add 4)=some (.slice x14.ptr x14.len x14.cap)∧
 ∃a15:Addr,(x14.ptr=some a15∧0≤x12∧x12<((x14.len:Nat):Int))∧
 ∃x16:Sl,cellOf h4 (a15.add (x12.toNat*1))=some (.slice x16.ptr x16.len x16.cap)∧
 aO (σ:=Int) (fun s17 K3 h5=>
 Br (decide (s17<((x16.len:Nat):Int)))
 (∃a18:Addr,(x16.ptr=some a18∧0≤s17∧s17<((x16.len:Nat):Int))∧
 ∃x19:Int,cellOf h5 (a18.add (s17.toNat*1))=some (.int .u8 x19)∧
 ∃a20:Addr,(v4.ptr=some a20∧0≤s17∧s17<((v4.len:Nat):Int))∧
 ∃x21:Int,cellOf h5 (a20.add (s17.toNat*1))=some (.int .u8 x21)∧
 ∃a22:Addr,(v4.ptr=some a22∧0≤s17∧s17<((v4.len:Nat):Int))∧
 ae Tryz.prog (Instr.storeAt 5 (.pointer (some (a22.add (s17.toNat*1)))) (.int .u8 (IntKind.wrap .u8 ((BitVec.ofInt (IntKind.bits .u8) x21^^^(BitVec.ofInt (IntKind.bits .u8) x19)).toNat:Nat)))) h5 fun _ h6=>
 K3 (IntKind.wrap .i64 (s17+(1:Int))) h6)
 (K2 (IntKind.wrap .i64 (s10+(1:Int))) h5)) (0:Int) h4)
 (R (.slice v4.ptr v4.len v4.cap) h4)) (0:Int) h3)
 (fun K1=>
 Br (Option.isNone b_0) (R (.slice none 0 0) h) (Br (decide (id_1<(0:Int))) (R (.slice none 0 0) h) (Br (decide (id_1>(65535:Int)))
 (R (.slice none 0 0) h)
 (K1 () h))))
theorem ql (b_0:Option Addr) (id_1:Int) {R:Value→Heap→Prop} {h:Heap} (hm:kZ b_0 id_1 R h):ab Tryz.prog 98 #[(.pointer b_0),(.int .i64 id_1)] h R:=aq ag Tryz.func98 (.two .n (.two (.join [] [(4,5),(10,20)] .n) (.two .n (.two (.two .n (.inn (.loop [(37,(.sc (.int .i64)))] [(7,10),(37,63)] (.two .n (.two .n (.two (.inn (.two .n (.two .n (.inn (.loop [(49,(.sc (.int .i64)))] [(8,10),(49,62)] .n))))) .n)))))) .n)))) hm
abbrev Hg:FuncId:=99
noncomputable def Ax (order_0:Sl) (id_1:Int) (R:Value→Heap→Prop) (h:Heap):Prop:=
 aZ (σ:=Unit) (fun _ h1=>
 (((order_0.len:Nat):Int)≠0)∧
 ∃a2:Addr,(order_0.ptr=some a2∧0≤(Int.tmod id_1 ((order_0.len:Nat):Int))∧(Int.tmod id_1 ((order_0.len:Nat):Int))<((order_0.len:Nat):Int))∧
 ∃x3:Int,cellOf h1 (a2.add ((Int.tmod id_1 ((order_0.len:Nat):Int)).toNat*1))=some (.int .i64 x3)∧
 R (.int .i64 x3) h1)
 (fun K1=>
 Br (((order_0.len:Nat):Int)==(0:Int)) (R (.int .i64 (-1:Int)) h) (Br (decide (id_1<(0:Int)))
 (R (.int .i64 (-1:Int)) h)
 (K1 () h)))
theorem FA (order_0:Sl) (id_1:Int) {R:Value→Heap→Prop} {h:Heap} (hm:Ax order_0 id_1 R h):ab Tryz.prog 99 #[(.slice order_0.ptr order_0.len order_0.cap),(.int .i64 id_1)] h R:=aq ag Tryz.func99 (.two .n (.two (.join [] [(4,12)] .n) .n)) hm
abbrev DY:FuncId:=100
noncomputable def wc (r_0:Int×Int×Int×Int×Int×Int×Int×Sl) (R:Value→Heap→Prop) (h:Heap):Prop:=
 aK Tryz.prog (Instr.box 103 (.agg #[(.int .i64 r_0.1),(.int .i64 r_0.2.1),(.int .i64 r_0.2.2.1),(.int .i64 r_0.2.2.2.1),(.int .i64 r_0.2.2.2.2.1),(.int .i64 r_0.2.2.2.2.2.1),(.int .u32 r_0.2.2.2.2.2.2.1),(.slice r_0.2.2.2.2.2.2.2.ptr r_0.2.2.2.2.2.2.2.len r_0.2.2.2.2.2.2.2.cap)])) h fun a1 h1=>
 ∃x2:Int×Int×Int×Int×Int×Int×Int×Sl,ai h1 a1 0 [(.int .i64 x2.1),(.int .i64 x2.2.1),(.int .i64 x2.2.2.1),(.int .i64 x2.2.2.2.1),(.int .i64 x2.2.2.2.2.1),(.int .i64 x2.2.2.2.2.2.1),(.int .u32 x2.2.2.2.2.2.2.1),(.slice x2.2.2.2.2.2.2.2.ptr x2.2.2.2.2.2.2.2.len x2.2.2.2.2.2.2.2.cap)]∧
 af Tryz.prog 110 #[(.agg #[(.int .i64 x2.1),(.int .i64 x2.2.1),(.int .i64 x2.2.2.1),(.int .i64 x2.2.2.2.1),(.int .i64 x2.2.2.2.2.1),(.int .i64 x2.2.2.2.2.2.1),(.int .u32 x2.2.2.2.2.2.2.1),(.slice x2.2.2.2.2.2.2.2.ptr x2.2.2.2.2.2.2.2.len x2.2.2.2.2.2.2.2.cap)])] (.one (.sc .bool)) h1 fun r3 h2=>
 Br (!r3)
 (R (.slice none 0 0) h2)
 (∃x4:Int,cellOf h2 a1=some (.int .i64 x4)∧
 af Tryz.prog 156 #[(.slice none 0 0),(.int .i64 x4),(.int .i64 (3:Int))] (.one (.sc .slc)) h2 fun r5 h3=>
 ∃x6:Int,cellOf h3 (a1.add 1)=some (.int .i64 x6)∧
 af Tryz.prog 156 #[(.slice r5.ptr r5.len r5.cap),(.int .i64 x6),(.int .i64 (1:Int))] (.one (.sc .slc)) h3 fun r7 h4=>
 ∃x8:Int,cellOf h4 (a1.add 2)=some (.int .i64 x8)∧
 af Tryz.prog 156 #[(.slice r7.ptr r7.len r7.cap),(.int .i64 x8),(.int .i64 (2:Int))] (.one (.sc .slc)) h4 fun r9 h5=>
 ∃x10:Int,cellOf h5 (a1.add 3)=some (.int .i64 x10)∧
 ∃x11:Int,cellOf h5 ((a1.add 3).add 1)=some (.int .i64 x11)∧
 ∃x12:Int,cellOf h5 ((a1.add 3).add 2)=some (.int .i64 x12)∧
 az Tryz.prog (Instr.buildSlice 46 3 #[(0,(.int .u8 (IntKind.wrap .u8 x10))),(1,(.int .u8 (IntKind.wrap .u8 x11))),(2,(.int .u8 (IntKind.wrap .u8 x12)))]) (.one (.sc .slc)) h5 fun v13 h6=>
 az Tryz.prog (Builtin.append_ #[46,46] 46 #[(.slice r9.ptr r9.len r9.cap),(.slice v13.ptr v13.len v13.cap)]) (.one (.sc .slc)) h6 fun v14 h7=>
 ∃x15:Int,cellOf h7 (a1.add 6)=some (.int .u32 x15)∧
 af Tryz.prog 156 #[(.slice v14.ptr v14.len v14.cap),(.int .i64 (IntKind.wrap .i64 x15)),(.int .i64 (4:Int))] (.one (.sc .slc)) h7 fun r16 h8=>
 ∃x17:Sl,cellOf h8 (a1.add 7)=some (.slice x17.ptr x17.len x17.cap)∧
 az Tryz.prog (Builtin.append_ #[46,46] 46 #[(.slice r16.ptr r16.len r16.cap),(.slice x17.ptr x17.len x17.cap)]) (.one (.sc .slc)) h8 fun v18 h9=>
 af Tryz.prog 125 #[(.int .i64 (1:Int)),(.slice v18.ptr v18.len v18.cap)] (.one (.sc .slc)) h9 fun r19 h10=>
 R (.slice r19.ptr r19.len r19.cap) h10)
theorem Cq (r_0:Int×Int×Int×Int×Int×Int×Int×Sl) {R:Value→Heap→Prop} {h:Heap} (hm:wc r_0 R h):ab Tryz.prog 100 #[(.agg #[(.int .i64 r_0.1),(.int .i64 r_0.2.1),(.int .i64 r_0.2.2.1),(.int .i64 r_0.2.2.2.1),(.int .i64 r_0.2.2.2.2.1),(.int .i64 r_0.2.2.2.2.2.1),(.int .u32 r_0.2.2.2.2.2.2.1),(.slice r_0.2.2.2.2.2.2.2.ptr r_0.2.2.2.2.2.2.2.len r_0.2.2.2.2.2.2.2.cap)])] h R:=aq ag Tryz.func100 .n hm
abbrev jy:FuncId:=101
noncomputable def fF (x_0:Sl) (cmp_1:FuncId×Array Value×Array Value) (R:Value→Heap→Prop) (h:Heap):Prop:=
 af Tryz.prog 77 #[(.int .u64 (IntKind.wrap .u64 ((x_0.len:Nat):Int)))] (.one (.sc (.int .i64))) h fun r1 h1=>
 af Tryz.prog 157 #[(.slice x_0.ptr x_0.len x_0.cap),(.int .i64 (0:Int)),(.int .i64 ((x_0.len:Nat):Int)),(.int .i64 r1),(.func (.func cmp_1.1) cmp_1.2.1 cmp_1.2.2)] (.many []) h1 fun _ h2=>
 R (.tuple #[]) h2
theorem jm (x_0:Sl) (cmp_1:FuncId×Array Value×Array Value) {R:Value→Heap→Prop} {h:Heap} (hm:fF x_0 cmp_1 R h):ab Tryz.prog 101 #[(.slice x_0.ptr x_0.len x_0.cap),(.func (.func cmp_1.1) cmp_1.2.1 cmp_1.2.2)] h R:=aq ag Tryz.func101 .n hm
abbrev fe:FuncId:=102
noncomputable def rW (a_0:ByteArray×Int×Int×Sl) (b_1:ByteArray×Int×Int×Sl) (R:Value→Heap→Prop) (h:Heap):Prop:=
 aK Tryz.prog (Instr.box 89 (.agg #[(.string a_0.1),(.int .i64 a_0.2.1),(.int .i64 a_0.2.2.1),(.slice a_0.2.2.2.ptr a_0.2.2.2.len a_0.2.2.2.cap)])) h fun a1 h1=>
 aK Tryz.prog (Instr.box 89 (.agg #[(.string b_1.1),(.int .i64 b_1.2.1),(.int .i64 b_1.2.2.1),(.slice b_1.2.2.2.ptr b_1.2.2.2.len b_1.2.2.2.cap)])) h1 fun a2 h2=>
 ∃x3:ByteArray,cellOf h2 a1=some (.string x3)∧
 ∃x4:ByteArray,cellOf h2 a2=some (.string x4)∧
 af Tryz.prog 103 #[(.string x3),(.string x4)] (.one (.sc (.int .i64))) h2 fun r5 h3=>
 R (.int .i64 r5) h3
theorem y9 (a_0:ByteArray×Int×Int×Sl) (b_1:ByteArray×Int×Int×Sl) {R:Value→Heap→Prop} {h:Heap} (hm:rW a_0 b_1 R h):ab Tryz.prog 102 #[(.agg #[(.string a_0.1),(.int .i64 a_0.2.1),(.int .i64 a_0.2.2.1),(.slice a_0.2.2.2.ptr a_0.2.2.2.len a_0.2.2.2.cap)]),(.agg #[(.string b_1.1),(.int .i64 b_1.2.1),(.int .i64 b_1.2.2.1),(.slice b_1.2.2.2.ptr b_1.2.2.2.len b_1.2.2.2.cap)])] h R:=aq ag Tryz.func102 .n hm
abbrev rX:FuncId:=103
noncomputable def lL (x_0:ByteArray) (y_1:ByteArray) (R:Value→Heap→Prop) (h:Heap):Prop:=
 af Tryz.prog 158 #[(.string x_0)] (.one (.sc .bool)) h fun r1 h1=>
 af Tryz.prog 158 #[(.string y_1)] (.one (.sc .bool)) h1 fun r2 h2=>
 Br r1
 (Br r2
 (R (.int .i64 (0:Int)) h2)
 (R (.int .i64 (-1:Int)) h2))
 (Br r2
 (R (.int .i64 (1:Int)) h2)
 (Br (Op.bytesLess x_0.toList y_1.toList)
 (R (.int .i64 (-1:Int)) h2)
 (Br (!(Op.bytesLess x_0.toList y_1.toList||x_0.toList==y_1.toList))
 (R (.int .i64 (1:Int)) h2)
 (R (.int .i64 (0:Int)) h2))))
theorem rj (x_0:ByteArray) (y_1:ByteArray) {R:Value→Heap→Prop} {h:Heap} (hm:lL x_0 y_1 R h):ab Tryz.prog 103 #[(.string x_0),(.string y_1)] h R:=aq ag Tryz.func103 .n hm
abbrev gW:FuncId:=104
noncomputable def fq (s_0:Sl) (f_1:FuncId×Array Value×Array Value) (R:Value→Heap→Prop) (h:Heap):Prop:=
 af Tryz.prog 115 #[(.slice s_0.ptr s_0.len s_0.cap),(.func (.func f_1.1) f_1.2.1 f_1.2.2)] (.one (.sc (.int .i64))) h fun r1 h1=>
 R (.bool (decide (r1≥(0:Int)))) h1
theorem gI (s_0:Sl) (f_1:FuncId×Array Value×Array Value) {R:Value→Heap→Prop} {h:Heap} (hm:fq s_0 f_1 R h):ab Tryz.prog 104 #[(.slice s_0.ptr s_0.len s_0.cap),(.func (.func f_1.1) f_1.2.1 f_1.2.2)] h R:=aq ag Tryz.func104 .n hm
abbrev rY:FuncId:=105
noncomputable def lM (k_0:Int) (cap_1:Addr) (cap_2:Addr) (R:Value→Heap→Prop) (h:Heap):Prop:=
 ∃x1:Option Addr,cellOf h cap_1=some (.pointer x1)∧
 ∃a2:Addr,(x1=some a2)∧
 (0≤k_0∧k_0<((64:Nat):Int))∧
 ∃x3:Option Addr,cellOf h ((a2.add 10).add (k_0.toNat*1))=some (.pointer x3)∧
 ∃x4:Option Addr,cellOf h cap_1=some (.pointer x4)∧
 ∃a5:Addr,(x4=some a5)∧
 ∃x6:Int×Int×Int×Int×Int×Int×Sl×Sl,ai h a5 0 [(.int .i64 x6.1),(.int .i64 x6.2.1),(.int .i64 x6.2.2.1),(.int .i64 x6.2.2.2.1),(.int .i64 x6.2.2.2.2.1),(.int .i64 x6.2.2.2.2.2.1),(.slice x6.2.2.2.2.2.2.1.ptr x6.2.2.2.2.2.2.1.len x6.2.2.2.2.2.2.1.cap),(.slice x6.2.2.2.2.2.2.2.ptr x6.2.2.2.2.2.2.2.len x6.2.2.2.2.2.2.2.cap)]∧
 ∃x7:FuncId×Array Value×Array Value,cellOf h cap_2=some (.func (.func x7.1) x7.2.1 x7.2.2)∧
 fI C x7.1 (x7.2.1.toList++[(.int .i64 k_0)]++x7.2.2.toList) (.one (.sc (.int .i64))) h fun r8 h1=>
 (ak.ok [(a5,(.int .i64 x6.1)),(a5.add 1,(.int .i64 x6.2.1)),(a5.add 2,(.int .i64 x6.2.2.1)),(a5.add 3,(.int .i64 x6.2.2.2.1)),(a5.add 4,(.int .i64 x6.2.2.2.2.1)),(a5.add 5,(.int .i64 x6.2.2.2.2.2.1)),(a5.add 6,(.slice x6.2.2.2.2.2.2.1.ptr x6.2.2.2.2.2.2.1.len x6.2.2.2.2.2.2.1.cap)),(a5.add 7,(.slice x6.2.2.2.2.2.2.2.ptr x6.2.2.2.2.2.2.2.len x6.2.2.2.2.2.2.2.cap)),(cap_1,(.pointer x4)),((a2.add 10).add (k_0.toNat*1),(.pointer x3)),(cap_1,(.pointer x1))] h1)∧
 af Tryz.prog 106 #[(.pointer x3),(.agg #[(.int .i64 x6.1),(.int .i64 x6.2.1),(.int .i64 x6.2.2.1),(.int .i64 x6.2.2.2.1),(.int .i64 x6.2.2.2.2.1),(.int .i64 x6.2.2.2.2.2.1),(.slice x6.2.2.2.2.2.2.1.ptr x6.2.2.2.2.2.2.1.len x6.2.2.2.2.2.2.1.cap),(.slice x6.2.2.2.2.2.2.2.ptr x6.2.2.2.2.2.2.2.len x6.2.2.2.2.2.2.2.cap)]),(.int .i64 r8)] (.one (.sc .bool)) h1 fun r9 h2=>
 (ak.ok [(cap_1,(.pointer x4)),(cap_1,(.pointer x1))] h2)∧
 R (.bool (!r9)) h2
theorem rk (k_0:Int) (cap_1:Addr) (cap_2:Addr) {R:Value→Heap→Prop} {h:Heap} (hm:lM k_0 cap_1 cap_2 R h):ab Tryz.prog 105 #[(.int .i64 k_0),(.pointer (some cap_1)),(.pointer (some cap_2))] h R:=aq ag Tryz.func105 .n hm
abbrev we:FuncId:=106
noncomputable def rm (d_0:Option Addr) (m_1:Int×Int×Int×Int×Int×Int×Sl×Sl) (n_2:Int) (R:Value→Heap→Prop) (h:Heap):Prop:=
 aK Tryz.prog (Instr.box 42 (.agg #[(.int .i64 m_1.1),(.int .i64 m_1.2.1),(.int .i64 m_1.2.2.1),(.int .i64 m_1.2.2.2.1),(.int .i64 m_1.2.2.2.2.1),(.int .i64 m_1.2.2.2.2.2.1),(.slice m_1.2.2.2.2.2.2.1.ptr m_1.2.2.2.2.2.2.1.len m_1.2.2.2.2.2.2.1.cap),(.slice m_1.2.2.2.2.2.2.2.ptr m_1.2.2.2.2.2.2.2.len m_1.2.2.2.2.2.2.2.cap)])) h fun a1 h1=>
 aZ (σ:=Unit) (fun _ h3=>
 af Tryz.prog 121 #[(.pointer d_0)] (.one (.sc (.int .i64))) h3 fun r4 h4=>
 af Tryz.prog 120 #[(.pointer d_0),(.int .i64 r4),(.int .i64 n_2)] (.one (.sc .bool)) h4 fun r5 h5=>
 Br r5 (R (.bool true) h5) (∃x6:Int×Int×Int×Int×Int×Int×Sl×Sl,ai h5 a1 0 [(.int .i64 x6.1),(.int .i64 x6.2.1),(.int .i64 x6.2.2.1),(.int .i64 x6.2.2.2.1),(.int .i64 x6.2.2.2.2.1),(.int .i64 x6.2.2.2.2.2.1),(.slice x6.2.2.2.2.2.2.1.ptr x6.2.2.2.2.2.2.1.len x6.2.2.2.2.2.2.1.cap),(.slice x6.2.2.2.2.2.2.2.ptr x6.2.2.2.2.2.2.2.len x6.2.2.2.2.2.2.2.cap)]∧
 af Tryz.prog 123 #[(.pointer d_0),(.agg #[(.int .i64 x6.1),(.int .i64 x6.2.1),(.int .i64 x6.2.2.1),(.int .i64 x6.2.2.2.1),(.int .i64 x6.2.2.2.2.1),(.int .i64 x6.2.2.2.2.2.1),(.slice x6.2.2.2.2.2.2.1.ptr x6.2.2.2.2.2.2.1.len x6.2.2.2.2.2.2.1.cap),(.slice x6.2.2.2.2.2.2.2.ptr x6.2.2.2.2.2.2.2.len x6.2.2.2.2.2.2.2.cap)])] (.one (.sc .slc)) h5 fun r7 h6=>
 af Tryz.prog 120 #[(.pointer d_0),(.int .i64 ((r7.len:Nat):Int)),(.int .i64 n_2)] (.one (.sc .bool)) h6 fun r8 h7=>
 R (.bool r8) h7))
 (fun K1=>
 Br (Option.isNone d_0) (R (.bool false) h1) (af Tryz.prog 80 #[(.pointer d_0)] (.one (.sc .bool)) h1 fun r2 h2=>
 Br r2
 (R (.bool false) h2)
 (K1 () h2)))
theorem uC (d_0:Option Addr) (m_1:Int×Int×Int×Int×Int×Int×Sl×Sl) (n_2:Int) {R:Value→Heap→Prop} {h:Heap} (hm:rm d_0 m_1 n_2 R h):ab Tryz.prog 106 #[(.pointer d_0),(.agg #[(.int .i64 m_1.1),(.int .i64 m_1.2.1),(.int .i64 m_1.2.2.1),(.int .i64 m_1.2.2.2.1),(.int .i64 m_1.2.2.2.2.1),(.int .i64 m_1.2.2.2.2.2.1),(.slice m_1.2.2.2.2.2.2.1.ptr m_1.2.2.2.2.2.2.1.len m_1.2.2.2.2.2.2.1.cap),(.slice m_1.2.2.2.2.2.2.2.ptr m_1.2.2.2.2.2.2.2.len m_1.2.2.2.2.2.2.2.cap)]),(.int .i64 n_2)] h R:=aq ag Tryz.func106 (.two .n (.two (.join [] [(6,13)] .n) .n)) hm
abbrev FB:FuncId:=107
noncomputable def yk (b_0:Sl) (R:Value→Heap→Prop) (h:Heap):Prop:=
 Br (((b_0.len:Nat):Int) !=(64:Int))
 (R (.tuple #[(.int .i64 (0:Int)),(.slice none 0 0),(.bool false)]) h)
 (∃a1:Addr,(b_0.ptr=some a1∧0≤(3:Int)∧(3:Int)<((b_0.len:Nat):Int))∧
 ∃x2:Int,cellOf h (a1.add ((3:Int).toNat*1))=some (.int .u8 x2)∧
 (0≤(4:Int)∧(4:Int)≤(59:Int)∧(59:Int)≤((b_0.cap:Nat):Int))∧
 af Tryz.prog 109 #[(.slice (if b_0.cap=(4:Int).toNat then b_0.ptr else b_0.ptr.map (·.add ((4:Int).toNat*1))) ((59:Int).toNat-(4:Int).toNat) (b_0.cap-(4:Int).toNat))] (.one (.sc .slc)) h fun r3 h1=>
 (ak.ok [(a1.add ((3:Int).toNat*1),(.int .u8 x2))] h1)∧
 af Tryz.prog 125 #[(.int .i64 (IntKind.wrap .i64 x2)),(.slice r3.ptr r3.len r3.cap)] (.one (.sc .slc)) h1 fun r4 h2=>
 af Tryz.prog 46 #[(.slice b_0.ptr b_0.len b_0.cap),(.slice r4.ptr r4.len r4.cap)] (.one (.sc .bool)) h2 fun r5 h3=>
 Br (!r5)
 (R (.tuple #[(.int .i64 (0:Int)),(.slice none 0 0),(.bool false)]) h3)
 (R (.tuple #[(.int .i64 (IntKind.wrap .i64 x2)),(.slice r3.ptr r3.len r3.cap),(.bool true)]) h3))
theorem DZ (b_0:Sl) {R:Value→Heap→Prop} {h:Heap} (hm:yk b_0 R h):ab Tryz.prog 107 #[(.slice b_0.ptr b_0.len b_0.cap)] h R:=aq ag Tryz.func107 .n hm
abbrev gv:FuncId:=108
noncomputable def uD (b_0:Sl) (R:Value→Heap→Prop) (h:Heap):Prop:=
 aO (σ:=Int×Int) (fun s1 K1 h1=>
 Br (decide (s1.2<((b_0.len:Nat):Int)))
 (∃a2:Addr,(b_0.ptr=some a2∧0≤s1.2∧s1.2<((b_0.len:Nat):Int))∧
 ∃x3:Int,cellOf h1 (a2.add (s1.2.toNat*1))=some (.int .u8 x3)∧
 (0≤(8:Int))∧
 K1 (IntKind.wrap .i64 ((BitVec.ofInt (IntKind.bits .i64) (IntKind.wrap .i64 (s1.1*2^min (8:Int).toNat (IntKind.bits .i64)))|||(BitVec.ofInt (IntKind.bits .i64) (IntKind.wrap .i64 x3))).toNat:Nat),IntKind.wrap .i64 (s1.2+(1:Int))) h1)
 (R (.int .i64 s1.1) h1)) ((0:Int),(0:Int)) h
theorem Ay (b_0:Sl) {R:Value→Heap→Prop} {h:Heap} (hm:uD b_0 R h):ab Tryz.prog 108 #[(.slice b_0.ptr b_0.len b_0.cap)] h R:=aq ag Tryz.func108 (.two .n (.two .n (.two (.two .n (.inn (.loop [(3,(.sc (.int .i64))),(8,(.sc (.int .i64)))] [(3,4),(5,6),(8,18)] .n))) .n))) hm
abbrev Cr:FuncId:=109
noncomputable def uE (b_0:Sl) (R:Value→Heap→Prop) (h:Heap):Prop:=
 Br (Option.isNone b_0.ptr)
 (R (.slice none 0 0) h)
 (az Tryz.prog (Instr.buildSlice 46 0 #[]) (.one (.sc .slc)) h fun v1 h1=>
 az Tryz.prog (Builtin.append_ #[46,46] 46 #[(.slice v1.ptr v1.len v1.cap),(.slice b_0.ptr b_0.len b_0.cap)]) (.one (.sc .slc)) h1 fun v2 h2=>
 R (.slice v2.ptr v2.len v2.cap) h2)
theorem Az (b_0:Sl) {R:Value→Heap→Prop} {h:Heap} (hm:uE b_0 R h):ab Tryz.prog 109 #[(.slice b_0.ptr b_0.len b_0.cap)] h R:=aq ag Tryz.func109 .n hm
abbrev D0:FuncId:=110
noncomputable def wg (r_0:Int×Int×Int×Int×Int×Int×Int×Sl) (R:Value→Heap→Prop) (h:Heap):Prop:=
 aK Tryz.prog (Instr.box 103 (.agg #[(.int .i64 r_0.1),(.int .i64 r_0.2.1),(.int .i64 r_0.2.2.1),(.int .i64 r_0.2.2.2.1),(.int .i64 r_0.2.2.2.2.1),(.int .i64 r_0.2.2.2.2.2.1),(.int .u32 r_0.2.2.2.2.2.2.1),(.slice r_0.2.2.2.2.2.2.2.ptr r_0.2.2.2.2.2.2.2.len r_0.2.2.2.2.2.2.2.cap)])) h fun a1 h1=>
 aZ (σ:=Bool) (fun s8 h2=>
 Br s8 (∃x9:Int×Int×Int,ai h2 (a1.add 3) 0 [(.int .i64 x9.1),(.int .i64 x9.2.1),(.int .i64 x9.2.2)]∧
 af Tryz.prog 27 #[(.agg #[(.int .i64 x9.1),(.int .i64 x9.2.1),(.int .i64 x9.2.2)])] (.one (.sc .bool)) h2 fun r10 h3=>
 Br r10 (∃x11:Sl,cellOf h3 (a1.add 7)=some (.slice x11.ptr x11.len x11.cap)∧
 ∃x12:Int,cellOf h3 ((a1.add 3).add 2)=some (.int .i64 x12)∧
 R (.bool (((x11.len:Nat):Int)==x12)) h3) (R (.bool false) h3)) (R (.bool false) h2))
 (fun K1=>
 ∃x2:Int,cellOf h1 a1=some (.int .i64 x2)∧
 Br (decide (x2≥(0:Int))) (∃x3:Int,cellOf h1 a1=some (.int .i64 x3)∧
 Br (decide (x3≤(16777215:Int))) (∃x4:Int,cellOf h1 (a1.add 1)=some (.int .i64 x4)∧
 Br (decide (x4≥(0:Int))) (∃x5:Int,cellOf h1 (a1.add 1)=some (.int .i64 x5)∧
 Br (decide (x5<(8:Int))) (∃x6:Int,cellOf h1 (a1.add 2)=some (.int .i64 x6)∧
 Br (decide (x6≥(0:Int))) (∃x7:Int,cellOf h1 (a1.add 2)=some (.int .i64 x7)∧
 K1 (decide (x7≤(65535:Int))) h1) (K1 false h1)) (K1 false h1)) (K1 false h1)) (K1 false h1)) (K1 false h1))
theorem Ct (r_0:Int×Int×Int×Int×Int×Int×Int×Sl) {R:Value→Heap→Prop} {h:Heap} (hm:wg r_0 R h):ab Tryz.prog 110 #[(.agg #[(.int .i64 r_0.1),(.int .i64 r_0.2.1),(.int .i64 r_0.2.2.1),(.int .i64 r_0.2.2.2.1),(.int .i64 r_0.2.2.2.2.1),(.int .i64 r_0.2.2.2.2.2.1),(.int .u32 r_0.2.2.2.2.2.2.1),(.slice r_0.2.2.2.2.2.2.2.ptr r_0.2.2.2.2.2.2.2.len r_0.2.2.2.2.2.2.2.cap)])] h R:=aq ag Tryz.func110 (.two .n (.two (.join [(3,(.sc .bool))] [(3,32)] .n) .n)) hm
abbrev za:FuncId:=111
noncomputable def qD (x_0:ByteArray×Int×Int×Sl) (cap_1:Addr) (R:Value→Heap→Prop) (h:Heap):Prop:=
 aK Tryz.prog (Instr.box 89 (.agg #[(.string x_0.1),(.int .i64 x_0.2.1),(.int .i64 x_0.2.2.1),(.slice x_0.2.2.2.ptr x_0.2.2.2.len x_0.2.2.2.cap)])) h fun a1 h1=>
 ∃x2:Int,cellOf h1 (a1.add 1)=some (.int .i64 x2)∧
 ∃x3:Int,cellOf h1 cap_1=some (.int .i64 x3)∧
 Br (x2==x3) (∃x4:Sl,cellOf h1 (a1.add 3)=some (.slice x4.ptr x4.len x4.cap)∧
 ∃x5:Int,cellOf h1 (cap_1.add 1)=some (.int .i64 x5)∧
 Br (decide (((x4.len:Nat):Int)>x5)) (∃x6:Int,cellOf h1 (cap_1.add 6)=some (.int .u32 x6)∧
 ∃x7:Int,cellOf h1 cap_1=some (.int .i64 x7)∧
 ∃x8:Int,cellOf h1 (cap_1.add 1)=some (.int .i64 x8)∧
 ∃x9:Sl,cellOf h1 (a1.add 3)=some (.slice x9.ptr x9.len x9.cap)∧
 ∃x10:Int,cellOf h1 (cap_1.add 1)=some (.int .i64 x10)∧
 ∃a11:Addr,(x9.ptr=some a11∧0≤x10∧x10<((x9.len:Nat):Int))∧
 ∃x12:Int,cellOf h1 (a11.add (x10.toNat*1))=some (.int .i64 x12)∧
 af Tryz.prog 95 #[(.int .i64 x7),(.int .i64 x8),(.int .i64 x12)] (.one (.sc (.int .u32))) h1 fun r13 h2=>
 (ak.ok [(cap_1.add 1,(.int .i64 x10)),(a1.add 3,(.slice x9.ptr x9.len x9.cap)),(cap_1.add 6,(.int .u32 x6)),(cap_1.add 1,(.int .i64 x5)),(a1.add 3,(.slice x4.ptr x4.len x4.cap)),(cap_1,(.int .i64 x3)),(a1.add 1,(.int .i64 x2))] h2)∧
 R (.bool (x6==r13)) h2) ((ak.ok [(cap_1.add 1,(.int .i64 x5)),(a1.add 3,(.slice x4.ptr x4.len x4.cap)),(cap_1,(.int .i64 x3)),(a1.add 1,(.int .i64 x2))] h1)∧
 R (.bool false) h1)) ((ak.ok [(cap_1,(.int .i64 x3)),(a1.add 1,(.int .i64 x2))] h1)∧
 R (.bool false) h1)
theorem xG (x_0:ByteArray×Int×Int×Sl) (cap_1:Addr) {R:Value→Heap→Prop} {h:Heap} (hm:qD x_0 cap_1 R h):ab Tryz.prog 111 #[(.agg #[(.string x_0.1),(.int .i64 x_0.2.1),(.int .i64 x_0.2.2.1),(.slice x_0.2.2.2.ptr x_0.2.2.2.len x_0.2.2.2.cap)]),(.pointer (some cap_1))] h R:=aq ag Tryz.func111 .n hm
abbrev kn:FuncId:=112
noncomputable def gp (data_0:Sl) (n_1:Int) (cmp_2:FuncId×Array Value×Array Value) (R:Value→Heap→Prop) (h:Heap):Prop:=
 aO (σ:=Int×Int) (fun s1 K1 h1=>
 Br (decide (s1.2≤n_1))
 (af Tryz.prog 159 #[(.slice data_0.ptr data_0.len data_0.cap),(.int .i64 s1.1),(.int .i64 s1.2),(.func (.func cmp_2.1) cmp_2.2.1 cmp_2.2.2)] (.many []) h1 fun _ h2=>
 K1 (s1.2,IntKind.wrap .i64 (s1.2+(20:Int))) h2)
 (af Tryz.prog 159 #[(.slice data_0.ptr data_0.len data_0.cap),(.int .i64 s1.1),(.int .i64 n_1),(.func (.func cmp_2.1) cmp_2.2.1 cmp_2.2.2)] (.many []) h1 fun _ h3=>
 aO (σ:=Int) (fun s4 K2 h4=>
 Br (decide (s4<n_1))
 (aO (σ:=Int×Int) (fun s5 K3 h5=>
 Br (decide (s5.2≤n_1))
 (af Tryz.prog 160 #[(.slice data_0.ptr data_0.len data_0.cap),(.int .i64 s5.1),(.int .i64 (IntKind.wrap .i64 (s5.1+s4))),(.int .i64 s5.2),(.func (.func cmp_2.1) cmp_2.2.1 cmp_2.2.2)] (.many []) h5 fun _ h6=>
 K3 (s5.2,IntKind.wrap .i64 (s5.2+(IntKind.wrap .i64 ((2:Int)*s4)))) h6)
 (Br (decide ((IntKind.wrap .i64 (s5.1+s4))<n_1))
 (af Tryz.prog 160 #[(.slice data_0.ptr data_0.len data_0.cap),(.int .i64 s5.1),(.int .i64 (IntKind.wrap .i64 (s5.1+s4))),(.int .i64 n_1),(.func (.func cmp_2.1) cmp_2.2.1 cmp_2.2.2)] (.many []) h5 fun _ h7=>
 K2 (IntKind.wrap .i64 (s4*(2:Int))) h7)
 (K2 (IntKind.wrap .i64 (s4*(2:Int))) h5))) ((0:Int),IntKind.wrap .i64 ((2:Int)*s4)) h4)
 (R (.tuple #[]) h4)) (20:Int) h3)) ((0:Int),(20:Int)) h
theorem j6 (data_0:Sl) (n_1:Int) (cmp_2:FuncId×Array Value×Array Value) {R:Value→Heap→Prop} {h:Heap} (hm:gp data_0 n_1 cmp_2 R h):ab Tryz.prog 112 #[(.slice data_0.ptr data_0.len data_0.cap),(.int .i64 n_1),(.func (.func cmp_2.1) cmp_2.2.1 cmp_2.2.2)] h R:=aq ag Tryz.func112 (.two .n (.two .n (.two (.inn (.loop [(7,(.sc (.int .i64))),(8,(.sc (.int .i64)))] [(7,9),(11,23)] .n)) (.two .n (.inn (.loop [(6,(.sc (.int .i64)))] [(6,10),(28,63)] (.two .n (.inn (.two .n (.two (.inn (.loop [(7,(.sc (.int .i64))),(8,(.sc (.int .i64)))] [(7,9),(33,49)] .n)) .n)))))))))) hm
abbrev D4:FuncId:=113
noncomputable def pL (vals_0:Sl) (R:Value→Heap→Prop) (h:Heap):Prop:=
 aO (σ:=Int) (fun s1 K1 h1=>
 Br (decide (s1<((vals_0.len:Nat):Int)))
 (∃a2:Addr,(vals_0.ptr=some a2∧0≤s1∧s1<((vals_0.len:Nat):Int))∧
 ∃x3:Int,cellOf h1 (a2.add (s1.toNat*1))=some (.int .i64 x3)∧
 Br (x3 !=(0:Int))
 (R (.int .i64 x3) h1)
 (K1 (IntKind.wrap .i64 (s1+(1:Int))) h1))
 (R (.int .i64 (0:Int)) h1)) (0:Int) h
theorem rZ (vals_0:Sl) {R:Value→Heap→Prop} {h:Heap} (hm:pL vals_0 R h):ab Tryz.prog 113 #[(.slice vals_0.ptr vals_0.len vals_0.cap)] h R:=aq ag Tryz.func113 (.two .n (.two .n (.two (.two .n (.inn (.loop [(8,(.sc (.int .i64)))] [(2,3),(5,6),(8,17)] .n))) .n))) hm
abbrev nH:FuncId:=114
noncomputable def ko (x_0:Int) (y_1:Int) (R:Value→Heap→Prop) (h:Heap):Prop:=
 af Tryz.prog 161 #[(.int .i64 x_0)] (.one (.sc .bool)) h fun r1 h1=>
 af Tryz.prog 161 #[(.int .i64 y_1)] (.one (.sc .bool)) h1 fun r2 h2=>
 Br r1
 (Br r2
 (R (.int .i64 (0:Int)) h2)
 (R (.int .i64 (-1:Int)) h2))
 (Br r2
 (R (.int .i64 (1:Int)) h2)
 (Br (decide (x_0<y_1))
 (R (.int .i64 (-1:Int)) h2)
 (Br (decide (x_0>y_1))
 (R (.int .i64 (1:Int)) h2)
 (R (.int .i64 (0:Int)) h2))))
theorem mu (x_0:Int) (y_1:Int) {R:Value→Heap→Prop} {h:Heap} (hm:ko x_0 y_1 R h):ab Tryz.prog 114 #[(.int .i64 x_0),(.int .i64 y_1)] h R:=aq ag Tryz.func114 .n hm
abbrev nI:FuncId:=115
noncomputable def eF (s_0:Sl) (f_1:FuncId×Array Value×Array Value) (R:Value→Heap→Prop) (h:Heap):Prop:=
 aO (σ:=Int) (fun s1 K1 h1=>
 Br (decide (s1<((s_0.len:Nat):Int)))
 (∃a2:Addr,(s_0.ptr=some a2∧0≤s1∧s1<((s_0.len:Nat):Int))∧
 ∃x3:Int,cellOf h1 (a2.add (s1.toNat*1))=some (.int .i64 x3)∧
 fI C f_1.1 (f_1.2.1.toList++[(.int .i64 x3)]++f_1.2.2.toList) (.one (.sc .bool)) h1 fun r4 h2=>
 Br r4
 (R (.int .i64 s1) h2)
 (K1 (IntKind.wrap .i64 (s1+(1:Int))) h2))
 (R (.int .i64 (-1:Int)) h1)) (0:Int) h
theorem fD (s_0:Sl) (f_1:FuncId×Array Value×Array Value) {R:Value→Heap→Prop} {h:Heap} (hm:eF s_0 f_1 R h):ab Tryz.prog 115 #[(.slice s_0.ptr s_0.len s_0.cap),(.func (.func f_1.1) f_1.2.1 f_1.2.2)] h R:=aq ag Tryz.func115 (.two .n (.two (.two .n (.inn (.loop [(8,(.sc (.int .i64)))] [(4,6),(8,19)] .n))) .n)) hm
abbrev tz:FuncId:=116
noncomputable def mw (n_0:Int) (cap_1:Addr) (R:Value→Heap→Prop) (h:Heap):Prop:=
 ∃x1:Option Addr,cellOf h cap_1=some (.pointer x1)∧
 af Tryz.prog 117 #[(.pointer x1),(.int .i64 n_0),(.int .i64 (0:Int))] (.one (.sc .bool)) h fun r2 h1=>
 R (.bool (!r2)) h1
theorem sa (n_0:Int) (cap_1:Addr) {R:Value→Heap→Prop} {h:Heap} (hm:mw n_0 cap_1 R h):ab Tryz.prog 116 #[(.int .i64 n_0),(.pointer (some cap_1))] h R:=aq ag Tryz.func116 .n hm
abbrev wh:FuncId:=117
noncomputable def ow (v_0:Option Addr) (slot_1:Int) (more_2:Int) (R:Value→Heap→Prop) (h:Heap):Prop:=
 ∃a1:Addr,(v_0=some a1)∧
 ∃x2:Option Addr,cellOf h a1=some (.pointer x2)∧
 ∃a3:Addr,(v_0=some a3)∧
 ∃x4:Int×Int×Int×Int×Int×Int×Sl×Sl,ai h (a3.add 1) 0 [(.int .i64 x4.1),(.int .i64 x4.2.1),(.int .i64 x4.2.2.1),(.int .i64 x4.2.2.2.1),(.int .i64 x4.2.2.2.2.1),(.int .i64 x4.2.2.2.2.2.1),(.slice x4.2.2.2.2.2.2.1.ptr x4.2.2.2.2.2.2.1.len x4.2.2.2.2.2.2.1.cap),(.slice x4.2.2.2.2.2.2.2.ptr x4.2.2.2.2.2.2.2.len x4.2.2.2.2.2.2.2.cap)]∧
 ∃a5:Addr,(v_0=some a5)∧
 ∃x6:Int,cellOf h (a5.add 18)=some (.int .i64 x6)∧
 ∃a7:Addr,(v_0=some a7)∧
 (0≤slot_1∧slot_1<((64:Nat):Int))∧
 ∃x8:Int,cellOf h ((a7.add 19).add (slot_1.toNat*1))=some (.int .i64 x8)∧
 af Tryz.prog 12 #[(.pointer x2),(.int .i64 slot_1)] (.one (.sc .ptr)) h fun r9 h1=>
 (ak.ok [((a7.add 19).add (slot_1.toNat*1),(.int .i64 x8)),(a5.add 18,(.int .i64 x6)),(a3.add 1,(.int .i64 x4.1)),((a3.add 1).add 1,(.int .i64 x4.2.1)),((a3.add 1).add 2,(.int .i64 x4.2.2.1)),((a3.add 1).add 3,(.int .i64 x4.2.2.2.1)),((a3.add 1).add 4,(.int .i64 x4.2.2.2.2.1)),((a3.add 1).add 5,(.int .i64 x4.2.2.2.2.2.1)),((a3.add 1).add 6,(.slice x4.2.2.2.2.2.2.1.ptr x4.2.2.2.2.2.2.1.len x4.2.2.2.2.2.2.1.cap)),((a3.add 1).add 7,(.slice x4.2.2.2.2.2.2.2.ptr x4.2.2.2.2.2.2.2.len x4.2.2.2.2.2.2.2.cap))] h1)∧
 af Tryz.prog 106 #[(.pointer r9),(.agg #[(.int .i64 x4.1),(.int .i64 x4.2.1),(.int .i64 x4.2.2.1),(.int .i64 x4.2.2.2.1),(.int .i64 x4.2.2.2.2.1),(.int .i64 x4.2.2.2.2.2.1),(.slice x4.2.2.2.2.2.2.1.ptr x4.2.2.2.2.2.2.1.len x4.2.2.2.2.2.2.1.cap),(.slice x4.2.2.2.2.2.2.2.ptr x4.2.2.2.2.2.2.2.len x4.2.2.2.2.2.2.2.cap)]),(.int .i64 (IntKind.wrap .i64 ((IntKind.wrap .i64 (x6+x8))+more_2)))] (.one (.sc .bool)) h1 fun r10 h2=>
 (ak.ok [((a7.add 19).add (slot_1.toNat*1),(.int .i64 x8)),(a5.add 18,(.int .i64 x6))] h2)∧
 R (.bool r10) h2
theorem u9 (v_0:Option Addr) (slot_1:Int) (more_2:Int) {R:Value→Heap→Prop} {h:Heap} (hm:ow v_0 slot_1 more_2 R h):ab Tryz.prog 117 #[(.pointer v_0),(.int .i64 slot_1),(.int .i64 more_2)] h R:=aq ag Tryz.func117 .n hm
abbrev va:FuncId:=118
noncomputable def nJ (v_0:Option Addr) (d_1:Option Addr) (R:Value→Heap→Prop) (h:Heap):Prop:=
 az Tryz.prog (Instr.makeMap 206 none) (.one (.sc .mp)) h fun v1 h1=>
 aK Tryz.prog (Instr.alloc 206 true (.tuple #[])) h1 fun a2 h2=>
 ae Tryz.prog (Instr.storeAt 206 (.pointer (some a2)) (.map v1)) h2 fun _ h3=>
 ∃a3:Addr,(v_0=some a3)∧
 ∃x4:Sl,cellOf h3 (a3.add 17)=some (.slice x4.ptr x4.len x4.cap)∧
 aO (σ:=Int) (fun s5 K1 h4=>
 Br (decide (s5<((x4.len:Nat):Int)))
 (∃a6:Addr,(x4.ptr=some a6∧0≤s5∧s5<((x4.len:Nat):Int))∧
 ∃x7:Int,cellOf h4 (a6.add (s5.toNat*1))=some (.int .i64 x7)∧
 aZ (σ:=Sl×Int×Int) (fun s14 h7=>
 aO (σ:=Int) (fun s15 K3 h8=>
 Br (decide (s15<s14.2.1))
 (∃a16:Addr,(s14.1.ptr=some a16∧0≤s15∧s15<((s14.1.len:Nat):Int))∧
 ∃x17:Int×Int×Int×Int×Int×Int×Int×Sl,ai h8 (a16.add (s15.toNat*8)) 0 [(.int .i64 x17.1),(.int .i64 x17.2.1),(.int .i64 x17.2.2.1),(.int .i64 x17.2.2.2.1),(.int .i64 x17.2.2.2.2.1),(.int .i64 x17.2.2.2.2.2.1),(.int .u32 x17.2.2.2.2.2.2.1),(.slice x17.2.2.2.2.2.2.2.ptr x17.2.2.2.2.2.2.2.len x17.2.2.2.2.2.2.2.cap)]∧
 aK Tryz.prog (Instr.alloc 103 true (.tuple #[])) h8 fun a18 h9=>
 ae Tryz.prog (Instr.storeAt 103 (.pointer (some a18)) (.agg #[(.int .i64 x17.1),(.int .i64 x17.2.1),(.int .i64 x17.2.2.1),(.int .i64 x17.2.2.2.1),(.int .i64 x17.2.2.2.2.1),(.int .i64 x17.2.2.2.2.2.1),(.int .u32 x17.2.2.2.2.2.2.1),(.slice x17.2.2.2.2.2.2.2.ptr x17.2.2.2.2.2.2.2.len x17.2.2.2.2.2.2.2.cap)])) h9 fun _ h10=>
 ∃x19:Option Nat,cellOf h10 a2=some (.map x19)∧
 ∃x20:Int×Int×Int×Int×Int×Int×Int×Sl,ai h10 a18 0 [(.int .i64 x20.1),(.int .i64 x20.2.1),(.int .i64 x20.2.2.1),(.int .i64 x20.2.2.2.1),(.int .i64 x20.2.2.2.2.1),(.int .i64 x20.2.2.2.2.2.1),(.int .u32 x20.2.2.2.2.2.2.1),(.slice x20.2.2.2.2.2.2.2.ptr x20.2.2.2.2.2.2.2.len x20.2.2.2.2.2.2.2.cap)]∧
 af Tryz.prog 162 #[(.agg #[(.int .i64 x20.1),(.int .i64 x20.2.1),(.int .i64 x20.2.2.1),(.int .i64 x20.2.2.2.1),(.int .i64 x20.2.2.2.2.1),(.int .i64 x20.2.2.2.2.2.1),(.int .u32 x20.2.2.2.2.2.2.1),(.slice x20.2.2.2.2.2.2.2.ptr x20.2.2.2.2.2.2.2.len x20.2.2.2.2.2.2.2.cap)])] (.one (.agg [(.int .i64),(.int .i64),(.int .i64)])) h10 fun r21 h11=>
 (ak.ok [(a2,(.map x19))] h11)∧
 ae Tryz.prog (Instr.mapUpdate 206 (.map x19) (.agg #[(.int .i64 r21.1),(.int .i64 r21.2.1),(.int .i64 r21.2.2)]) (.bool true)) h11 fun _ h12=>
 (ak.ok [] h12)∧
 K3 (IntKind.wrap .i64 (s15+(1:Int))) h12)
 (K1 (IntKind.wrap .i64 (s5+(1:Int))) h8)) s14.2.2 h7)
 (fun K2=>
 ∃a8:Addr,(v_0=some a8)∧
 ∃x9:Option Addr,cellOf h4 a8=some (.pointer x9)∧
 ∃a10:Addr,(v_0=some a10)∧
 ∃x11:Int×Int×Int×Int×Int×Int×Sl×Sl,ai h4 (a10.add 1) 0 [(.int .i64 x11.1),(.int .i64 x11.2.1),(.int .i64 x11.2.2.1),(.int .i64 x11.2.2.2.1),(.int .i64 x11.2.2.2.2.1),(.int .i64 x11.2.2.2.2.2.1),(.slice x11.2.2.2.2.2.2.1.ptr x11.2.2.2.2.2.2.1.len x11.2.2.2.2.2.2.1.cap),(.slice x11.2.2.2.2.2.2.2.ptr x11.2.2.2.2.2.2.2.len x11.2.2.2.2.2.2.2.cap)]∧
 af Tryz.prog 12 #[(.pointer x9),(.int .i64 x7)] (.one (.sc .ptr)) h4 fun r12 h5=>
 (ak.ok [(a10.add 1,(.int .i64 x11.1)),((a10.add 1).add 1,(.int .i64 x11.2.1)),((a10.add 1).add 2,(.int .i64 x11.2.2.1)),((a10.add 1).add 3,(.int .i64 x11.2.2.2.1)),((a10.add 1).add 4,(.int .i64 x11.2.2.2.2.1)),((a10.add 1).add 5,(.int .i64 x11.2.2.2.2.2.1)),((a10.add 1).add 6,(.slice x11.2.2.2.2.2.2.1.ptr x11.2.2.2.2.2.2.1.len x11.2.2.2.2.2.2.1.cap)),((a10.add 1).add 7,(.slice x11.2.2.2.2.2.2.2.ptr x11.2.2.2.2.2.2.2.len x11.2.2.2.2.2.2.2.cap))] h5)∧
 af Tryz.prog 18 #[(.pointer r12),(.agg #[(.int .i64 x11.1),(.int .i64 x11.2.1),(.int .i64 x11.2.2.1),(.int .i64 x11.2.2.2.1),(.int .i64 x11.2.2.2.2.1),(.int .i64 x11.2.2.2.2.2.1),(.slice x11.2.2.2.2.2.2.1.ptr x11.2.2.2.2.2.2.1.len x11.2.2.2.2.2.2.1.cap),(.slice x11.2.2.2.2.2.2.2.ptr x11.2.2.2.2.2.2.2.len x11.2.2.2.2.2.2.2.cap)])] (.one (.sc .slc)) h5 fun r13 h6=>
 (ak.ok [] h6)∧
 K2 ((⟨r13.ptr,r13.len,r13.cap⟩:Sl),((r13.len:Nat):Int),(0:Int)) h6))
 (∃a22:Addr,(v_0=some a22)∧
 ∃x23:Int×Int×Int×Int×Int×Int×Sl×Sl,ai h4 (a22.add 1) 0 [(.int .i64 x23.1),(.int .i64 x23.2.1),(.int .i64 x23.2.2.1),(.int .i64 x23.2.2.2.1),(.int .i64 x23.2.2.2.2.1),(.int .i64 x23.2.2.2.2.2.1),(.slice x23.2.2.2.2.2.2.1.ptr x23.2.2.2.2.2.2.1.len x23.2.2.2.2.2.2.1.cap),(.slice x23.2.2.2.2.2.2.2.ptr x23.2.2.2.2.2.2.2.len x23.2.2.2.2.2.2.2.cap)]∧
 af Tryz.prog 18 #[(.pointer d_1),(.agg #[(.int .i64 x23.1),(.int .i64 x23.2.1),(.int .i64 x23.2.2.1),(.int .i64 x23.2.2.2.1),(.int .i64 x23.2.2.2.2.1),(.int .i64 x23.2.2.2.2.2.1),(.slice x23.2.2.2.2.2.2.1.ptr x23.2.2.2.2.2.2.1.len x23.2.2.2.2.2.2.1.cap),(.slice x23.2.2.2.2.2.2.2.ptr x23.2.2.2.2.2.2.2.len x23.2.2.2.2.2.2.2.cap)])] (.one (.sc .slc)) h4 fun r24 h13=>
 af Tryz.prog 163 #[(.slice r24.ptr r24.len r24.cap),(.func (.func 164) #[] #[(.pointer (some a2))])] (.one (.sc .slc)) h13 fun r25 h14=>
 R (.slice r25.ptr r25.len r25.cap) h14)) (0:Int) h3
theorem tC (v_0:Option Addr) (d_1:Option Addr) {R:Value→Heap→Prop} {h:Heap} (hm:nJ v_0 d_1 R h):ab Tryz.prog 118 #[(.pointer v_0),(.pointer d_1)] h R:=aq ag Tryz.func118 (.two .n (.two .n (.two (.two .n (.inn (.loop [(16,(.sc (.int .i64)))] [(7,8),(9,10),(16,41)] (.two .n (.two .n (.two (.inn (.two .n (.two (.join [(30,(.sc .slc)),(31,(.sc (.int .i64))),(32,(.sc (.int .i64)))] [(20,33)] .n) (.inn (.loop [(32,(.sc (.int .i64)))] [(9,10),(32,40)] .n))))) .n)))))) .n))) hm
abbrev vb:FuncId:=119
noncomputable def nK (v_0:Option Addr) (r_1:Int×Int×Int×Int×Int×Int×Int×Sl) (R:Value→Heap→Prop) (h:Heap):Prop:=
 aK Tryz.prog (Instr.box 103 (.agg #[(.int .i64 r_1.1),(.int .i64 r_1.2.1),(.int .i64 r_1.2.2.1),(.int .i64 r_1.2.2.2.1),(.int .i64 r_1.2.2.2.2.1),(.int .i64 r_1.2.2.2.2.2.1),(.int .u32 r_1.2.2.2.2.2.2.1),(.slice r_1.2.2.2.2.2.2.2.ptr r_1.2.2.2.2.2.2.2.len r_1.2.2.2.2.2.2.2.cap)])) h fun a1 h1=>
 ∃x2:Int,cellOf h1 a1=some (.int .i64 x2)∧
 ∃x3:Int,cellOf h1 (a1.add 1)=some (.int .i64 x3)∧
 ∃a4:Addr,(v_0=some a4)∧
 ∃x5:Sl,cellOf h1 (a4.add 17)=some (.slice x5.ptr x5.len x5.cap)∧
 af Tryz.prog 97 #[(.int .i64 x2),(.int .i64 x3),(.slice x5.ptr x5.len x5.cap)] (.one (.sc .slc)) h1 fun r6 h2=>
 (ak.ok [] h2)∧
 aO (σ:=Int) (fun s7 K1 h3=>
 Br (decide (s7<((r6.len:Nat):Int)))
 (∃x8:Int,cellOf h3 (a1.add 2)=some (.int .i64 x8)∧
 af Tryz.prog 99 #[(.slice r6.ptr r6.len r6.cap),(.int .i64 (IntKind.wrap .i64 (x8+s7)))] (.one (.sc (.int .i64))) h3 fun r9 h4=>
 af Tryz.prog 117 #[(.pointer v_0),(.int .i64 r9),(.int .i64 (1:Int))] (.one (.sc .bool)) h4 fun r10 h5=>
 Br r10
 (∃a11:Addr,(v_0=some a11)∧
 (0≤r9∧r9<((64:Nat):Int))∧
 ∃x12:Int,cellOf h5 ((a11.add 19).add (r9.toNat*1))=some (.int .i64 x12)∧
 ∃a13:Addr,(v_0=some a13)∧
 (0≤r9∧r9<((64:Nat):Int))∧
 ae Tryz.prog (Instr.storeAt 3 (.pointer (some ((a13.add 19).add (r9.toNat*1)))) (.int .i64 (IntKind.wrap .i64 (x12+(1:Int))))) h5 fun _ h6=>
 (ak.ok [] h6)∧
 ∃a14:Addr,(v_0=some a14)∧
 ∃x15:Sl,cellOf h6 (a14.add 83)=some (.slice x15.ptr x15.len x15.cap)∧
 ∃x16:Int×Int×Int×Int×Int×Int×Int×Sl,ai h6 a1 0 [(.int .i64 x16.1),(.int .i64 x16.2.1),(.int .i64 x16.2.2.1),(.int .i64 x16.2.2.2.1),(.int .i64 x16.2.2.2.2.1),(.int .i64 x16.2.2.2.2.2.1),(.int .u32 x16.2.2.2.2.2.2.1),(.slice x16.2.2.2.2.2.2.2.ptr x16.2.2.2.2.2.2.2.len x16.2.2.2.2.2.2.2.cap)]∧
 af Tryz.prog 100 #[(.agg #[(.int .i64 x16.1),(.int .i64 x16.2.1),(.int .i64 x16.2.2.1),(.int .i64 x16.2.2.2.1),(.int .i64 x16.2.2.2.2.1),(.int .i64 x16.2.2.2.2.2.1),(.int .u32 x16.2.2.2.2.2.2.1),(.slice x16.2.2.2.2.2.2.2.ptr x16.2.2.2.2.2.2.2.len x16.2.2.2.2.2.2.2.cap)])] (.one (.sc .slc)) h6 fun r17 h7=>
 (ak.ok [(a14.add 83,(.slice x15.ptr x15.len x15.cap))] h7)∧
 az Tryz.prog (Instr.buildSlice 69 1 #[(0,(.agg #[(.int .i64 r9),(.slice r17.ptr r17.len r17.cap)]))]) (.one (.sc .slc)) h7 fun v18 h8=>
 (ak.ok [(a14.add 83,(.slice x15.ptr x15.len x15.cap))] h8)∧
 az Tryz.prog (Builtin.append_ #[69,69] 69 #[(.slice x15.ptr x15.len x15.cap),(.slice v18.ptr v18.len v18.cap)]) (.one (.sc .slc)) h8 fun v19 h9=>
 (ak.ok [] h9)∧
 ∃a20:Addr,(v_0=some a20)∧
 ae Tryz.prog (Instr.storeAt 69 (.pointer (some (a20.add 83))) (.slice v19.ptr v19.len v19.cap)) h9 fun _ h10=>
 (ak.ok [] h10)∧
 R (.bool true) h10)
 (K1 (IntKind.wrap .i64 (s7+(1:Int))) h5))
 (R (.bool false) h3)) (0:Int) h2
theorem tE (v_0:Option Addr) (r_1:Int×Int×Int×Int×Int×Int×Int×Sl) {R:Value→Heap→Prop} {h:Heap} (hm:nK v_0 r_1 R h):ab Tryz.prog 119 #[(.pointer v_0),(.agg #[(.int .i64 r_1.1),(.int .i64 r_1.2.1),(.int .i64 r_1.2.2.1),(.int .i64 r_1.2.2.2.1),(.int .i64 r_1.2.2.2.2.1),(.int .i64 r_1.2.2.2.2.2.1),(.int .u32 r_1.2.2.2.2.2.2.1),(.slice r_1.2.2.2.2.2.2.2.ptr r_1.2.2.2.2.2.2.2.len r_1.2.2.2.2.2.2.2.cap)])] h R:=aq ag Tryz.func119 (.two .n (.two .n (.two (.two .n (.inn (.loop [(19,(.sc (.int .i64)))] [(4,5),(6,8),(19,55)] .n))) .n))) hm
abbrev Cu:FuncId:=120
noncomputable def uF (d_0:Option Addr) (there_1:Int) (n_2:Int) (R:Value→Heap→Prop) (h:Heap):Prop:=
 af Tryz.prog 13 #[(.pointer d_0)] (.one (.sc (.int .i64))) h fun r1 h1=>
 R (.bool (decide ((if(0:Int)>n_2 then(0:Int)else n_2)≤(IntKind.wrap .i64 (r1-there_1))))) h1
theorem AA (d_0:Option Addr) (there_1:Int) (n_2:Int) {R:Value→Heap→Prop} {h:Heap} (hm:uF d_0 there_1 n_2 R h):ab Tryz.prog 120 #[(.pointer d_0),(.int .i64 there_1),(.int .i64 n_2)] h R:=aq ag Tryz.func120 .n hm
abbrev wi:FuncId:=121
noncomputable def ox (d_0:Option Addr) (R:Value→Heap→Prop) (h:Heap):Prop:=
 Br (Option.isNone d_0)
 (R (.int .i64 (0:Int)) h)
 (∃a1:Addr,(d_0=some a1)∧
 ∃x2:Sl,cellOf h (a1.add 2)=some (.slice x2.ptr x2.len x2.cap)∧
 R (.int .i64 ((x2.len:Nat):Int)) h)
theorem vd (d_0:Option Addr) {R:Value→Heap→Prop} {h:Heap} (hm:ox d_0 R h):ab Tryz.prog 121 #[(.pointer d_0)] h R:=aq ag Tryz.func121 .n hm
abbrev rn:FuncId:=122
noncomputable def lf (d_0:Option Addr) (l_1:Sl) (R:Value→Heap→Prop) (h:Heap):Prop:=
 aO (σ:=Int) (fun s1 K1 h1=>
 Br (decide (s1<((l_1.len:Nat):Int)))
 (∃a2:Addr,(l_1.ptr=some a2∧0≤s1∧s1<((l_1.len:Nat):Int))∧
 ∃x3:Sl,cellOf h1 (a2.add (s1.toNat*1))=some (.slice x3.ptr x3.len x3.cap)∧
 Br (((x3.len:Nat):Int) !=(64:Int))
 (R (.int .i64 (1:Int)) h1)
 (K1 (IntKind.wrap .i64 (s1+(1:Int))) h1))
 (aZ (σ:=Unit) (fun _ h4=>
 ∃a13:Addr,(d_0=some a13)∧
 ∃x14:Option Addr,cellOf h4 a13=some (.pointer x14)∧
 af Tryz.prog 127 #[(.pointer x14)] (.one (.sc .bool)) h4 fun r15 h5=>
 Br (!r15)
 (af Tryz.prog 88 #[(.slice l_1.ptr l_1.len l_1.cap)] (.one (.sc .slc)) h5 fun r16 h6=>
 ∃a17:Addr,(d_0=some a17)∧
 ae Tryz.prog (Instr.storeAt 65 (.pointer (some (a17.add 4))) (.slice r16.ptr r16.len r16.cap)) h6 fun _ h7=>
 ∃a18:Addr,(d_0=some a18)∧
 ae Tryz.prog (Instr.storeAt 4 (.pointer (some (a18.add 5))) (.bool true)) h7 fun _ h8=>
 R (.int .i64 (14:Int)) h8)
 (af Tryz.prog 88 #[(.slice l_1.ptr l_1.len l_1.cap)] (.one (.sc .slc)) h5 fun r19 h9=>
 ∃a20:Addr,(d_0=some a20)∧
 ae Tryz.prog (Instr.storeAt 65 (.pointer (some (a20.add 2))) (.slice r19.ptr r19.len r19.cap)) h9 fun _ h10=>
 ∃a21:Addr,(d_0=some a21)∧
 ae Tryz.prog (Instr.storeAt 3 (.pointer (some (a21.add 3))) (.int .i64 (0:Int))) h10 fun _ h11=>
 af Tryz.prog 128 #[(.pointer d_0)] (.one (.sc (.int .i64))) h11 fun r22 h12=>
 R (.int .i64 r22) h12))
 (fun K2=>
 aZ (σ:=Bool) (fun s6 h2=>
 Br s6
 (R (.int .i64 (5:Int)) h2)
 (∃a7:Addr,(d_0=some a7)∧
 ∃x8:Int,cellOf h2 (a7.add 1)=some (.int .i64 x8)∧
 Br (decide (((l_1.len:Nat):Int)>x8))
 (R (.int .i64 (7:Int)) h2)
 (∃a9:Addr,(d_0=some a9)∧
 ∃x10:Option Addr,cellOf h2 a9=some (.pointer x10)∧
 af Tryz.prog 126 #[(.pointer x10)] (.one (.sc .bool)) h2 fun r11 h3=>
 Br (!r11)
 (R (.int .i64 (14:Int)) h3)
 (K2 () h3))))
 (fun K3=>
 Br (Option.isNone d_0) (K3 true h1) (∃a4:Addr,(d_0=some a4)∧
 ∃x5:Bool,cellOf h1 (a4.add 6)=some (.bool x5)∧
 K3 x5 h1))))) (0:Int) h
theorem qm (d_0:Option Addr) (l_1:Sl) {R:Value→Heap→Prop} {h:Heap} (hm:lf d_0 l_1 R h):ab Tryz.prog 122 #[(.pointer d_0),(.slice l_1.ptr l_1.len l_1.cap)] h R:=aq ag Tryz.func122 (.two .n (.two (.two .n (.inn (.loop [(9,(.sc (.int .i64)))] [(4,5),(6,7),(9,17)] .n))) (.two (.join [] [(4,5),(17,41)] (.inn (.two (.join [(17,(.sc .bool))] [(17,26)] .n) .n))) .n))) hm
abbrev FC:FuncId:=123
noncomputable def yl (d_0:Option Addr) (m_1:Int×Int×Int×Int×Int×Int×Sl×Sl) (R:Value→Heap→Prop) (h:Heap):Prop:=
 aK Tryz.prog (Instr.box 42 (.agg #[(.int .i64 m_1.1),(.int .i64 m_1.2.1),(.int .i64 m_1.2.2.1),(.int .i64 m_1.2.2.2.1),(.int .i64 m_1.2.2.2.2.1),(.int .i64 m_1.2.2.2.2.2.1),(.slice m_1.2.2.2.2.2.2.1.ptr m_1.2.2.2.2.2.2.1.len m_1.2.2.2.2.2.2.1.cap),(.slice m_1.2.2.2.2.2.2.2.ptr m_1.2.2.2.2.2.2.2.len m_1.2.2.2.2.2.2.2.cap)])) h fun a1 h1=>
 ∃x2:Int×Int×Int×Int×Int×Int×Sl×Sl,ai h1 a1 0 [(.int .i64 x2.1),(.int .i64 x2.2.1),(.int .i64 x2.2.2.1),(.int .i64 x2.2.2.2.1),(.int .i64 x2.2.2.2.2.1),(.int .i64 x2.2.2.2.2.2.1),(.slice x2.2.2.2.2.2.2.1.ptr x2.2.2.2.2.2.2.1.len x2.2.2.2.2.2.2.1.cap),(.slice x2.2.2.2.2.2.2.2.ptr x2.2.2.2.2.2.2.2.len x2.2.2.2.2.2.2.2.cap)]∧
 ∃x3:Int×Int×Int×Int×Int×Int×Sl×Sl,ai h1 a1 0 [(.int .i64 x3.1),(.int .i64 x3.2.1),(.int .i64 x3.2.2.1),(.int .i64 x3.2.2.2.1),(.int .i64 x3.2.2.2.2.1),(.int .i64 x3.2.2.2.2.2.1),(.slice x3.2.2.2.2.2.2.1.ptr x3.2.2.2.2.2.2.1.len x3.2.2.2.2.2.2.1.cap),(.slice x3.2.2.2.2.2.2.2.ptr x3.2.2.2.2.2.2.2.len x3.2.2.2.2.2.2.2.cap)]∧
 af Tryz.prog 29 #[(.agg #[(.int .i64 x2.1),(.int .i64 x2.2.1),(.int .i64 x2.2.2.1),(.int .i64 x2.2.2.2.1),(.int .i64 x2.2.2.2.2.1),(.int .i64 x2.2.2.2.2.2.1),(.slice x2.2.2.2.2.2.2.1.ptr x2.2.2.2.2.2.2.1.len x2.2.2.2.2.2.2.1.cap),(.slice x2.2.2.2.2.2.2.2.ptr x2.2.2.2.2.2.2.2.len x2.2.2.2.2.2.2.2.cap)])] (.one (.sc .slc)) h1 fun r4 h2=>
 (ak.ok [(a1,(.int .i64 x3.1)),(a1.add 1,(.int .i64 x3.2.1)),(a1.add 2,(.int .i64 x3.2.2.1)),(a1.add 3,(.int .i64 x3.2.2.2.1)),(a1.add 4,(.int .i64 x3.2.2.2.2.1)),(a1.add 5,(.int .i64 x3.2.2.2.2.2.1)),(a1.add 6,(.slice x3.2.2.2.2.2.2.1.ptr x3.2.2.2.2.2.2.1.len x3.2.2.2.2.2.2.1.cap)),(a1.add 7,(.slice x3.2.2.2.2.2.2.2.ptr x3.2.2.2.2.2.2.2.len x3.2.2.2.2.2.2.2.cap))] h2)∧
 af Tryz.prog 165 #[(.pointer d_0),(.agg #[(.int .i64 x3.1),(.int .i64 x3.2.1),(.int .i64 x3.2.2.1),(.int .i64 x3.2.2.2.1),(.int .i64 x3.2.2.2.2.1),(.int .i64 x3.2.2.2.2.2.1),(.slice x3.2.2.2.2.2.2.1.ptr x3.2.2.2.2.2.2.1.len x3.2.2.2.2.2.2.1.cap),(.slice x3.2.2.2.2.2.2.2.ptr x3.2.2.2.2.2.2.2.len x3.2.2.2.2.2.2.2.cap)])] (.one (.sc .slc)) h2 fun r5 h3=>
 (ak.ok [] h3)∧
 az Tryz.prog (Builtin.append_ #[65,65] 65 #[(.slice r4.ptr r4.len r4.cap),(.slice r5.ptr r5.len r5.cap)]) (.one (.sc .slc)) h3 fun v6 h4=>
 (ak.ok [] h4)∧
 R (.slice v6.ptr v6.len v6.cap) h4
theorem D5 (d_0:Option Addr) (m_1:Int×Int×Int×Int×Int×Int×Sl×Sl) {R:Value→Heap→Prop} {h:Heap} (hm:yl d_0 m_1 R h):ab Tryz.prog 123 #[(.pointer d_0),(.agg #[(.int .i64 m_1.1),(.int .i64 m_1.2.1),(.int .i64 m_1.2.2.1),(.int .i64 m_1.2.2.2.1),(.int .i64 m_1.2.2.2.2.1),(.int .i64 m_1.2.2.2.2.2.1),(.slice m_1.2.2.2.2.2.2.1.ptr m_1.2.2.2.2.2.2.1.len m_1.2.2.2.2.2.2.1.cap),(.slice m_1.2.2.2.2.2.2.2.ptr m_1.2.2.2.2.2.2.2.len m_1.2.2.2.2.2.2.2.cap)])] h R:=aq ag Tryz.func123 .n hm
abbrev Cv:FuncId:=124
noncomputable def uG (to_0:Sl) (n_1:Int) (size_2:Int) (R:Value→Heap→Prop) (h:Heap):Prop:=
 aO (σ:=Sl×Int) (fun s1 K1 h1=>
 Br (decide (s1.2≥(0:Int)))
 ((0≤(IntKind.wrap .i64 ((8:Int)*s1.2)))∧
 az Tryz.prog (Instr.buildSlice 46 1 #[(0,(.int .u8 (IntKind.wrap .u8 (Int.fdiv n_1 (2^min (IntKind.wrap .i64 ((8:Int)*s1.2)).toNat (IntKind.bits .i64))))))]) (.one (.sc .slc)) h1 fun v2 h2=>
 az Tryz.prog (Builtin.append_ #[46,46] 46 #[(.slice s1.1.ptr s1.1.len s1.1.cap),(.slice v2.ptr v2.len v2.cap)]) (.one (.sc .slc)) h2 fun v3 h3=>
 K1 ((⟨v3.ptr,v3.len,v3.cap⟩:Sl),IntKind.wrap .i64 (s1.2-(1:Int))) h3)
 (R (.slice s1.1.ptr s1.1.len s1.1.cap) h1)) ((⟨to_0.ptr,to_0.len,to_0.cap⟩:Sl),IntKind.wrap .i64 (size_2-(1:Int))) h
theorem AB (to_0:Sl) (n_1:Int) (size_2:Int) {R:Value→Heap→Prop} {h:Heap} (hm:uG to_0 n_1 size_2 R h):ab Tryz.prog 124 #[(.slice to_0.ptr to_0.len to_0.cap),(.int .i64 n_1),(.int .i64 size_2)] h R:=aq ag Tryz.func124 (.two .n (.two (.two .n (.inn (.loop [(0,(.sc .slc)),(7,(.sc (.int .i64)))] [(0,1),(7,8),(10,22)] .n))) .n)) hm
abbrev Hi:FuncId:=125
noncomputable def AD (kind_0:Int) (body_1:Sl) (R:Value→Heap→Prop) (h:Heap):Prop:=
 aZ (σ:=Unit) (fun _ h1=>
 az Tryz.prog (Instr.makeSlice 46 (.int .i64 (64:Int)) (.int .i64 (64:Int))) (.one (.sc .slc)) h1 fun v2 h2=>
 az Tryz.prog (Instr.buildSlice 46 4 #[(0,(.int .u8 (87:Int))),(1,(.int .u8 (115:Int))),(2,(.int .u8 (1:Int))),(3,(.int .u8 (IntKind.wrap .u8 kind_0)))]) (.one (.sc .slc)) h2 fun v3 h3=>
 az Tryz.prog (Builtin.copy_ #[46,46] 3 #[(.slice v2.ptr v2.len v2.cap),(.slice v3.ptr v3.len v3.cap)]) (.one (.sc (.int .i64))) h3 fun _ h4=>
 (0≤(4:Int)∧(4:Int)≤((v2.len:Nat):Int))∧
 az Tryz.prog (Builtin.copy_ #[46,46] 3 #[(.slice (if v2.cap=(4:Int).toNat then v2.ptr else v2.ptr.map (·.add ((4:Int).toNat*1))) (v2.len-(4:Int).toNat) (v2.cap-(4:Int).toNat)),(.slice body_1.ptr body_1.len body_1.cap)]) (.one (.sc (.int .i64))) h4 fun _ h5=>
 (0≤(59:Int)∧(59:Int)≤((v2.cap:Nat):Int))∧
 af Tryz.prog 166 #[(.slice v2.ptr ((59:Int).toNat) v2.cap)] (.one (.sc (.int .u32))) h5 fun r6 h6=>
 aO (σ:=Int) (fun s7 K2 h7=>
 Br (decide (s7<(4:Int)))
 ((0≤(IntKind.wrap .i64 ((8:Int)*s7)))∧
 ∃a8:Addr,(v2.ptr=some a8∧0≤(IntKind.wrap .i64 ((59:Int)+s7))∧(IntKind.wrap .i64 ((59:Int)+s7))<((v2.len:Nat):Int))∧
 ae Tryz.prog (Instr.storeAt 5 (.pointer (some (a8.add ((IntKind.wrap .i64 ((59:Int)+s7)).toNat*1)))) (.int .u8 (IntKind.wrap .u8 (Int.fdiv r6 (2^min (IntKind.wrap .i64 ((8:Int)*s7)).toNat (IntKind.bits .u32)))))) h7 fun _ h8=>
 K2 (IntKind.wrap .i64 (s7+(1:Int))) h8)
 (∃a9:Addr,(v2.ptr=some a9∧0≤(63:Int)∧(63:Int)<((v2.len:Nat):Int))∧
 ae Tryz.prog (Instr.storeAt 5 (.pointer (some (a9.add ((63:Int).toNat*1)))) (.int .u8 (165:Int))) h7 fun _ h9=>
 R (.slice v2.ptr v2.len v2.cap) h9)) (0:Int) h6)
 (fun K1=>
 Br (decide (kind_0<(1:Int))) (R (.slice none 0 0) h) (Br (decide (kind_0>(255:Int))) (R (.slice none 0 0) h) (Br (decide (((body_1.len:Nat):Int)>(55:Int)))
 (R (.slice none 0 0) h)
 (K1 () h))))
theorem FD (kind_0:Int) (body_1:Sl) {R:Value→Heap→Prop} {h:Heap} (hm:AD kind_0 body_1 R h):ab Tryz.prog 125 #[(.int .i64 kind_0),(.slice body_1.ptr body_1.len body_1.cap)] h R:=aq ag Tryz.func125 (.two .n (.two (.join [] [(4,5),(8,19)] .n) (.two .n (.two .n (.two .n (.two .n (.two (.two .n (.inn (.loop [(32,(.sc (.int .i64)))] [(7,8),(32,45)] .n))) .n))))))) hm
abbrev xH:FuncId:=126
noncomputable def pM (p_0:Option Addr) (R:Value→Heap→Prop) (h:Heap):Prop:=
 Br (!(Option.isNone p_0)) (∃a1:Addr,(p_0=some a1)∧
 ∃x2:Bool,cellOf h a1=some (.bool x2)∧
 R (.bool (!x2)) h) (R (.bool false) h)
theorem wj (p_0:Option Addr) {R:Value→Heap→Prop} {h:Heap} (hm:pM p_0 R h):ab Tryz.prog 126 #[(.pointer p_0)] h R:=aq ag Tryz.func126 .n hm
abbrev ve:FuncId:=127
noncomputable def nL (p_0:Option Addr) (R:Value→Heap→Prop) (h:Heap):Prop:=
 af Tryz.prog 126 #[(.pointer p_0)] (.one (.sc .bool)) h fun r1 h1=>
 Br (!r1)
 (R (.bool false) h1)
 (∃a2:Addr,(p_0=some a2)∧
 ∃x3:Bool,cellOf h1 (a2.add 1)=some (.bool x3)∧
 Br (!x3)
 (R (.bool true) h1)
 (∃a4:Addr,(p_0=some a4)∧
 ∃x5:Int,cellOf h1 (a4.add 2)=some (.int .i64 x5)∧
 Br (x5==(0:Int))
 (∃a6:Addr,(p_0=some a6)∧
 ae Tryz.prog (Instr.storeAt 4 (.pointer (some a6)) (.bool true)) h1 fun _ h2=>
 ∃a7:Addr,(p_0=some a7)∧
 ∃x8:Int,cellOf h2 (a7.add 3)=some (.int .i64 x8)∧
 ∃a9:Addr,(p_0=some a9)∧
 ae Tryz.prog (Instr.storeAt 3 (.pointer (some (a9.add 3))) (.int .i64 (IntKind.wrap .i64 (x8+(1:Int))))) h2 fun _ h3=>
 R (.bool false) h3)
 (∃a10:Addr,(p_0=some a10)∧
 ∃x11:Int,cellOf h1 (a10.add 2)=some (.int .i64 x11)∧
 ∃a12:Addr,(p_0=some a12)∧
 ae Tryz.prog (Instr.storeAt 3 (.pointer (some (a12.add 2))) (.int .i64 (IntKind.wrap .i64 (x11-(1:Int))))) h1 fun _ h4=>
 R (.bool true) h4)))
theorem tG (p_0:Option Addr) {R:Value→Heap→Prop} {h:Heap} (hm:nL p_0 R h):ab Tryz.prog 127 #[(.pointer p_0)] h R:=aq ag Tryz.func127 .n hm
abbrev vf:FuncId:=128
noncomputable def nM (d_0:Option Addr) (R:Value→Heap→Prop) (h:Heap):Prop:=
 ∃a1:Addr,(d_0=some a1)∧
 ae Tryz.prog (Instr.storeAt 65 (.pointer (some (a1.add 4))) (.slice none 0 0)) h fun _ h1=>
 ∃a2:Addr,(d_0=some a2)∧
 ae Tryz.prog (Instr.storeAt 4 (.pointer (some (a2.add 5))) (.bool false)) h1 fun _ h2=>
 R (.int .i64 (0:Int)) h2
theorem tH (d_0:Option Addr) {R:Value→Heap→Prop} {h:Heap} (hm:nM d_0 R h):ab Tryz.prog 128 #[(.pointer d_0)] h R:=aq ag Tryz.func128 .n hm
abbrev oL:FuncId:=129
abbrev my:FuncId:=130
noncomputable def jW (d_0:Option Addr) (R:Value→Heap→Prop) (h:Heap):Prop:=
 aZ (σ:=Unit) (fun _ h1=>
 ∃a4:Addr,(d_0=some a4)∧
 ∃x5:Option Addr,cellOf h1 a4=some (.pointer x5)∧
 af Tryz.prog 127 #[(.pointer x5)] (.one (.sc .bool)) h1 fun r6 h2=>
 Br (!r6)
 (R (.int .i64 (14:Int)) h2)
 (∃a7:Addr,(d_0=some a7)∧
 ae Tryz.prog (Instr.storeAt 3 (.pointer (some (a7.add 3))) (.int .i64 (0:Int))) h2 fun _ h3=>
 af Tryz.prog 128 #[(.pointer d_0)] (.one (.sc (.int .i64))) h3 fun r8 h4=>
 R (.int .i64 r8) h4))
 (fun K1=>
 Br (Option.isNone d_0) (R (.int .i64 (5:Int)) h) (∃a1:Addr,(d_0=some a1)∧
 ∃x2:Bool,cellOf h (a1.add 6)=some (.bool x2)∧
 Br x2
 (R (.int .i64 (5:Int)) h)
 (K1 () h)))
theorem lN (d_0:Option Addr) {R:Value→Heap→Prop} {h:Heap} (hm:jW d_0 R h):ab Tryz.prog 130 #[(.pointer d_0)] h R:=aq ag Tryz.func130 (.two .n (.two (.join [] [(2,11)] .n) .n)) hm
end Go.Proofs.YtkciobclldnoiaaGreat
