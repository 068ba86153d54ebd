/- Part of the proofs that the laws of this seat answer true whatever the input reads, and leave it as it was; no condition. -/
import Derived.Test.YtdhamoojccmbdaaGreatDoorTabA
set_option linter.unusedVariables false
set_option linter.unusedSimpArgs false
namespace Go.Proofs.YtdhamoojccmbdaaGreatDoor
open Go Go.Vc Go.Proofs
set_option maxRecDepth 1000000
abbrev ui:FuncId:=114
noncomputable def oB (l_0:Sl) (most_1:Int) (R:Value→Heap→Prop) (h:Heap):Prop:=
 aR (σ:=Int) (fun s1 K1 h1=>
 Br (decide (s1<((l_0.len:Nat):Int)))
 (∃a2:Addr,(l_0.ptr=some a2∧0≤s1∧s1<((l_0.len:Nat):Int))∧
 ∃x3:Int,cellOf h1 (a2.add (s1.toNat*1))=some (.int .i64 x3)∧
 af Tryz.prog 113 #[(.int .i64 x3),(.int .i64 (0:Int)),(.int .i64 most_1)] (.one (.sc .bool)) h1 fun r4 h2=>
 Br (!r4) (R (.bool false) h2) (Br (decide (s1>(0:Int))) (∃a5:Addr,(l_0.ptr=some a5∧0≤(IntKind.wrap .i64 (s1-(1:Int)))∧(IntKind.wrap .i64 (s1-(1:Int)))<((l_0.len:Nat):Int))∧
 ∃x6:Int,cellOf h2 (a5.add ((IntKind.wrap .i64 (s1-(1:Int))).toNat*1))=some (.int .i64 x6)∧
 Br (decide (x6≥x3))
 (R (.bool false) h2)
 (K1 (IntKind.wrap .i64 (s1+(1:Int))) h2)) (K1 (IntKind.wrap .i64 (s1+(1:Int))) h2)))
 (R (.bool true) h1)) (0:Int) h
theorem su (l_0:Sl) (most_1:Int) {R:Value→Heap→Prop} {h:Heap} (hm:oB l_0 most_1 R h):ae Tryz.prog 114 #[(.slice l_0.ptr l_0.len l_0.cap),(.int .i64 most_1)] h R:=aw ah Tryz.func114 (.two .n (.two (.two .n (.inn (.loop [(9,(.sc (.int .i64)))] [(4,7),(9,32)] .n))) .n)) hm
abbrev sv:FuncId:=115
noncomputable def nj (m_0:Int×Int×Int×Int×Int×Int×Sl×Sl) (x_1:ByteArray×Int×Int×Sl) (R:Value→Heap→Prop) (h:Heap):Prop:=
 aW Tryz.prog (Instr.box 47 (.agg #[(.int .i64 m_0.1),(.int .i64 m_0.2.1),(.int .i64 m_0.2.2.1),(.int .i64 m_0.2.2.2.1),(.int .i64 m_0.2.2.2.2.1),(.int .i64 m_0.2.2.2.2.2.1),(.slice m_0.2.2.2.2.2.2.1.ptr m_0.2.2.2.2.2.2.1.len m_0.2.2.2.2.2.2.1.cap),(.slice m_0.2.2.2.2.2.2.2.ptr m_0.2.2.2.2.2.2.2.len m_0.2.2.2.2.2.2.2.cap)])) h fun a1 h1=>
 aW Tryz.prog (Instr.box 96 (.agg #[(.string x_1.1),(.int .i64 x_1.2.1),(.int .i64 x_1.2.2.1),(.slice x_1.2.2.2.ptr x_1.2.2.2.len x_1.2.2.2.cap)])) h1 fun a2 h2=>
 bn (σ:=Unit) (fun _ h6=>
 ∃x13:Sl,cellOf h6 (a2.add 3)=some (.slice x13.ptr x13.len x13.cap)∧
 af Tryz.prog 103 #[(.slice x13.ptr x13.len x13.cap),(.func (.func 167) #[] #[])] (.one (.sc .bool)) h6 fun r14 h7=>
 Br (!r14) (∃x15:Sl,cellOf h7 (a2.add 3)=some (.slice x15.ptr x15.len x15.cap)∧
 ∃x16:Int×Int×Int,aj h7 (a1.add 2) 0 [(.int .i64 x16.1),(.int .i64 x16.2.1),(.int .i64 x16.2.2)]∧
 ∃x17:Int,cellOf h7 (a2.add 2)=some (.int .i64 x17)∧
 af Tryz.prog 30 #[(.agg #[(.int .i64 x16.1),(.int .i64 x16.2.1),(.int .i64 x16.2.2)]),(.int .i64 x17)] (.one (.sc (.int .i64))) h7 fun r18 h8=>
 (aC.ok [(a2.add 3,(.slice x15.ptr x15.len x15.cap))] h8)∧
 R (.bool (((x15.len:Nat):Int)==r18)) h8) ((aC.ok [] h7)∧
 R (.bool false) h7))
 (fun K1=>
 ∃x3:ByteArray,cellOf h2 a2=some (.string x3)∧
 af Tryz.prog 92 #[(.string x3)] (.one (.sc .bool)) h2 fun r4 h3=>
 Br (!r4) (R (.bool false) h3) (∃x5:Int,cellOf h3 (a2.add 1)=some (.int .i64 x5)∧
 ∃x6:Int,cellOf h3 (a1.add 1)=some (.int .i64 x6)∧
 af Tryz.prog 113 #[(.int .i64 x5),(.int .i64 (0:Int)),(.int .i64 (IntKind.wrap .i64 (x6-(1:Int))))] (.one (.sc .bool)) h3 fun r7 h4=>
 Br (!r7) (R (.bool false) h4) (∃x8:Int,cellOf h4 (a2.add 2)=some (.int .i64 x8)∧
 ∃x9:Int,cellOf h4 (a1.add 2)=some (.int .i64 x9)∧
 ∃x10:Int,cellOf h4 ((a1.add 2).add 2)=some (.int .i64 x10)∧
 af Tryz.prog 113 #[(.int .i64 x8),(.int .i64 (0:Int)),(.int .i64 (IntKind.wrap .i64 ((IntKind.wrap .i64 (x9*x10))*(8:Int))))] (.one (.sc .bool)) h4 fun r11 h5=>
 Br (!r11)
 (R (.bool false) h5)
 (K1 () h5))))
theorem qX (m_0:Int×Int×Int×Int×Int×Int×Sl×Sl) (x_1:ByteArray×Int×Int×Sl) {R:Value→Heap→Prop} {h:Heap} (hm:nj m_0 x_1 R h):ae Tryz.prog 115 #[(.agg #[(.int .i64 m_0.1),(.int .i64 m_0.2.1),(.int .i64 m_0.2.2.1),(.int .i64 m_0.2.2.2.1),(.int .i64 m_0.2.2.2.2.1),(.int .i64 m_0.2.2.2.2.2.1),(.slice m_0.2.2.2.2.2.2.1.ptr m_0.2.2.2.2.2.2.1.len m_0.2.2.2.2.2.2.1.cap),(.slice m_0.2.2.2.2.2.2.2.ptr m_0.2.2.2.2.2.2.2.len m_0.2.2.2.2.2.2.2.cap)]),(.agg #[(.string x_1.1),(.int .i64 x_1.2.1),(.int .i64 x_1.2.2.1),(.slice x_1.2.2.2.ptr x_1.2.2.2.len x_1.2.2.2.cap)])] h R:=aw ah Tryz.func115 (.two .n (.two (.join [] [(4,5),(6,33)] .n) .n)) hm
abbrev cM:FuncId:=116
noncomputable def bQ (s_0:Sl) (f_1:FuncId×Array Value×Array Value) (R:Value→Heap→Prop) (h:Heap):Prop:=
 af Tryz.prog 120 #[(.slice s_0.ptr s_0.len s_0.cap),(.func (.func f_1.1) f_1.2.1 f_1.2.2)] (.one (.sc (.int .i64))) h fun r1 h1=>
 R (.bool (decide (r1≥(0:Int)))) h1
theorem cG (s_0:Sl) (f_1:FuncId×Array Value×Array Value) {R:Value→Heap→Prop} {h:Heap} (hm:bQ s_0 f_1 R h):ae Tryz.prog 116 #[(.slice s_0.ptr s_0.len s_0.cap),(.func (.func f_1.1) f_1.2.1 f_1.2.2)] h R:=aw ah Tryz.func116 .n hm
abbrev jl:FuncId:=117
noncomputable def nk (y_0:ByteArray×Int×Int×Sl) (cap_1:Addr) (R:Value→Heap→Prop) (h:Heap):Prop:=
 aW Tryz.prog (Instr.box 96 (.agg #[(.string y_0.1),(.int .i64 y_0.2.1),(.int .i64 y_0.2.2.1),(.slice y_0.2.2.2.ptr y_0.2.2.2.len y_0.2.2.2.cap)])) h fun a1 h1=>
 ∃x2:Int,cellOf h1 (a1.add 1)=some (.int .i64 x2)∧
 ∃x3:Int,cellOf h1 (cap_1.add 1)=some (.int .i64 x3)∧
 R (.bool (x2==x3)) h1
theorem qY (y_0:ByteArray×Int×Int×Sl) (cap_1:Addr) {R:Value→Heap→Prop} {h:Heap} (hm:nk y_0 cap_1 R h):ae Tryz.prog 117 #[(.agg #[(.string y_0.1),(.int .i64 y_0.2.1),(.int .i64 y_0.2.2.1),(.slice y_0.2.2.2.ptr y_0.2.2.2.len y_0.2.2.2.cap)]),(.pointer (some cap_1))] h R:=aw ah Tryz.func117 .n hm
abbrev fj:FuncId:=120
noncomputable def cf (s_0:Sl) (f_1:FuncId×Array Value×Array Value) (R:Value→Heap→Prop) (h:Heap):Prop:=
 aR (σ:=Int) (fun s1 K1 h1=>
 Br (decide (s1<((s_0.len:Nat):Int)))
 (∃a2:Addr,(s_0.ptr=some a2∧0≤s1∧s1<((s_0.len:Nat):Int))∧
 ∃x3:ByteArray×Int×Int×Sl,aj h1 (a2.add (s1.toNat*4)) 0 [(.string x3.1),(.int .i64 x3.2.1),(.int .i64 x3.2.2.1),(.slice x3.2.2.2.ptr x3.2.2.2.len x3.2.2.2.cap)]∧
 ga C f_1.1 (f_1.2.1.toList++[(.agg #[(.string x3.1),(.int .i64 x3.2.1),(.int .i64 x3.2.2.1),(.slice x3.2.2.2.ptr x3.2.2.2.len x3.2.2.2.cap)])]++f_1.2.2.toList) (.one (.sc .bool)) h1 fun r4 h2=>
 Br r4
 (R (.int .i64 s1) h2)
 (K1 (IntKind.wrap .i64 (s1+(1:Int))) h2))
 (R (.int .i64 (-1:Int)) h1)) (0:Int) h
theorem cP (s_0:Sl) (f_1:FuncId×Array Value×Array Value) {R:Value→Heap→Prop} {h:Heap} (hm:cf s_0 f_1 R h):ae Tryz.prog 120 #[(.slice s_0.ptr s_0.len s_0.cap),(.func (.func f_1.1) f_1.2.1 f_1.2.2)] h R:=aw ah Tryz.func120 (.two .n (.two (.two .n (.inn (.loop [(8,(.sc (.int .i64)))] [(4,6),(8,19)] .n))) .n)) hm
abbrev qZ:FuncId:=132
noncomputable def mi (b_0:Sl) (R:Value→Heap→Prop) (h:Heap):Prop:=
 aW Tryz.prog (Instr.alloc 134 true (.tuple #[])) h fun a1 h1=>
 af Tryz.prog 183 #[(.slice b_0.ptr b_0.len b_0.cap)] (.many [(.sc (.int .i64)),(.sc .slc),(.sc .bool)]) h1 fun r2 h2=>
 bn (σ:=Unit) (fun _ h5=>
 bn (σ:=Addr) (fun s19 h23=>
 bn (σ:=Unit) (fun _ h28=>
 (0≤(9:Int)∧(9:Int)≤(13:Int)∧(13:Int)≤((r2.2.1.cap:Nat):Int))∧
 af Tryz.prog 184 #[(.slice (if r2.2.1.cap=(9:Int).toNat then r2.2.1.ptr else r2.2.1.ptr.map (·.add ((9:Int).toNat*1))) ((13:Int).toNat-(9:Int).toNat) (r2.2.1.cap-(9:Int).toNat))] (.one (.sc (.int .i64))) h28 fun r24 h29=>
 ab Tryz.prog (Instr.storeAt 55 (.pointer (some (s19.add 6))) (.int .u32 (IntKind.wrap .u32 r24))) h29 fun _ h30=>
 ∃x25:Int×Int×Int,aj h30 (s19.add 3) 0 [(.int .i64 x25.1),(.int .i64 x25.2.1),(.int .i64 x25.2.2)]∧
 af Tryz.prog 39 #[(.agg #[(.int .i64 x25.1),(.int .i64 x25.2.1),(.int .i64 x25.2.2)])] (.one (.sc .bool)) h30 fun r26 h31=>
 Br (!r26)
 (ab Tryz.prog (Instr.storeAt 134 (.pointer (some a1)) (.agg #[(.int .i64 (0:Int)),(.int .i64 (0:Int)),(.int .i64 (0:Int)),(.int .i64 (0:Int)),(.int .i64 (0:Int)),(.int .i64 (0:Int)),(.int .u32 (0:Int)),(.slice none 0 0)])) h31 fun _ h32=>
 ∃res27:Int×Int×Int×Int×Int×Int×Int×Sl,aj h32 a1 0 [(.int .i64 res27.1),(.int .i64 res27.2.1),(.int .i64 res27.2.2.1),(.int .i64 res27.2.2.2.1),(.int .i64 res27.2.2.2.2.1),(.int .i64 res27.2.2.2.2.2.1),(.int .u32 res27.2.2.2.2.2.2.1),(.slice res27.2.2.2.2.2.2.2.ptr res27.2.2.2.2.2.2.2.len res27.2.2.2.2.2.2.2.cap)]∧
 R (.tuple #[(.agg #[(.int .i64 res27.1),(.int .i64 res27.2.1),(.int .i64 res27.2.2.1),(.int .i64 res27.2.2.2.1),(.int .i64 res27.2.2.2.2.1),(.int .i64 res27.2.2.2.2.2.1),(.int .u32 res27.2.2.2.2.2.2.1),(.slice res27.2.2.2.2.2.2.2.ptr res27.2.2.2.2.2.2.2.len res27.2.2.2.2.2.2.2.cap)]),(.bool false)]) h32)
 (∃x28:Int,cellOf h31 ((s19.add 3).add 2)=some (.int .i64 x28)∧
 (0≤(13:Int)∧(13:Int)≤(IntKind.wrap .i64 ((13:Int)+x28))∧(IntKind.wrap .i64 ((13:Int)+x28))≤((r2.2.1.cap:Nat):Int))∧
 af Tryz.prog 91 #[(.slice (if r2.2.1.cap=(13:Int).toNat then r2.2.1.ptr else r2.2.1.ptr.map (·.add ((13:Int).toNat*1))) ((IntKind.wrap .i64 ((13:Int)+x28)).toNat-(13:Int).toNat) (r2.2.1.cap-(13:Int).toNat))] (.one (.sc .slc)) h31 fun r29 h33=>
 ab Tryz.prog (Instr.storeAt 38 (.pointer (some (s19.add 7))) (.slice r29.ptr r29.len r29.cap)) h33 fun _ h34=>
 ∃x30:Int×Int×Int×Int×Int×Int×Int×Sl,aj h34 s19 0 [(.int .i64 x30.1),(.int .i64 x30.2.1),(.int .i64 x30.2.2.1),(.int .i64 x30.2.2.2.1),(.int .i64 x30.2.2.2.2.1),(.int .i64 x30.2.2.2.2.2.1),(.int .u32 x30.2.2.2.2.2.2.1),(.slice x30.2.2.2.2.2.2.2.ptr x30.2.2.2.2.2.2.2.len x30.2.2.2.2.2.2.2.cap)]∧
 af Tryz.prog 99 #[(.agg #[(.int .i64 x30.1),(.int .i64 x30.2.1),(.int .i64 x30.2.2.1),(.int .i64 x30.2.2.2.1),(.int .i64 x30.2.2.2.2.1),(.int .i64 x30.2.2.2.2.2.1),(.int .u32 x30.2.2.2.2.2.2.1),(.slice x30.2.2.2.2.2.2.2.ptr x30.2.2.2.2.2.2.2.len x30.2.2.2.2.2.2.2.cap)])] (.one (.sc .slc)) h34 fun r31 h35=>
 af Tryz.prog 58 #[(.slice b_0.ptr b_0.len b_0.cap),(.slice r31.ptr r31.len r31.cap)] (.one (.sc .bool)) h35 fun r32 h36=>
 Br (!r32)
 (ab Tryz.prog (Instr.storeAt 134 (.pointer (some a1)) (.agg #[(.int .i64 (0:Int)),(.int .i64 (0:Int)),(.int .i64 (0:Int)),(.int .i64 (0:Int)),(.int .i64 (0:Int)),(.int .i64 (0:Int)),(.int .u32 (0:Int)),(.slice none 0 0)])) h36 fun _ h37=>
 ∃res33:Int×Int×Int×Int×Int×Int×Int×Sl,aj h37 a1 0 [(.int .i64 res33.1),(.int .i64 res33.2.1),(.int .i64 res33.2.2.1),(.int .i64 res33.2.2.2.1),(.int .i64 res33.2.2.2.2.1),(.int .i64 res33.2.2.2.2.2.1),(.int .u32 res33.2.2.2.2.2.2.1),(.slice res33.2.2.2.2.2.2.2.ptr res33.2.2.2.2.2.2.2.len res33.2.2.2.2.2.2.2.cap)]∧
 R (.tuple #[(.agg #[(.int .i64 res33.1),(.int .i64 res33.2.1),(.int .i64 res33.2.2.1),(.int .i64 res33.2.2.2.1),(.int .i64 res33.2.2.2.2.1),(.int .i64 res33.2.2.2.2.2.1),(.int .u32 res33.2.2.2.2.2.2.1),(.slice res33.2.2.2.2.2.2.2.ptr res33.2.2.2.2.2.2.2.len res33.2.2.2.2.2.2.2.cap)]),(.bool false)]) h37)
 (∃x34:Int×Int×Int×Int×Int×Int×Int×Sl,aj h36 s19 0 [(.int .i64 x34.1),(.int .i64 x34.2.1),(.int .i64 x34.2.2.1),(.int .i64 x34.2.2.2.1),(.int .i64 x34.2.2.2.2.1),(.int .i64 x34.2.2.2.2.2.1),(.int .u32 x34.2.2.2.2.2.2.1),(.slice x34.2.2.2.2.2.2.2.ptr x34.2.2.2.2.2.2.2.len x34.2.2.2.2.2.2.2.cap)]∧
 ab Tryz.prog (Instr.storeAt 134 (.pointer (some a1)) (.agg #[(.int .i64 x34.1),(.int .i64 x34.2.1),(.int .i64 x34.2.2.1),(.int .i64 x34.2.2.2.1),(.int .i64 x34.2.2.2.2.1),(.int .i64 x34.2.2.2.2.2.1),(.int .u32 x34.2.2.2.2.2.2.1),(.slice x34.2.2.2.2.2.2.2.ptr x34.2.2.2.2.2.2.2.len x34.2.2.2.2.2.2.2.cap)])) h36 fun _ h38=>
 ∃res35:Int×Int×Int×Int×Int×Int×Int×Sl,aj h38 a1 0 [(.int .i64 res35.1),(.int .i64 res35.2.1),(.int .i64 res35.2.2.1),(.int .i64 res35.2.2.2.1),(.int .i64 res35.2.2.2.2.1),(.int .i64 res35.2.2.2.2.2.1),(.int .u32 res35.2.2.2.2.2.2.1),(.slice res35.2.2.2.2.2.2.2.ptr res35.2.2.2.2.2.2.2.len res35.2.2.2.2.2.2.2.cap)]∧
 R (.tuple #[(.agg #[(.int .i64 res35.1),(.int .i64 res35.2.1),(.int .i64 res35.2.2.1),(.int .i64 res35.2.2.2.1),(.int .i64 res35.2.2.2.2.1),(.int .i64 res35.2.2.2.2.2.1),(.int .u32 res35.2.2.2.2.2.2.1),(.slice res35.2.2.2.2.2.2.2.ptr res35.2.2.2.2.2.2.2.len res35.2.2.2.2.2.2.2.cap)]),(.bool true)]) h38)))
 (fun K3=>
 (0≤(6:Int)∧(6:Int)≤(7:Int)∧(7:Int)≤((r2.2.1.cap:Nat):Int))∧
 (0≤(7:Int)∧(7:Int)≤(8:Int)∧(8:Int)≤((r2.2.1.cap:Nat):Int))∧
 (0≤(8:Int)∧(8:Int)≤(9:Int)∧(9:Int)≤((r2.2.1.cap:Nat):Int))∧
 af Tryz.prog 184 #[(.slice (if r2.2.1.cap=(6:Int).toNat then r2.2.1.ptr else r2.2.1.ptr.map (·.add ((6:Int).toNat*1))) ((7:Int).toNat-(6:Int).toNat) (r2.2.1.cap-(6:Int).toNat))] (.one (.sc (.int .i64))) h23 fun r20 h24=>
 (aC.ok [] h24)∧
 af Tryz.prog 184 #[(.slice (if r2.2.1.cap=(7:Int).toNat then r2.2.1.ptr else r2.2.1.ptr.map (·.add ((7:Int).toNat*1))) ((8:Int).toNat-(7:Int).toNat) (r2.2.1.cap-(7:Int).toNat))] (.one (.sc (.int .i64))) h24 fun r21 h25=>
 (aC.ok [] h25)∧
 af Tryz.prog 184 #[(.slice (if r2.2.1.cap=(8:Int).toNat then r2.2.1.ptr else r2.2.1.ptr.map (·.add ((8:Int).toNat*1))) ((9:Int).toNat-(8:Int).toNat) (r2.2.1.cap-(8:Int).toNat))] (.one (.sc (.int .i64))) h25 fun r22 h26=>
 (aC.ok [] h26)∧
 ab Tryz.prog (Instr.storeAt 24 (.pointer (some (s19.add 3))) (.agg #[(.int .i64 r20),(.int .i64 r21),(.int .i64 r22)])) h26 fun _ h27=>
 (aC.ok [] h27)∧
 K3 () h27))
 (fun K2=>
 (0≤(3:Int)∧(3:Int)≤((r2.2.1.cap:Nat):Int))∧
 (0≤(3:Int)∧(3:Int)≤(4:Int)∧(4:Int)≤((r2.2.1.cap:Nat):Int))∧
 (0≤(4:Int)∧(4:Int)≤(6:Int)∧(6:Int)≤((r2.2.1.cap:Nat):Int))∧
 (af Tryz.prog 184 #[(.slice r2.2.1.ptr ((3:Int).toNat) r2.2.1.cap)] (.one (.sc (.int .i64))) h5 fun r6 h6=>
 (aC.ok [] h6)∧
 (af Tryz.prog 184 #[(.slice (if r2.2.1.cap=(3:Int).toNat then r2.2.1.ptr else r2.2.1.ptr.map (·.add ((3:Int).toNat*1))) ((4:Int).toNat-(3:Int).toNat) (r2.2.1.cap-(3:Int).toNat))] (.one (.sc (.int .i64))) h6 fun r7 h7=>
 (aC.ok [] h7)∧
 (af Tryz.prog 184 #[(.slice (if r2.2.1.cap=(4:Int).toNat then r2.2.1.ptr else r2.2.1.ptr.map (·.add ((4:Int).toNat*1))) ((6:Int).toNat-(4:Int).toNat) (r2.2.1.cap-(4:Int).toNat))] (.one (.sc (.int .i64))) h7 fun r8 h8=>
 (aC.ok [] h8)∧
 aW Tryz.prog (Instr.alloc 134 true (.tuple #[])) h8 fun a9 h9=>
 (aC.ok [] h9)∧
 ab Tryz.prog (Instr.storeAt 134 (.pointer (some a9)) (.agg #[(.int .i64 r6),(.int .i64 r7),(.int .i64 r8),(.int .i64 (0:Int)),(.int .i64 (0:Int)),(.int .i64 (0:Int)),(.int .u32 (0:Int)),(.slice none 0 0)])) h9 fun _ h10=>
 (aC.ok [] h10)∧
 K2 a9 h10)∧(aW Tryz.prog (Instr.alloc 134 true (.tuple #[])) h7 fun a10 h11=>
 (aC.ok [] h11)∧
 af Tryz.prog 184 #[(.slice (if r2.2.1.cap=(4:Int).toNat then r2.2.1.ptr else r2.2.1.ptr.map (·.add ((4:Int).toNat*1))) ((6:Int).toNat-(4:Int).toNat) (r2.2.1.cap-(4:Int).toNat))] (.one (.sc (.int .i64))) h11 fun r11 h12=>
 (aC.ok [] h12)∧
 ab Tryz.prog (Instr.storeAt 134 (.pointer (some a10)) (.agg #[(.int .i64 r6),(.int .i64 r7),(.int .i64 r11),(.int .i64 (0:Int)),(.int .i64 (0:Int)),(.int .i64 (0:Int)),(.int .u32 (0:Int)),(.slice none 0 0)])) h12 fun _ h13=>
 (aC.ok [] h13)∧
 K2 a10 h13))∧(aW Tryz.prog (Instr.alloc 134 true (.tuple #[])) h6 fun a12 h14=>
 (aC.ok [] h14)∧
 af Tryz.prog 184 #[(.slice (if r2.2.1.cap=(3:Int).toNat then r2.2.1.ptr else r2.2.1.ptr.map (·.add ((3:Int).toNat*1))) ((4:Int).toNat-(3:Int).toNat) (r2.2.1.cap-(3:Int).toNat))] (.one (.sc (.int .i64))) h14 fun r13 h15=>
 (aC.ok [] h15)∧
 af Tryz.prog 184 #[(.slice (if r2.2.1.cap=(4:Int).toNat then r2.2.1.ptr else r2.2.1.ptr.map (·.add ((4:Int).toNat*1))) ((6:Int).toNat-(4:Int).toNat) (r2.2.1.cap-(4:Int).toNat))] (.one (.sc (.int .i64))) h15 fun r14 h16=>
 (aC.ok [] h16)∧
 ab Tryz.prog (Instr.storeAt 134 (.pointer (some a12)) (.agg #[(.int .i64 r6),(.int .i64 r13),(.int .i64 r14),(.int .i64 (0:Int)),(.int .i64 (0:Int)),(.int .i64 (0:Int)),(.int .u32 (0:Int)),(.slice none 0 0)])) h16 fun _ h17=>
 (aC.ok [] h17)∧
 K2 a12 h17))∧(aW Tryz.prog (Instr.alloc 134 true (.tuple #[])) h5 fun a15 h18=>
 (aC.ok [] h18)∧
 af Tryz.prog 184 #[(.slice r2.2.1.ptr ((3:Int).toNat) r2.2.1.cap)] (.one (.sc (.int .i64))) h18 fun r16 h19=>
 (aC.ok [] h19)∧
 af Tryz.prog 184 #[(.slice (if r2.2.1.cap=(3:Int).toNat then r2.2.1.ptr else r2.2.1.ptr.map (·.add ((3:Int).toNat*1))) ((4:Int).toNat-(3:Int).toNat) (r2.2.1.cap-(3:Int).toNat))] (.one (.sc (.int .i64))) h19 fun r17 h20=>
 (aC.ok [] h20)∧
 af Tryz.prog 184 #[(.slice (if r2.2.1.cap=(4:Int).toNat then r2.2.1.ptr else r2.2.1.ptr.map (·.add ((4:Int).toNat*1))) ((6:Int).toNat-(4:Int).toNat) (r2.2.1.cap-(4:Int).toNat))] (.one (.sc (.int .i64))) h20 fun r18 h21=>
 (aC.ok [] h21)∧
 ab Tryz.prog (Instr.storeAt 134 (.pointer (some a15)) (.agg #[(.int .i64 r16),(.int .i64 r17),(.int .i64 r18),(.int .i64 (0:Int)),(.int .i64 (0:Int)),(.int .i64 (0:Int)),(.int .u32 (0:Int)),(.slice none 0 0)])) h21 fun _ h22=>
 (aC.ok [] h22)∧
 K2 a15 h22)))
 (fun K1=>
 Br (!r2.2.2) (ab Tryz.prog (Instr.storeAt 134 (.pointer (some a1)) (.agg #[(.int .i64 (0:Int)),(.int .i64 (0:Int)),(.int .i64 (0:Int)),(.int .i64 (0:Int)),(.int .i64 (0:Int)),(.int .i64 (0:Int)),(.int .u32 (0:Int)),(.slice none 0 0)])) h2 fun _ h3=>
 ∃res3:Int×Int×Int×Int×Int×Int×Int×Sl,aj h3 a1 0 [(.int .i64 res3.1),(.int .i64 res3.2.1),(.int .i64 res3.2.2.1),(.int .i64 res3.2.2.2.1),(.int .i64 res3.2.2.2.2.1),(.int .i64 res3.2.2.2.2.2.1),(.int .u32 res3.2.2.2.2.2.2.1),(.slice res3.2.2.2.2.2.2.2.ptr res3.2.2.2.2.2.2.2.len res3.2.2.2.2.2.2.2.cap)]∧
 R (.tuple #[(.agg #[(.int .i64 res3.1),(.int .i64 res3.2.1),(.int .i64 res3.2.2.1),(.int .i64 res3.2.2.2.1),(.int .i64 res3.2.2.2.2.1),(.int .i64 res3.2.2.2.2.2.1),(.int .u32 res3.2.2.2.2.2.2.1),(.slice res3.2.2.2.2.2.2.2.ptr res3.2.2.2.2.2.2.2.len res3.2.2.2.2.2.2.2.cap)]),(.bool false)]) h3) (Br (r2.1 !=(1:Int))
 (ab Tryz.prog (Instr.storeAt 134 (.pointer (some a1)) (.agg #[(.int .i64 (0:Int)),(.int .i64 (0:Int)),(.int .i64 (0:Int)),(.int .i64 (0:Int)),(.int .i64 (0:Int)),(.int .i64 (0:Int)),(.int .u32 (0:Int)),(.slice none 0 0)])) h2 fun _ h4=>
 ∃res4:Int×Int×Int×Int×Int×Int×Int×Sl,aj h4 a1 0 [(.int .i64 res4.1),(.int .i64 res4.2.1),(.int .i64 res4.2.2.1),(.int .i64 res4.2.2.2.1),(.int .i64 res4.2.2.2.2.1),(.int .i64 res4.2.2.2.2.2.1),(.int .u32 res4.2.2.2.2.2.2.1),(.slice res4.2.2.2.2.2.2.2.ptr res4.2.2.2.2.2.2.2.len res4.2.2.2.2.2.2.2.cap)]∧
 R (.tuple #[(.agg #[(.int .i64 res4.1),(.int .i64 res4.2.1),(.int .i64 res4.2.2.1),(.int .i64 res4.2.2.2.1),(.int .i64 res4.2.2.2.2.1),(.int .i64 res4.2.2.2.2.2.1),(.int .u32 res4.2.2.2.2.2.2.1),(.slice res4.2.2.2.2.2.2.2.ptr res4.2.2.2.2.2.2.2.len res4.2.2.2.2.2.2.2.cap)]),(.bool false)]) h4)
 (K1 () h2)))
theorem pZ (b_0:Sl) {R:Value→Heap→Prop} {h:Heap} (hm:mi b_0 R h):ae Tryz.prog 132 #[(.slice b_0.ptr b_0.len b_0.cap)] h R:=aw ah Tryz.func132 (.two .n (.two .n (.two (.join [] [(3,4),(14,21)] .n) (.two (.join [(7,(.sc .adr))] [(7,8),(21,31)] .n) (.two (.join [] [(31,42)] .n) .n))))) hm
abbrev q5:FuncId:=133
noncomputable def mj (m_0:Int×Int×Int×Int×Int×Int×Sl×Sl) (r_1:Int×Int×Int×Int×Int×Int×Int×Sl) (R:Value→Heap→Prop) (h:Heap):Prop:=
 aW Tryz.prog (Instr.box 47 (.agg #[(.int .i64 m_0.1),(.int .i64 m_0.2.1),(.int .i64 m_0.2.2.1),(.int .i64 m_0.2.2.2.1),(.int .i64 m_0.2.2.2.2.1),(.int .i64 m_0.2.2.2.2.2.1),(.slice m_0.2.2.2.2.2.2.1.ptr m_0.2.2.2.2.2.2.1.len m_0.2.2.2.2.2.2.1.cap),(.slice m_0.2.2.2.2.2.2.2.ptr m_0.2.2.2.2.2.2.2.len m_0.2.2.2.2.2.2.2.cap)])) h fun a1 h1=>
 aW Tryz.prog (Instr.box 134 (.agg #[(.int .i64 r_1.1),(.int .i64 r_1.2.1),(.int .i64 r_1.2.2.1),(.int .i64 r_1.2.2.2.1),(.int .i64 r_1.2.2.2.2.1),(.int .i64 r_1.2.2.2.2.2.1),(.int .u32 r_1.2.2.2.2.2.2.1),(.slice r_1.2.2.2.2.2.2.2.ptr r_1.2.2.2.2.2.2.2.len r_1.2.2.2.2.2.2.2.cap)])) h1 fun a2 h2=>
 bn (σ:=Unit) (fun _ h4=>
 ∃x9:Sl,cellOf h4 (a1.add 7)=some (.slice x9.ptr x9.len x9.cap)∧
 af Tryz.prog 116 #[(.slice x9.ptr x9.len x9.cap),(.func (.func 185) #[] #[(.pointer (some a2))])] (.one (.sc .bool)) h4 fun r10 h5=>
 R (.bool r10) h5)
 (fun K1=>
 ∃x3:Int×Int×Int×Int×Int×Int×Int×Sl,aj h2 a2 0 [(.int .i64 x3.1),(.int .i64 x3.2.1),(.int .i64 x3.2.2.1),(.int .i64 x3.2.2.2.1),(.int .i64 x3.2.2.2.2.1),(.int .i64 x3.2.2.2.2.2.1),(.int .u32 x3.2.2.2.2.2.2.1),(.slice x3.2.2.2.2.2.2.2.ptr x3.2.2.2.2.2.2.2.len x3.2.2.2.2.2.2.2.cap)]∧
 af Tryz.prog 158 #[(.agg #[(.int .i64 x3.1),(.int .i64 x3.2.1),(.int .i64 x3.2.2.1),(.int .i64 x3.2.2.2.1),(.int .i64 x3.2.2.2.2.1),(.int .i64 x3.2.2.2.2.2.1),(.int .u32 x3.2.2.2.2.2.2.1),(.slice x3.2.2.2.2.2.2.2.ptr x3.2.2.2.2.2.2.2.len x3.2.2.2.2.2.2.2.cap)])] (.one (.sc .bool)) h2 fun r4 h3=>
 Br (!r4) (R (.bool false) h3) (∃x5:Int×Int×Int,aj h3 (a2.add 3) 0 [(.int .i64 x5.1),(.int .i64 x5.2.1),(.int .i64 x5.2.2)]∧
 ∃x6:Int×Int×Int,aj h3 (a1.add 2) 0 [(.int .i64 x6.1),(.int .i64 x6.2.1),(.int .i64 x6.2.2)]∧
 ∃b7:Bool,(jL Tryz.prog .neq 24 (.tmp 10) (.tmp 12) (.agg #[(.int .i64 x5.1),(.int .i64 x5.2.1),(.int .i64 x5.2.2)]) (.agg #[(.int .i64 x6.1),(.int .i64 x6.2.1),(.int .i64 x6.2.2)]) (.bool b7))∧
 Br b7
 (R (.bool false) h3)
 (K1 () h3)))
theorem p7 (m_0:Int×Int×Int×Int×Int×Int×Sl×Sl) (r_1:Int×Int×Int×Int×Int×Int×Int×Sl) {R:Value→Heap→Prop} {h:Heap} (hm:mj m_0 r_1 R h):ae Tryz.prog 133 #[(.agg #[(.int .i64 m_0.1),(.int .i64 m_0.2.1),(.int .i64 m_0.2.2.1),(.int .i64 m_0.2.2.2.1),(.int .i64 m_0.2.2.2.2.1),(.int .i64 m_0.2.2.2.2.2.1),(.slice m_0.2.2.2.2.2.2.1.ptr m_0.2.2.2.2.2.2.1.len m_0.2.2.2.2.2.2.1.cap),(.slice m_0.2.2.2.2.2.2.2.ptr m_0.2.2.2.2.2.2.2.len m_0.2.2.2.2.2.2.2.cap)]),(.agg #[(.int .i64 r_1.1),(.int .i64 r_1.2.1),(.int .i64 r_1.2.2.1),(.int .i64 r_1.2.2.2.1),(.int .i64 r_1.2.2.2.2.1),(.int .i64 r_1.2.2.2.2.2.1),(.int .u32 r_1.2.2.2.2.2.2.1),(.slice r_1.2.2.2.2.2.2.2.ptr r_1.2.2.2.2.2.2.2.len r_1.2.2.2.2.2.2.2.cap)])] h R:=aw ah Tryz.func133 (.two .n (.two (.join [] [(4,15)] .n) .n)) hm
abbrev dS:FuncId:=134
noncomputable def cC (x_0:Sl) (cmp_1:FuncId×Array Value×Array Value) (R:Value→Heap→Prop) (h:Heap):Prop:=
 af Tryz.prog 186 #[(.slice x_0.ptr x_0.len x_0.cap),(.int .i64 ((x_0.len:Nat):Int)),(.func (.func cmp_1.1) cmp_1.2.1 cmp_1.2.2)] (.many []) h fun _ h1=>
 R (.tuple #[]) h1
theorem dQ (x_0:Sl) (cmp_1:FuncId×Array Value×Array Value) {R:Value→Heap→Prop} {h:Heap} (hm:cC x_0 cmp_1 R h):ae Tryz.prog 134 #[(.slice x_0.ptr x_0.len x_0.cap),(.func (.func cmp_1.1) cmp_1.2.1 cmp_1.2.2)] h R:=aw ah Tryz.func134 .n hm
abbrev bs:FuncId:=135
noncomputable def np (a_0:Int×Int×Int×Int×Int×Int×Int×Sl) (b_1:Int×Int×Int×Int×Int×Int×Int×Sl) (R:Value→Heap→Prop) (h:Heap):Prop:=
 aW Tryz.prog (Instr.box 134 (.agg #[(.int .i64 a_0.1),(.int .i64 a_0.2.1),(.int .i64 a_0.2.2.1),(.int .i64 a_0.2.2.2.1),(.int .i64 a_0.2.2.2.2.1),(.int .i64 a_0.2.2.2.2.2.1),(.int .u32 a_0.2.2.2.2.2.2.1),(.slice a_0.2.2.2.2.2.2.2.ptr a_0.2.2.2.2.2.2.2.len a_0.2.2.2.2.2.2.2.cap)])) h fun a1 h1=>
 aW Tryz.prog (Instr.box 134 (.agg #[(.int .i64 b_1.1),(.int .i64 b_1.2.1),(.int .i64 b_1.2.2.1),(.int .i64 b_1.2.2.2.1),(.int .i64 b_1.2.2.2.2.1),(.int .i64 b_1.2.2.2.2.2.1),(.int .u32 b_1.2.2.2.2.2.2.1),(.slice b_1.2.2.2.2.2.2.2.ptr b_1.2.2.2.2.2.2.2.len b_1.2.2.2.2.2.2.2.cap)])) h1 fun a2 h2=>
 ∃x3:Int,cellOf h2 a1=some (.int .i64 x3)∧
 ∃x4:Int,cellOf h2 a2=some (.int .i64 x4)∧
 ∃x5:Int,cellOf h2 (a1.add 1)=some (.int .i64 x5)∧
 ∃x6:Int,cellOf h2 (a2.add 1)=some (.int .i64 x6)∧
 ∃x7:Int,cellOf h2 (a1.add 2)=some (.int .i64 x7)∧
 ∃x8:Int,cellOf h2 (a2.add 2)=some (.int .i64 x8)∧
 af Tryz.prog 157 #[(.int .i64 x3),(.int .i64 x4)] (.one (.sc (.int .i64))) h2 fun r9 h3=>
 (aC.ok [(a2.add 2,(.int .i64 x8)),(a1.add 2,(.int .i64 x7)),(a2.add 1,(.int .i64 x6)),(a1.add 1,(.int .i64 x5))] h3)∧
 af Tryz.prog 157 #[(.int .i64 x5),(.int .i64 x6)] (.one (.sc (.int .i64))) h3 fun r10 h4=>
 (aC.ok [(a2.add 2,(.int .i64 x8)),(a1.add 2,(.int .i64 x7))] h4)∧
 af Tryz.prog 157 #[(.int .i64 x7),(.int .i64 x8)] (.one (.sc (.int .i64))) h4 fun r11 h5=>
 (aC.ok [] h5)∧
 av Tryz.prog (Instr.buildSlice 22 3 #[(0,(.int .i64 r9)),(1,(.int .i64 r10)),(2,(.int .i64 r11))]) (.one (.sc .slc)) h5 fun v12 h6=>
 (aC.ok [] h6)∧
 af Tryz.prog 155 #[(.slice v12.ptr v12.len v12.cap)] (.one (.sc (.int .i64))) h6 fun r13 h7=>
 (aC.ok [] h7)∧
 R (.int .i64 r13) h7
theorem q6 (a_0:Int×Int×Int×Int×Int×Int×Int×Sl) (b_1:Int×Int×Int×Int×Int×Int×Int×Sl) {R:Value→Heap→Prop} {h:Heap} (hm:np a_0 b_1 R h):ae Tryz.prog 135 #[(.agg #[(.int .i64 a_0.1),(.int .i64 a_0.2.1),(.int .i64 a_0.2.2.1),(.int .i64 a_0.2.2.2.1),(.int .i64 a_0.2.2.2.2.1),(.int .i64 a_0.2.2.2.2.2.1),(.int .u32 a_0.2.2.2.2.2.2.1),(.slice a_0.2.2.2.2.2.2.2.ptr a_0.2.2.2.2.2.2.2.len a_0.2.2.2.2.2.2.2.cap)]),(.agg #[(.int .i64 b_1.1),(.int .i64 b_1.2.1),(.int .i64 b_1.2.2.1),(.int .i64 b_1.2.2.2.1),(.int .i64 b_1.2.2.2.2.1),(.int .i64 b_1.2.2.2.2.2.1),(.int .u32 b_1.2.2.2.2.2.2.1),(.slice b_1.2.2.2.2.2.2.2.ptr b_1.2.2.2.2.2.2.2.len b_1.2.2.2.2.2.2.2.cap)])] h R:=aw ah Tryz.func135 .n hm
abbrev eF:FuncId:=136
noncomputable def cN (s_0:Sl) (eq_1:FuncId×Array Value×Array Value) (R:Value→Heap→Prop) (h:Heap):Prop:=
 Br (decide (((s_0.len:Nat):Int)<(2:Int)))
 (R (.slice s_0.ptr s_0.len s_0.cap) h)
 (aR (σ:=Int) (fun s1 K1 h1=>
 Br (decide (s1<((s_0.len:Nat):Int)))
 (∃a2:Addr,(s_0.ptr=some a2∧0≤s1∧s1<((s_0.len:Nat):Int))∧
 ∃x3:Int×Int×Int×Int×Int×Int×Int×Sl,aj h1 (a2.add (s1.toNat*8)) 0 [(.int .i64 x3.1),(.int .i64 x3.2.1),(.int .i64 x3.2.2.1),(.int .i64 x3.2.2.2.1),(.int .i64 x3.2.2.2.2.1),(.int .i64 x3.2.2.2.2.2.1),(.int .u32 x3.2.2.2.2.2.2.1),(.slice x3.2.2.2.2.2.2.2.ptr x3.2.2.2.2.2.2.2.len x3.2.2.2.2.2.2.2.cap)]∧
 ∃a4:Addr,(s_0.ptr=some a4∧0≤(IntKind.wrap .i64 (s1-(1:Int)))∧(IntKind.wrap .i64 (s1-(1:Int)))<((s_0.len:Nat):Int))∧
 ∃x5:Int×Int×Int×Int×Int×Int×Int×Sl,aj h1 (a4.add ((IntKind.wrap .i64 (s1-(1:Int))).toNat*8)) 0 [(.int .i64 x5.1),(.int .i64 x5.2.1),(.int .i64 x5.2.2.1),(.int .i64 x5.2.2.2.1),(.int .i64 x5.2.2.2.2.1),(.int .i64 x5.2.2.2.2.2.1),(.int .u32 x5.2.2.2.2.2.2.1),(.slice x5.2.2.2.2.2.2.2.ptr x5.2.2.2.2.2.2.2.len x5.2.2.2.2.2.2.2.cap)]∧
 ga C eq_1.1 (eq_1.2.1.toList++[(.agg #[(.int .i64 x3.1),(.int .i64 x3.2.1),(.int .i64 x3.2.2.1),(.int .i64 x3.2.2.2.1),(.int .i64 x3.2.2.2.2.1),(.int .i64 x3.2.2.2.2.2.1),(.int .u32 x3.2.2.2.2.2.2.1),(.slice x3.2.2.2.2.2.2.2.ptr x3.2.2.2.2.2.2.2.len x3.2.2.2.2.2.2.2.cap)]),(.agg #[(.int .i64 x5.1),(.int .i64 x5.2.1),(.int .i64 x5.2.2.1),(.int .i64 x5.2.2.2.1),(.int .i64 x5.2.2.2.2.1),(.int .i64 x5.2.2.2.2.2.1),(.int .u32 x5.2.2.2.2.2.2.1),(.slice x5.2.2.2.2.2.2.2.ptr x5.2.2.2.2.2.2.2.len x5.2.2.2.2.2.2.2.cap)])]++eq_1.2.2.toList) (.one (.sc .bool)) h1 fun r6 h2=>
 (aC.ok [] h2)∧
 Br r6
 ((0≤s1∧s1≤((s_0.len:Nat):Int))∧
 aR (σ:=Int×Int) (fun s7 K2 h3=>
 Br (decide (s7.2<(((s_0.len-s1.toNat):Nat):Int)))
 (∃a8:Addr,((if s_0.cap=s1.toNat then s_0.ptr else s_0.ptr.map (·.add (s1.toNat*8)))=some a8∧0≤s7.2∧s7.2<(((s_0.len-s1.toNat):Nat):Int))∧
 ∃x9:Int×Int×Int×Int×Int×Int×Int×Sl,aj h3 (a8.add (s7.2.toNat*8)) 0 [(.int .i64 x9.1),(.int .i64 x9.2.1),(.int .i64 x9.2.2.1),(.int .i64 x9.2.2.2.1),(.int .i64 x9.2.2.2.2.1),(.int .i64 x9.2.2.2.2.2.1),(.int .u32 x9.2.2.2.2.2.2.1),(.slice x9.2.2.2.2.2.2.2.ptr x9.2.2.2.2.2.2.2.len x9.2.2.2.2.2.2.2.cap)]∧
 ∃a10:Addr,((if s_0.cap=s1.toNat then s_0.ptr else s_0.ptr.map (·.add (s1.toNat*8)))=some a10∧0≤(IntKind.wrap .i64 (s7.2-(1:Int)))∧(IntKind.wrap .i64 (s7.2-(1:Int)))<(((s_0.len-s1.toNat):Nat):Int))∧
 ∃x11:Int×Int×Int×Int×Int×Int×Int×Sl,aj h3 (a10.add ((IntKind.wrap .i64 (s7.2-(1:Int))).toNat*8)) 0 [(.int .i64 x11.1),(.int .i64 x11.2.1),(.int .i64 x11.2.2.1),(.int .i64 x11.2.2.2.1),(.int .i64 x11.2.2.2.2.1),(.int .i64 x11.2.2.2.2.2.1),(.int .u32 x11.2.2.2.2.2.2.1),(.slice x11.2.2.2.2.2.2.2.ptr x11.2.2.2.2.2.2.2.len x11.2.2.2.2.2.2.2.cap)]∧
 ga C eq_1.1 (eq_1.2.1.toList++[(.agg #[(.int .i64 x9.1),(.int .i64 x9.2.1),(.int .i64 x9.2.2.1),(.int .i64 x9.2.2.2.1),(.int .i64 x9.2.2.2.2.1),(.int .i64 x9.2.2.2.2.2.1),(.int .u32 x9.2.2.2.2.2.2.1),(.slice x9.2.2.2.2.2.2.2.ptr x9.2.2.2.2.2.2.2.len x9.2.2.2.2.2.2.2.cap)]),(.agg #[(.int .i64 x11.1),(.int .i64 x11.2.1),(.int .i64 x11.2.2.1),(.int .i64 x11.2.2.2.1),(.int .i64 x11.2.2.2.2.1),(.int .i64 x11.2.2.2.2.2.1),(.int .u32 x11.2.2.2.2.2.2.1),(.slice x11.2.2.2.2.2.2.2.ptr x11.2.2.2.2.2.2.2.len x11.2.2.2.2.2.2.2.cap)])]++eq_1.2.2.toList) (.one (.sc .bool)) h3 fun r12 h4=>
 (aC.ok [] h4)∧
 Br (!r12)
 (∃a13:Addr,((if s_0.cap=s1.toNat then s_0.ptr else s_0.ptr.map (·.add (s1.toNat*8)))=some a13∧0≤s7.2∧s7.2<(((s_0.len-s1.toNat):Nat):Int))∧
 ∃x14:Int×Int×Int×Int×Int×Int×Int×Sl,aj h4 (a13.add (s7.2.toNat*8)) 0 [(.int .i64 x14.1),(.int .i64 x14.2.1),(.int .i64 x14.2.2.1),(.int .i64 x14.2.2.2.1),(.int .i64 x14.2.2.2.2.1),(.int .i64 x14.2.2.2.2.2.1),(.int .u32 x14.2.2.2.2.2.2.1),(.slice x14.2.2.2.2.2.2.2.ptr x14.2.2.2.2.2.2.2.len x14.2.2.2.2.2.2.2.cap)]∧
 ∃a15:Addr,(s_0.ptr=some a15∧0≤s7.1∧s7.1<((s_0.len:Nat):Int))∧
 ab Tryz.prog (Instr.storeAt 134 (.pointer (some (a15.add (s7.1.toNat*8)))) (.agg #[(.int .i64 x14.1),(.int .i64 x14.2.1),(.int .i64 x14.2.2.1),(.int .i64 x14.2.2.2.1),(.int .i64 x14.2.2.2.2.1),(.int .i64 x14.2.2.2.2.2.1),(.int .u32 x14.2.2.2.2.2.2.1),(.slice x14.2.2.2.2.2.2.2.ptr x14.2.2.2.2.2.2.2.len x14.2.2.2.2.2.2.2.cap)])) h4 fun _ h5=>
 K2 (IntKind.wrap .i64 (s7.1+(1:Int)),IntKind.wrap .i64 (s7.2+(1:Int))) h5)
 (K2 (s7.1,IntKind.wrap .i64 (s7.2+(1:Int))) h4))
 ((0≤s7.1∧s7.1≤((s_0.len:Nat):Int))∧
 ab Tryz.prog (Builtin.clear_ #[131] 0 #[(.slice (if s_0.cap=s7.1.toNat then s_0.ptr else s_0.ptr.map (·.add (s7.1.toNat*8))) (s_0.len-s7.1.toNat) (s_0.cap-s7.1.toNat))]) h3 fun _ h6=>
 (0≤s7.1∧s7.1≤((s_0.cap:Nat):Int))∧
 R (.slice s_0.ptr s7.1.toNat s_0.cap) h6)) (s1,(1:Int)) h2)
 (K1 (IntKind.wrap .i64 (s1+(1:Int))) h2))
 (R (.slice s_0.ptr s_0.len s_0.cap) h1)) (1:Int) h)
theorem eu (s_0:Sl) (eq_1:FuncId×Array Value×Array Value) {R:Value→Heap→Prop} {h:Heap} (hm:cN s_0 eq_1 R h):ae Tryz.prog 136 #[(.slice s_0.ptr s_0.len s_0.cap),(.func (.func eq_1.1) eq_1.2.1 eq_1.2.2)] h R:=aw ah Tryz.func136 (.two .n (.two .n (.two (.two .n (.inn (.loop [(5,(.sc (.int .i64)))] [(4,8),(12,65)] (.two .n (.two (.inn (.two .n (.two (.two .n (.two (.two .n (.inn (.loop [(5,(.sc (.int .i64))),(7,(.sc (.int .i64)))] [(5,6),(7,8),(32,59)] .n))) .n)) .n))) .n))))) .n))) hm
abbrev gb:FuncId:=137
noncomputable def j7 (a_0:Int×Int×Int×Int×Int×Int×Int×Sl) (b_1:Int×Int×Int×Int×Int×Int×Int×Sl) (R:Value→Heap→Prop) (h:Heap):Prop:=
 aW Tryz.prog (Instr.box 134 (.agg #[(.int .i64 a_0.1),(.int .i64 a_0.2.1),(.int .i64 a_0.2.2.1),(.int .i64 a_0.2.2.2.1),(.int .i64 a_0.2.2.2.2.1),(.int .i64 a_0.2.2.2.2.2.1),(.int .u32 a_0.2.2.2.2.2.2.1),(.slice a_0.2.2.2.2.2.2.2.ptr a_0.2.2.2.2.2.2.2.len a_0.2.2.2.2.2.2.2.cap)])) h fun a1 h1=>
 aW Tryz.prog (Instr.box 134 (.agg #[(.int .i64 b_1.1),(.int .i64 b_1.2.1),(.int .i64 b_1.2.2.1),(.int .i64 b_1.2.2.2.1),(.int .i64 b_1.2.2.2.2.1),(.int .i64 b_1.2.2.2.2.2.1),(.int .u32 b_1.2.2.2.2.2.2.1),(.slice b_1.2.2.2.2.2.2.2.ptr b_1.2.2.2.2.2.2.2.len b_1.2.2.2.2.2.2.2.cap)])) h1 fun a2 h2=>
 ∃x3:Int×Int×Int×Int×Int×Int×Int×Sl,aj h2 a1 0 [(.int .i64 x3.1),(.int .i64 x3.2.1),(.int .i64 x3.2.2.1),(.int .i64 x3.2.2.2.1),(.int .i64 x3.2.2.2.2.1),(.int .i64 x3.2.2.2.2.2.1),(.int .u32 x3.2.2.2.2.2.2.1),(.slice x3.2.2.2.2.2.2.2.ptr x3.2.2.2.2.2.2.2.len x3.2.2.2.2.2.2.2.cap)]∧
 ∃x4:Int×Int×Int×Int×Int×Int×Int×Sl,aj h2 a2 0 [(.int .i64 x4.1),(.int .i64 x4.2.1),(.int .i64 x4.2.2.1),(.int .i64 x4.2.2.2.1),(.int .i64 x4.2.2.2.2.1),(.int .i64 x4.2.2.2.2.2.1),(.int .u32 x4.2.2.2.2.2.2.1),(.slice x4.2.2.2.2.2.2.2.ptr x4.2.2.2.2.2.2.2.len x4.2.2.2.2.2.2.2.cap)]∧
 af Tryz.prog 135 #[(.agg #[(.int .i64 x3.1),(.int .i64 x3.2.1),(.int .i64 x3.2.2.1),(.int .i64 x3.2.2.2.1),(.int .i64 x3.2.2.2.2.1),(.int .i64 x3.2.2.2.2.2.1),(.int .u32 x3.2.2.2.2.2.2.1),(.slice x3.2.2.2.2.2.2.2.ptr x3.2.2.2.2.2.2.2.len x3.2.2.2.2.2.2.2.cap)]),(.agg #[(.int .i64 x4.1),(.int .i64 x4.2.1),(.int .i64 x4.2.2.1),(.int .i64 x4.2.2.2.1),(.int .i64 x4.2.2.2.2.1),(.int .i64 x4.2.2.2.2.2.1),(.int .u32 x4.2.2.2.2.2.2.1),(.slice x4.2.2.2.2.2.2.2.ptr x4.2.2.2.2.2.2.2.len x4.2.2.2.2.2.2.2.cap)])] (.one (.sc (.int .i64))) h2 fun r5 h3=>
 R (.bool (r5==(0:Int))) h3
theorem nr (a_0:Int×Int×Int×Int×Int×Int×Int×Sl) (b_1:Int×Int×Int×Int×Int×Int×Int×Sl) {R:Value→Heap→Prop} {h:Heap} (hm:j7 a_0 b_1 R h):ae Tryz.prog 137 #[(.agg #[(.int .i64 a_0.1),(.int .i64 a_0.2.1),(.int .i64 a_0.2.2.1),(.int .i64 a_0.2.2.2.1),(.int .i64 a_0.2.2.2.2.1),(.int .i64 a_0.2.2.2.2.2.1),(.int .u32 a_0.2.2.2.2.2.2.1),(.slice a_0.2.2.2.2.2.2.2.ptr a_0.2.2.2.2.2.2.2.len a_0.2.2.2.2.2.2.2.cap)]),(.agg #[(.int .i64 b_1.1),(.int .i64 b_1.2.1),(.int .i64 b_1.2.2.1),(.int .i64 b_1.2.2.2.1),(.int .i64 b_1.2.2.2.2.1),(.int .i64 b_1.2.2.2.2.2.1),(.int .u32 b_1.2.2.2.2.2.2.1),(.slice b_1.2.2.2.2.2.2.2.ptr b_1.2.2.2.2.2.2.2.len b_1.2.2.2.2.2.2.2.cap)])] h R:=aw ah Tryz.func137 .n hm
abbrev sw:FuncId:=138
noncomputable def nt (n_0:Int) (t_1:Int) (R:Value→Heap→Prop) (h:Heap):Prop:=
 Br (decide (n_0≥(0:Int))) (Br (decide (n_0≤(64:Int))) (Br (decide (t_1≥(0:Int))) (R (.bool (decide (t_1≤n_0))) h) (R (.bool false) h)) (R (.bool false) h)) (R (.bool false) h)
theorem q7 (n_0:Int) (t_1:Int) {R:Value→Heap→Prop} {h:Heap} (hm:nt n_0 t_1 R h):ae Tryz.prog 138 #[(.int .i64 n_0),(.int .i64 t_1)] h R:=aw ah Tryz.func138 .n hm
abbrev q8:FuncId:=141
noncomputable def ml (to_0:Sl) (n_1:Int) (size_2:Int) (R:Value→Heap→Prop) (h:Heap):Prop:=
 aR (σ:=Sl×Int) (fun s1 K1 h1=>
 Br (decide (s1.2≥(0:Int)))
 ((0≤(IntKind.wrap .i64 ((8:Int)*s1.2)))∧
 av Tryz.prog (Instr.buildSlice 38 1 #[(0,(.int .u8 (IntKind.wrap .u8 (Int.fdiv n_1 (2^min (IntKind.wrap .i64 ((8:Int)*s1.2)).toNat (IntKind.bits .i64))))))]) (.one (.sc .slc)) h1 fun v2 h2=>
 av Tryz.prog (Builtin.append_ #[38,38] 38 #[(.slice s1.1.ptr s1.1.len s1.1.cap),(.slice v2.ptr v2.len v2.cap)]) (.one (.sc .slc)) h2 fun v3 h3=>
 K1 ((⟨v3.ptr,v3.len,v3.cap⟩:Sl),IntKind.wrap .i64 (s1.2-(1:Int))) h3)
 (R (.slice s1.1.ptr s1.1.len s1.1.cap) h1)) ((⟨to_0.ptr,to_0.len,to_0.cap⟩:Sl),IntKind.wrap .i64 (size_2-(1:Int))) h
theorem p8 (to_0:Sl) (n_1:Int) (size_2:Int) {R:Value→Heap→Prop} {h:Heap} (hm:ml to_0 n_1 size_2 R h):ae Tryz.prog 141 #[(.slice to_0.ptr to_0.len to_0.cap),(.int .i64 n_1),(.int .i64 size_2)] h R:=aw ah Tryz.func141 (.two .n (.two (.two .n (.inn (.loop [(0,(.sc .slc)),(7,(.sc (.int .i64)))] [(0,1),(7,8),(10,22)] .n))) .n)) hm
abbrev u5:FuncId:=142
noncomputable def p9 (kind_0:Int) (body_1:Sl) (R:Value→Heap→Prop) (h:Heap):Prop:=
 bn (σ:=Unit) (fun _ h1=>
 av Tryz.prog (Instr.makeSlice 38 (.int .i64 (64:Int)) (.int .i64 (64:Int))) (.one (.sc .slc)) h1 fun v2 h2=>
 av Tryz.prog (Instr.buildSlice 38 4 #[(0,(.int .u8 (87:Int))),(1,(.int .u8 (115:Int))),(2,(.int .u8 (1:Int))),(3,(.int .u8 (IntKind.wrap .u8 kind_0)))]) (.one (.sc .slc)) h2 fun v3 h3=>
 av Tryz.prog (Builtin.copy_ #[38,38] 3 #[(.slice v2.ptr v2.len v2.cap),(.slice v3.ptr v3.len v3.cap)]) (.one (.sc (.int .i64))) h3 fun _ h4=>
 (0≤(4:Int)∧(4:Int)≤((v2.len:Nat):Int))∧
 av Tryz.prog (Builtin.copy_ #[38,38] 3 #[(.slice (if v2.cap=(4:Int).toNat then v2.ptr else v2.ptr.map (·.add ((4:Int).toNat*1))) (v2.len-(4:Int).toNat) (v2.cap-(4:Int).toNat)),(.slice body_1.ptr body_1.len body_1.cap)]) (.one (.sc (.int .i64))) h4 fun _ h5=>
 (0≤(59:Int)∧(59:Int)≤((v2.cap:Nat):Int))∧
 af Tryz.prog 190 #[(.slice v2.ptr ((59:Int).toNat) v2.cap)] (.one (.sc (.int .u32))) h5 fun r6 h6=>
 aR (σ:=Int) (fun s7 K2 h7=>
 Br (decide (s7<(4:Int)))
 ((0≤(IntKind.wrap .i64 ((8:Int)*s7)))∧
 ∃a8:Addr,(v2.ptr=some a8∧0≤(IntKind.wrap .i64 ((59:Int)+s7))∧(IntKind.wrap .i64 ((59:Int)+s7))<((v2.len:Nat):Int))∧
 ab Tryz.prog (Instr.storeAt 5 (.pointer (some (a8.add ((IntKind.wrap .i64 ((59:Int)+s7)).toNat*1)))) (.int .u8 (IntKind.wrap .u8 (Int.fdiv r6 (2^min (IntKind.wrap .i64 ((8:Int)*s7)).toNat (IntKind.bits .u32)))))) h7 fun _ h8=>
 K2 (IntKind.wrap .i64 (s7+(1:Int))) h8)
 (∃a9:Addr,(v2.ptr=some a9∧0≤(63:Int)∧(63:Int)<((v2.len:Nat):Int))∧
 ab Tryz.prog (Instr.storeAt 5 (.pointer (some (a9.add ((63:Int).toNat*1)))) (.int .u8 (165:Int))) h7 fun _ h9=>
 R (.slice v2.ptr v2.len v2.cap) h9)) (0:Int) h6)
 (fun K1=>
 Br (decide (kind_0<(1:Int))) (R (.slice none 0 0) h) (Br (decide (kind_0>(255:Int))) (R (.slice none 0 0) h) (Br (decide (((body_1.len:Nat):Int)>(55:Int)))
 (R (.slice none 0 0) h)
 (K1 () h))))
theorem uj (kind_0:Int) (body_1:Sl) {R:Value→Heap→Prop} {h:Heap} (hm:p9 kind_0 body_1 R h):ae Tryz.prog 142 #[(.int .i64 kind_0),(.slice body_1.ptr body_1.len body_1.cap)] h R:=aw ah Tryz.func142 (.two .n (.two (.join [] [(4,5),(8,19)] .n) (.two .n (.two .n (.two .n (.two .n (.two (.two .n (.inn (.loop [(32,(.sc (.int .i64)))] [(7,8),(32,45)] .n))) .n))))))) hm
abbrev kS:FuncId:=143
abbrev jA:FuncId:=144
abbrev ie:FuncId:=145
noncomputable def fJ (d_0:Option Addr) (R:Value→Heap→Prop) (h:Heap):Prop:=
 bn (σ:=Unit) (fun _ h1=>
 ∃a4:Addr,(d_0=some a4)∧
 ∃x5:Option Addr,cellOf h1 a4=some (.pointer x5)∧
 af Tryz.prog 34 #[(.pointer x5)] (.one (.sc .bool)) h1 fun r6 h2=>
 Br (!r6)
 (R (.int .i64 (14:Int)) h2)
 (∃a7:Addr,(d_0=some a7)∧
 ab Tryz.prog (Instr.storeAt 3 (.pointer (some (a7.add 3))) (.int .i64 (0:Int))) h2 fun _ h3=>
 af Tryz.prog 111 #[(.pointer d_0)] (.one (.sc (.int .i64))) h3 fun r8 h4=>
 R (.int .i64 r8) h4))
 (fun K1=>
 Br (Option.isNone d_0) (R (.int .i64 (5:Int)) h) (∃a1:Addr,(d_0=some a1)∧
 ∃x2:Bool,cellOf h (a1.add 6)=some (.bool x2)∧
 Br x2
 (R (.int .i64 (5:Int)) h)
 (K1 () h)))
theorem gV (d_0:Option Addr) {R:Value→Heap→Prop} {h:Heap} (hm:fJ d_0 R h):ae Tryz.prog 145 #[(.pointer d_0)] h R:=aw ah Tryz.func145 (.two .n (.two (.join [] [(2,11)] .n) .n)) hm
noncomputable def nu (vals_0:Sl) (R:Value→Heap→Prop) (h:Heap):Prop:=
 aR (σ:=Int) (fun s1 K1 h1=>
 Br (decide (s1<((vals_0.len:Nat):Int)))
 (∃a2:Addr,(vals_0.ptr=some a2∧0≤s1∧s1<((vals_0.len:Nat):Int))∧
 ∃x3:Int,cellOf h1 (a2.add (s1.toNat*1))=some (.int .i64 x3)∧
 Br (x3 !=(0:Int))
 (R (.int .i64 x3) h1)
 (K1 (IntKind.wrap .i64 (s1+(1:Int))) h1))
 (R (.int .i64 (0:Int)) h1)) (0:Int) h
theorem q9 (vals_0:Sl) {R:Value→Heap→Prop} {h:Heap} (hm:nu vals_0 R h):ae Tryz.prog 155 #[(.slice vals_0.ptr vals_0.len vals_0.cap)] h R:=aw ah Tryz.func155 (.two .n (.two .n (.two (.two .n (.inn (.loop [(8,(.sc (.int .i64)))] [(2,3),(5,6),(8,17)] .n))) .n))) hm
abbrev nv:FuncId:=157
noncomputable def jr (x_0:Int) (y_1:Int) (R:Value→Heap→Prop) (h:Heap):Prop:=
 af Tryz.prog 206 #[(.int .i64 x_0)] (.one (.sc .bool)) h fun r1 h1=>
 af Tryz.prog 206 #[(.int .i64 y_1)] (.one (.sc .bool)) h1 fun r2 h2=>
 Br r1
 (Br r2
 (R (.int .i64 (0:Int)) h2)
 (R (.int .i64 (-1:Int)) h2))
 (Br r2
 (R (.int .i64 (1:Int)) h2)
 (Br (decide (x_0<y_1))
 (R (.int .i64 (-1:Int)) h2)
 (Br (decide (x_0>y_1))
 (R (.int .i64 (1:Int)) h2)
 (R (.int .i64 (0:Int)) h2))))
theorem mz (x_0:Int) (y_1:Int) {R:Value→Heap→Prop} {h:Heap} (hm:jr x_0 y_1 R h):ae Tryz.prog 157 #[(.int .i64 x_0),(.int .i64 y_1)] h R:=aw ah Tryz.func157 .n hm
abbrev sz:FuncId:=158
noncomputable def nw (r_0:Int×Int×Int×Int×Int×Int×Int×Sl) (R:Value→Heap→Prop) (h:Heap):Prop:=
 aW Tryz.prog (Instr.box 134 (.agg #[(.int .i64 r_0.1),(.int .i64 r_0.2.1),(.int .i64 r_0.2.2.1),(.int .i64 r_0.2.2.2.1),(.int .i64 r_0.2.2.2.2.1),(.int .i64 r_0.2.2.2.2.2.1),(.int .u32 r_0.2.2.2.2.2.2.1),(.slice r_0.2.2.2.2.2.2.2.ptr r_0.2.2.2.2.2.2.2.len r_0.2.2.2.2.2.2.2.cap)])) h fun a1 h1=>
 bn (σ:=Bool) (fun s8 h2=>
 Br s8 (∃x9:Int×Int×Int,aj h2 (a1.add 3) 0 [(.int .i64 x9.1),(.int .i64 x9.2.1),(.int .i64 x9.2.2)]∧
 af Tryz.prog 39 #[(.agg #[(.int .i64 x9.1),(.int .i64 x9.2.1),(.int .i64 x9.2.2)])] (.one (.sc .bool)) h2 fun r10 h3=>
 Br r10 (∃x11:Sl,cellOf h3 (a1.add 7)=some (.slice x11.ptr x11.len x11.cap)∧
 ∃x12:Int,cellOf h3 ((a1.add 3).add 2)=some (.int .i64 x12)∧
 R (.bool (((x11.len:Nat):Int)==x12)) h3) (R (.bool false) h3)) (R (.bool false) h2))
 (fun K1=>
 ∃x2:Int,cellOf h1 a1=some (.int .i64 x2)∧
 Br (decide (x2≥(0:Int))) (∃x3:Int,cellOf h1 a1=some (.int .i64 x3)∧
 Br (decide (x3≤(16777215:Int))) (∃x4:Int,cellOf h1 (a1.add 1)=some (.int .i64 x4)∧
 Br (decide (x4≥(0:Int))) (∃x5:Int,cellOf h1 (a1.add 1)=some (.int .i64 x5)∧
 Br (decide (x5<(8:Int))) (∃x6:Int,cellOf h1 (a1.add 2)=some (.int .i64 x6)∧
 Br (decide (x6≥(0:Int))) (∃x7:Int,cellOf h1 (a1.add 2)=some (.int .i64 x7)∧
 K1 (decide (x7≤(65535:Int))) h1) (K1 false h1)) (K1 false h1)) (K1 false h1)) (K1 false h1)) (K1 false h1))
theorem ra (r_0:Int×Int×Int×Int×Int×Int×Int×Sl) {R:Value→Heap→Prop} {h:Heap} (hm:nw r_0 R h):ae Tryz.prog 158 #[(.agg #[(.int .i64 r_0.1),(.int .i64 r_0.2.1),(.int .i64 r_0.2.2.1),(.int .i64 r_0.2.2.2.1),(.int .i64 r_0.2.2.2.2.1),(.int .i64 r_0.2.2.2.2.2.1),(.int .u32 r_0.2.2.2.2.2.2.1),(.slice r_0.2.2.2.2.2.2.2.ptr r_0.2.2.2.2.2.2.2.len r_0.2.2.2.2.2.2.2.cap)])] h R:=aw ah Tryz.func158 (.two .n (.two (.join [(3,(.sc .bool))] [(3,32)] .n) .n)) hm
abbrev oZ:FuncId:=159
noncomputable def kA (to_0:Sl) (n_1:Int) (size_2:Int) (R:Value→Heap→Prop) (h:Heap):Prop:=
 aR (σ:=Sl×Int) (fun s1 K1 h1=>
 Br (decide (s1.2≥(0:Int)))
 ((0≤(IntKind.wrap .i64 ((8:Int)*s1.2)))∧
 av Tryz.prog (Instr.buildSlice 38 1 #[(0,(.int .u8 (IntKind.wrap .u8 (Int.fdiv n_1 (2^min (IntKind.wrap .i64 ((8:Int)*s1.2)).toNat (IntKind.bits .i64))))))]) (.one (.sc .slc)) h1 fun v2 h2=>
 av Tryz.prog (Builtin.append_ #[38,38] 38 #[(.slice s1.1.ptr s1.1.len s1.1.cap),(.slice v2.ptr v2.len v2.cap)]) (.one (.sc .slc)) h2 fun v3 h3=>
 K1 ((⟨v3.ptr,v3.len,v3.cap⟩:Sl),IntKind.wrap .i64 (s1.2-(1:Int))) h3)
 (R (.slice s1.1.ptr s1.1.len s1.1.cap) h1)) ((⟨to_0.ptr,to_0.len,to_0.cap⟩:Sl),IntKind.wrap .i64 (size_2-(1:Int))) h
theorem nY (to_0:Sl) (n_1:Int) (size_2:Int) {R:Value→Heap→Prop} {h:Heap} (hm:kA to_0 n_1 size_2 R h):ae Tryz.prog 159 #[(.slice to_0.ptr to_0.len to_0.cap),(.int .i64 n_1),(.int .i64 size_2)] h R:=aw ah Tryz.func159 (.two .n (.two (.two .n (.inn (.loop [(0,(.sc .slc)),(7,(.sc (.int .i64)))] [(0,1),(7,8),(10,22)] .n))) .n)) hm
noncomputable def fk (s_0:Sl) (f_1:FuncId×Array Value×Array Value) (R:Value→Heap→Prop) (h:Heap):Prop:=
 aR (σ:=Int) (fun s1 K1 h1=>
 Br (decide (s1<((s_0.len:Nat):Int)))
 (∃a2:Addr,(s_0.ptr=some a2∧0≤s1∧s1<((s_0.len:Nat):Int))∧
 ∃x3:Int,cellOf h1 (a2.add (s1.toNat*1))=some (.int .i64 x3)∧
 ga C f_1.1 (f_1.2.1.toList++[(.int .i64 x3)]++f_1.2.2.toList) (.one (.sc .bool)) h1 fun r4 h2=>
 Br r4
 (R (.int .i64 s1) h2)
 (K1 (IntKind.wrap .i64 (s1+(1:Int))) h2))
 (R (.int .i64 (-1:Int)) h1)) (0:Int) h
theorem iy (s_0:Sl) (f_1:FuncId×Array Value×Array Value) {R:Value→Heap→Prop} {h:Heap} (hm:fk s_0 f_1 R h):ae Tryz.prog 163 #[(.slice s_0.ptr s_0.len s_0.cap),(.func (.func f_1.1) f_1.2.1 f_1.2.2)] h R:=aw ah Tryz.func163 (.two .n (.two (.two .n (.inn (.loop [(8,(.sc (.int .i64)))] [(4,6),(8,19)] .n))) .n)) hm
abbrev gW:FuncId:=167
noncomputable def lp (n_0:Int) (R:Value→Heap→Prop) (h:Heap):Prop:=
 af Tryz.prog 113 #[(.int .i64 n_0),(.int .i64 (0:Int)),(.int .i64 (15:Int))] (.one (.sc .bool)) h fun r1 h1=>
 R (.bool (!r1)) h1
theorem o0 (n_0:Int) {R:Value→Heap→Prop} {h:Heap} (hm:lp n_0 R h):ae Tryz.prog 167 #[(.int .i64 n_0)] h R:=aw ah Tryz.func167 .n hm
end Go.Proofs.YtdhamoojccmbdaaGreatDoor
