/- Part of the proofs that the laws of this seat answer true whatever the input reads, and leave it as it was; no condition. -/
import Derived.Test.YtdoiokchdaoonaaGreatTabA
set_option linter.unusedVariables false
set_option linter.unusedSimpArgs false
namespace Go.Proofs.YtdoiokchdaoonaaGreat
open Go Go.Vc Go.Proofs
set_option maxRecDepth 1000000
abbrev sr:FuncId:=43
noncomputable def lY (s_0:Option Addr) (R:Value→Heap→Prop) (h:Heap):Prop:=
 Br (!(Option.isNone s_0)) (∃a1:Addr,(s_0=some a1)∧
 ∃x2:Option Addr,cellOf h (a1.add 8)=some (.pointer x2)∧
 af Tryz.prog 29 #[(.pointer x2)] (.one (.sc .bool)) h fun r3 h1=>
 (aw.ok [] h1)∧
 Br (!r3) ((aw.ok [] h1)∧
 R (.bool true) h1) (∃a4:Addr,(s_0=some a4)∧
 ∃x5:Option Addr,cellOf h1 (a4.add 8)=some (.pointer x5)∧
 ∃a6:Addr,(s_0=some a6)∧
 ∃x7:Int,cellOf h1 (a6.add 9)=some (.int .i64 x7)∧
 af Tryz.prog 32 #[(.pointer x5)] (.one (.sc (.int .i64))) h1 fun r8 h2=>
 (aw.ok [(a6.add 9,(.int .i64 x7))] h2)∧
 R (.bool (r8 !=x7)) h2)) ((aw.ok [] h)∧
 (aw.ok [] h)∧
 R (.bool false) h)
theorem q8 (s_0:Option Addr) {R:Value→Heap→Prop} {h:Heap} (hm:lY s_0 R h):ab Tryz.prog 43 #[(.pointer s_0)] h R:=al ag Tryz.func43 .n hm
abbrev o7:FuncId:=47
noncomputable def ke (s_0:Option Addr) (name_1:ByteArray) (b_2:Sl) (R:Value→Heap→Prop) (h:Heap):Prop:=
 af Tryz.prog 70 #[(.pointer s_0)] (.one (.sc .bool)) h fun r1 h1=>
 Br r1
 (R (.int .i64 (14:Int)) h1)
 (af Tryz.prog 86 #[(.string name_1)] (.one (.sc .bool)) h1 fun r2 h2=>
 Br (!r2)
 (R (.int .i64 (3:Int)) h2)
 (af Tryz.prog 87 #[(.pointer s_0),(.string name_1)] (.one (.sc (.int .i64))) h2 fun r3 h3=>
 Br (decide (r3≥(0:Int)))
 (R (.int .i64 (4:Int)) h3)
 (aW (σ:=Bool) (fun s10 h4=>
 Br s10
 (R (.int .i64 (6:Int)) h4)
 (af Tryz.prog 22 #[(.pointer s_0)] (.one (.sc .slc)) h4 fun r11 h5=>
 Br (((r11.len:Nat):Int)==(0:Int)) (R (.int .i64 (7:Int)) h5) (∃a12:Addr,(s_0=some a12)∧
 ∃x13:Int,cellOf h5 (a12.add 1)=some (.int .i64 x13)∧
 Br (decide (x13>(16777215:Int))) (R (.int .i64 (7:Int)) h5) (∃a14:Addr,(s_0=some a14)∧
 ∃x15:Int,cellOf h5 a14=some (.int .i64 x15)∧
 Br (decide (x15≥(2147483647:Int)))
 (R (.int .i64 (7:Int)) h5)
 (R (.int .i64 (0:Int)) h5)))))
 (fun K1=>
 ∃a4:Addr,(s_0=some a4)∧
 ∃x5:Int,cellOf h3 (a4.add 2)=some (.int .i64 x5)∧
 ∃a6:Addr,(s_0=some a6)∧
 ∃x7:Int,cellOf h3 ((a6.add 2).add 2)=some (.int .i64 x7)∧
 Br (decide (((b_2.len:Nat):Int)>(IntKind.wrap .i64 ((IntKind.wrap .i64 (x5*x7))*(8:Int))))) (K1 true h3) (∃a8:Addr,(s_0=some a8)∧
 ∃x9:Sl,cellOf h3 (a8.add 7)=some (.slice x9.ptr x9.len x9.cap)∧
 K1 (decide (((x9.len:Nat):Int)≥(12:Int))) h3)))))
theorem od (s_0:Option Addr) (name_1:ByteArray) (b_2:Sl) {R:Value→Heap→Prop} {h:Heap} (hm:ke s_0 name_1 b_2 R h):ab Tryz.prog 47 #[(.pointer s_0),(.string name_1),(.slice b_2.ptr b_2.len b_2.cap)] h R:=al ag Tryz.func47 (.two .n (.two (.inn (.two .n (.two .n (.two .n (.two .n (.two .n (.two .n (.two (.join [(19,(.sc .bool))] [(19,46)] .n) .n)))))))) .n)) hm
abbrev zC:FuncId:=48
noncomputable def rJ (p_0:Int×Int×Int) (object_1:Int) (blocks_2:Int) (R:Value→Heap→Prop) (h:Heap):Prop:=
 aM Tryz.prog (Instr.box 23 (.agg #[(.int .i64 p_0.1),(.int .i64 p_0.2.1),(.int .i64 p_0.2.2)])) h fun a1 h1=>
 aK (σ:=Sl×Int) (fun s2 K1 h2=>
 Br (decide (s2.2<blocks_2))
 (∃x3:Int×Int×Int,ai h2 a1 0 [(.int .i64 x3.1),(.int .i64 x3.2.1),(.int .i64 x3.2.2)]∧
 af Tryz.prog 88 #[(.agg #[(.int .i64 x3.1),(.int .i64 x3.2.1),(.int .i64 x3.2.2)]),(.int .i64 object_1),(.int .i64 s2.2)] (.many [(.sc (.int .i64)),(.sc .bool)]) h2 fun r4 h3=>
 Br (!r4.2)
 (R (.tuple #[(.slice none 0 0),(.bool false)]) h3)
 (av Tryz.prog (Instr.buildSlice 24 1 #[(0,(.int .i64 r4.1))]) (.one (.sc .slc)) h3 fun v5 h4=>
 av Tryz.prog (Builtin.append_ #[24,24] 24 #[(.slice s2.1.ptr s2.1.len s2.1.cap),(.slice v5.ptr v5.len v5.cap)]) (.one (.sc .slc)) h4 fun v6 h5=>
 K1 ((⟨v6.ptr,v6.len,v6.cap⟩:Sl),IntKind.wrap .i64 (s2.2+(1:Int))) h5))
 (R (.tuple #[(.slice s2.1.ptr s2.1.len s2.1.cap),(.bool true)]) h2)) ((⟨none,0,0⟩:Sl),(0:Int)) h1
theorem xQ (p_0:Int×Int×Int) (object_1:Int) (blocks_2:Int) {R:Value→Heap→Prop} {h:Heap} (hm:rJ p_0 object_1 blocks_2 R h):ab Tryz.prog 48 #[(.agg #[(.int .i64 p_0.1),(.int .i64 p_0.2.1),(.int .i64 p_0.2.2)]),(.int .i64 object_1),(.int .i64 blocks_2)] h R:=al ag Tryz.func48 (.two .n (.two .n (.two (.two .n (.inn (.loop [(8,(.sc .slc)),(13,(.sc (.int .i64)))] [(6,12),(13,30)] .n))) .n))) hm
abbrev zD:FuncId:=49
noncomputable def rK (p_0:Int×Int×Int) (n_1:Int) (R:Value→Heap→Prop) (h:Heap):Prop:=
 aM Tryz.prog (Instr.box 23 (.agg #[(.int .i64 p_0.1),(.int .i64 p_0.2.1),(.int .i64 p_0.2.2)])) h fun a1 h1=>
 aW (σ:=Unit) (fun _ h3=>
 ∃x5:Int×Int×Int,ai h3 a1 0 [(.int .i64 x5.1),(.int .i64 x5.2.1),(.int .i64 x5.2.2)]∧
 af Tryz.prog 89 #[(.agg #[(.int .i64 x5.1),(.int .i64 x5.2.1),(.int .i64 x5.2.2)])] (.one (.sc (.int .i64))) h3 fun r6 h4=>
 (r6≠0)∧
 R (.int .i64 (IntKind.wrap .i64 ((IntKind.wrap .i64 (Int.tdiv (IntKind.wrap .i64 (n_1-(1:Int))) r6))+(1:Int)))) h4)
 (fun K1=>
 ∃x2:Int×Int×Int,ai h1 a1 0 [(.int .i64 x2.1),(.int .i64 x2.2.1),(.int .i64 x2.2.2)]∧
 af Tryz.prog 31 #[(.agg #[(.int .i64 x2.1),(.int .i64 x2.2.1),(.int .i64 x2.2.2)])] (.one (.sc .bool)) h1 fun r3 h2=>
 Br (!r3) (R (.int .i64 (0:Int)) h2) (Br (decide (n_1≤(0:Int)))
 (R (.int .i64 (0:Int)) h2)
 (K1 () h2)))
theorem xR (p_0:Int×Int×Int) (n_1:Int) {R:Value→Heap→Prop} {h:Heap} (hm:rK p_0 n_1 R h):ab Tryz.prog 49 #[(.agg #[(.int .i64 p_0.1),(.int .i64 p_0.2.1),(.int .i64 p_0.2.2)]),(.int .i64 n_1)] h R:=al ag Tryz.func49 (.two .n (.two (.join [] [(4,12)] .n) .n)) hm
abbrev o8:FuncId:=50
noncomputable def kf (s_0:Option Addr) (x_1:ByteArray×Int×Int×Sl) (b_2:Sl) (R:Value→Heap→Prop) (h:Heap):Prop:=
 aM Tryz.prog (Instr.box 54 (.agg #[(.string x_1.1),(.int .i64 x_1.2.1),(.int .i64 x_1.2.2.1),(.slice x_1.2.2.2.ptr x_1.2.2.2.len x_1.2.2.2.cap)])) h fun a1 h1=>
 af Tryz.prog 22 #[(.pointer s_0)] (.one (.sc .slc)) h1 fun r2 h2=>
 ∃a3:Addr,(s_0=some a3)∧
 ∃x4:Int×Int×Int,ai h2 (a3.add 2) 0 [(.int .i64 x4.1),(.int .i64 x4.2.1),(.int .i64 x4.2.2)]∧
 af Tryz.prog 90 #[(.agg #[(.int .i64 x4.1),(.int .i64 x4.2.1),(.int .i64 x4.2.2)]),(.slice b_2.ptr b_2.len b_2.cap)] (.one (.sc .slc)) h2 fun r5 h3=>
 aK (σ:=Sl×Int) (fun s6 K1 h4=>
 Br (decide (s6.2<((r5.len:Nat):Int)))
 (∃a7:Addr,(r5.ptr=some a7∧0≤s6.2∧s6.2<((r5.len:Nat):Int))∧
 ∃x8:Sl,cellOf h4 (a7.add (s6.2.toNat*1))=some (.slice x8.ptr x8.len x8.cap)∧
 ∃x9:Int,cellOf h4 (a1.add 1)=some (.int .i64 x9)∧
 ∃x10:Sl,cellOf h4 (a1.add 3)=some (.slice x10.ptr x10.len x10.cap)∧
 ∃a11:Addr,(x10.ptr=some a11∧0≤s6.2∧s6.2<((x10.len:Nat):Int))∧
 ∃x12:Int,cellOf h4 (a11.add (s6.2.toNat*1))=some (.int .i64 x12)∧
 af Tryz.prog 20 #[(.int .i64 x9),(.int .i64 s6.2),(.int .i64 x12)] (.one (.sc (.int .u32))) h4 fun r13 h5=>
 (aw.ok [(a1.add 3,(.slice x10.ptr x10.len x10.cap))] h5)∧
 ∃a14:Addr,(s_0=some a14)∧
 ∃x15:Int×Int×Int,ai h5 (a14.add 2) 0 [(.int .i64 x15.1),(.int .i64 x15.2.1),(.int .i64 x15.2.2)]∧
 af Tryz.prog 91 #[(.agg #[(.int .i64 x15.1),(.int .i64 x15.2.1),(.int .i64 x15.2.2)]),(.int .u32 r13),(.slice x8.ptr x8.len x8.cap)] (.many [(.sc .ptr),(.sc (.int .i64))]) h5 fun r16 h6=>
 Br (r16.2 !=(0:Int))
 (R (.tuple #[(.slice none 0 0),(.bool false)]) h6)
 (∃x17:Int,cellOf h6 (a1.add 1)=some (.int .i64 x17)∧
 af Tryz.prog 92 #[(.int .i64 x17),(.int .i64 s6.2),(.slice r2.ptr r2.len r2.cap)] (.one (.sc .slc)) h6 fun r18 h7=>
 ∃a19:Addr,(s_0=some a19)∧
 ∃x20:Int,cellOf h7 (a19.add 2)=some (.int .i64 x20)∧
 ∃a21:Addr,(s_0=some a21)∧
 ∃x22:Int,cellOf h7 (a21.add 5)=some (.int .i64 x22)∧
 aK (σ:=Sl×Int) (fun s23 K2 h8=>
 Br (decide (s23.2<(IntKind.wrap .i64 (x20+x22))))
 (aW (σ:=Addr) (fun s31 h15=>
 ∃x32:Int×Int×Int×Int×Int×Int×Int×Sl,ai h15 s31 0 [(.int .i64 x32.1),(.int .i64 x32.2.1),(.int .i64 x32.2.2.1),(.int .i64 x32.2.2.2.1),(.int .i64 x32.2.2.2.2.1),(.int .i64 x32.2.2.2.2.2.1),(.int .u32 x32.2.2.2.2.2.2.1),(.slice x32.2.2.2.2.2.2.2.ptr x32.2.2.2.2.2.2.2.len x32.2.2.2.2.2.2.2.cap)]∧
 af Tryz.prog 94 #[(.slice r18.ptr r18.len r18.cap),(.int .i64 s23.2)] (.one (.sc (.int .i64))) h15 fun r33 h16=>
 (aw.ok [(s31,(.int .i64 x32.1)),(s31.add 1,(.int .i64 x32.2.1)),(s31.add 2,(.int .i64 x32.2.2.1)),(s31.add 3,(.int .i64 x32.2.2.2.1)),(s31.add 4,(.int .i64 x32.2.2.2.2.1)),(s31.add 5,(.int .i64 x32.2.2.2.2.2.1)),(s31.add 6,(.int .u32 x32.2.2.2.2.2.2.1)),(s31.add 7,(.slice x32.2.2.2.2.2.2.2.ptr x32.2.2.2.2.2.2.2.len x32.2.2.2.2.2.2.2.cap))] h16)∧
 af Tryz.prog 95 #[(.agg #[(.int .i64 x32.1),(.int .i64 x32.2.1),(.int .i64 x32.2.2.1),(.int .i64 x32.2.2.2.1),(.int .i64 x32.2.2.2.2.1),(.int .i64 x32.2.2.2.2.2.1),(.int .u32 x32.2.2.2.2.2.2.1),(.slice x32.2.2.2.2.2.2.2.ptr x32.2.2.2.2.2.2.2.len x32.2.2.2.2.2.2.2.cap)])] (.one (.sc .slc)) h16 fun r34 h17=>
 (aw.ok [] h17)∧
 av Tryz.prog (Instr.buildSlice 82 1 #[(0,(.agg #[(.int .i64 r33),(.slice r34.ptr r34.len r34.cap)]))]) (.one (.sc .slc)) h17 fun v35 h18=>
 (aw.ok [] h18)∧
 av Tryz.prog (Builtin.append_ #[82,82] 82 #[(.slice s23.1.ptr s23.1.len s23.1.cap),(.slice v35.ptr v35.len v35.cap)]) (.one (.sc .slc)) h18 fun v36 h19=>
 (aw.ok [] h19)∧
 K2 ((⟨v36.ptr,v36.len,v36.cap⟩:Sl),IntKind.wrap .i64 (s23.2+(1:Int))) h19)
 (fun K3=>
 ∃x24:Int,cellOf h8 (a1.add 1)=some (.int .i64 x24)∧
 ∃a25:Addr,(s_0=some a25)∧
 ∃x26:Int×Int×Int,ai h8 (a25.add 2) 0 [(.int .i64 x26.1),(.int .i64 x26.2.1),(.int .i64 x26.2.2)]∧
 (af Tryz.prog 93 #[(.pointer r16.1),(.int .i64 s23.2)] (.one (.sc .slc)) h8 fun r27 h9=>
 (aw.ok [(a25.add 2,(.int .i64 x26.1)),((a25.add 2).add 1,(.int .i64 x26.2.1)),((a25.add 2).add 2,(.int .i64 x26.2.2)),(a1.add 1,(.int .i64 x24))] h9)∧
 aM Tryz.prog (Instr.alloc 149 true (.tuple #[])) h9 fun a28 h10=>
 (aw.ok [(a25.add 2,(.int .i64 x26.1)),((a25.add 2).add 1,(.int .i64 x26.2.1)),((a25.add 2).add 2,(.int .i64 x26.2.2)),(a1.add 1,(.int .i64 x24))] h10)∧
 ae Tryz.prog (Instr.storeAt 149 (.pointer (some a28)) (.agg #[(.int .i64 x24),(.int .i64 s6.2),(.int .i64 s23.2),(.int .i64 x26.1),(.int .i64 x26.2.1),(.int .i64 x26.2.2),(.int .u32 r13),(.slice r27.ptr r27.len r27.cap)])) h10 fun _ h11=>
 (aw.ok [] h11)∧
 K3 a28 h11)∧(aM Tryz.prog (Instr.alloc 149 true (.tuple #[])) h8 fun a29 h12=>
 (aw.ok [(a25.add 2,(.int .i64 x26.1)),((a25.add 2).add 1,(.int .i64 x26.2.1)),((a25.add 2).add 2,(.int .i64 x26.2.2)),(a1.add 1,(.int .i64 x24))] h12)∧
 af Tryz.prog 93 #[(.pointer r16.1),(.int .i64 s23.2)] (.one (.sc .slc)) h12 fun r30 h13=>
 (aw.ok [(a25.add 2,(.int .i64 x26.1)),((a25.add 2).add 1,(.int .i64 x26.2.1)),((a25.add 2).add 2,(.int .i64 x26.2.2)),(a1.add 1,(.int .i64 x24))] h13)∧
 ae Tryz.prog (Instr.storeAt 149 (.pointer (some a29)) (.agg #[(.int .i64 x24),(.int .i64 s6.2),(.int .i64 s23.2),(.int .i64 x26.1),(.int .i64 x26.2.1),(.int .i64 x26.2.2),(.int .u32 r13),(.slice r30.ptr r30.len r30.cap)])) h13 fun _ h14=>
 (aw.ok [] h14)∧
 K3 a29 h14)))
 (K1 ((⟨s23.1.ptr,s23.1.len,s23.1.cap⟩:Sl),IntKind.wrap .i64 (s6.2+(1:Int))) h8)) ((⟨s6.1.ptr,s6.1.len,s6.1.cap⟩:Sl),(0:Int)) h7))
 (R (.tuple #[(.slice s6.1.ptr s6.1.len s6.1.cap),(.bool true)]) h4)) ((⟨none,0,0⟩:Sl),(0:Int)) h3
theorem oe (s_0:Option Addr) (x_1:ByteArray×Int×Int×Sl) (b_2:Sl) {R:Value→Heap→Prop} {h:Heap} (hm:kf s_0 x_1 b_2 R h):ab Tryz.prog 50 #[(.pointer s_0),(.agg #[(.string x_1.1),(.int .i64 x_1.2.1),(.int .i64 x_1.2.2.1),(.slice x_1.2.2.2.ptr x_1.2.2.2.len x_1.2.2.2.cap)]),(.slice b_2.ptr b_2.len b_2.cap)] h R:=al ag Tryz.func50 (.two .n (.two .n (.two .n (.two (.two .n (.inn (.loop [(9,(.sc .slc)),(28,(.sc (.int .i64)))] [(6,8),(9,18),(28,100)] (.two .n (.two .n (.two (.inn (.two .n (.two .n (.two .n (.two .n (.two .n (.two .n (.inn (.loop [(9,(.sc .slc)),(72,(.sc (.int .i64)))] [(9,10),(16,18),(72,99)] (.two .n (.two .n (.two (.inn (.two .n (.two (.join [(17,(.sc .adr))] [(17,18),(75,89)] .n) .n))) .n)))))))))))) .n)))))) .n)))) hm
abbrev rL:FuncId:=51
noncomputable def tO (m_0:Int×Int×Int×Int×Int×Int×Sl×Sl) (x_1:ByteArray×Int×Int×Sl) (R:Value→Heap→Prop) (h:Heap):Prop:=
 aM Tryz.prog (Instr.box 50 (.agg #[(.int .i64 m_0.1),(.int .i64 m_0.2.1),(.int .i64 m_0.2.2.1),(.int .i64 m_0.2.2.2.1),(.int .i64 m_0.2.2.2.2.1),(.int .i64 m_0.2.2.2.2.2.1),(.slice m_0.2.2.2.2.2.2.1.ptr m_0.2.2.2.2.2.2.1.len m_0.2.2.2.2.2.2.1.cap),(.slice m_0.2.2.2.2.2.2.2.ptr m_0.2.2.2.2.2.2.2.len m_0.2.2.2.2.2.2.2.cap)])) h fun a1 h1=>
 aM Tryz.prog (Instr.box 54 (.agg #[(.string x_1.1),(.int .i64 x_1.2.1),(.int .i64 x_1.2.2.1),(.slice x_1.2.2.2.ptr x_1.2.2.2.len x_1.2.2.2.cap)])) h1 fun a2 h2=>
 aM Tryz.prog (Instr.alloc 50 true (.tuple #[])) h2 fun a3 h3=>
 ∃x4:Int×Int×Int×Int×Int×Int×Sl×Sl,ai h3 a1 0 [(.int .i64 x4.1),(.int .i64 x4.2.1),(.int .i64 x4.2.2.1),(.int .i64 x4.2.2.2.1),(.int .i64 x4.2.2.2.2.1),(.int .i64 x4.2.2.2.2.2.1),(.slice x4.2.2.2.2.2.2.1.ptr x4.2.2.2.2.2.2.1.len x4.2.2.2.2.2.2.1.cap),(.slice x4.2.2.2.2.2.2.2.ptr x4.2.2.2.2.2.2.2.len x4.2.2.2.2.2.2.2.cap)]∧
 af Tryz.prog 56 #[(.agg #[(.int .i64 x4.1),(.int .i64 x4.2.1),(.int .i64 x4.2.2.1),(.int .i64 x4.2.2.2.1),(.int .i64 x4.2.2.2.2.1),(.int .i64 x4.2.2.2.2.2.1),(.slice x4.2.2.2.2.2.2.1.ptr x4.2.2.2.2.2.2.1.len x4.2.2.2.2.2.2.1.cap),(.slice x4.2.2.2.2.2.2.2.ptr x4.2.2.2.2.2.2.2.len x4.2.2.2.2.2.2.2.cap)])] (.one (.agg [(.int .i64),(.int .i64),(.int .i64),(.int .i64),(.int .i64),(.int .i64),.slc,.slc])) h3 fun r5 h4=>
 aM Tryz.prog (Instr.alloc 50 true (.tuple #[])) h4 fun a6 h5=>
 ae Tryz.prog (Instr.storeAt 50 (.pointer (some a6)) (.agg #[(.int .i64 r5.1),(.int .i64 r5.2.1),(.int .i64 r5.2.2.1),(.int .i64 r5.2.2.2.1),(.int .i64 r5.2.2.2.2.1),(.int .i64 r5.2.2.2.2.2.1),(.slice r5.2.2.2.2.2.2.1.ptr r5.2.2.2.2.2.2.1.len r5.2.2.2.2.2.2.1.cap),(.slice r5.2.2.2.2.2.2.2.ptr r5.2.2.2.2.2.2.2.len r5.2.2.2.2.2.2.2.cap)])) h5 fun _ h6=>
 ∃x7:Int,cellOf h6 a6=some (.int .i64 x7)∧
 ae Tryz.prog (Instr.storeAt 3 (.pointer (some a6)) (.int .i64 (IntKind.wrap .i64 (x7+(1:Int))))) h6 fun _ h7=>
 ∃x8:Int,cellOf h7 (a6.add 1)=some (.int .i64 x8)∧
 ae Tryz.prog (Instr.storeAt 3 (.pointer (some (a6.add 1))) (.int .i64 (IntKind.wrap .i64 (x8+(1:Int))))) h7 fun _ h8=>
 ∃x9:Sl,cellOf h8 (a6.add 7)=some (.slice x9.ptr x9.len x9.cap)∧
 ∃x10:ByteArray×Int×Int×Sl,ai h8 a2 0 [(.string x10.1),(.int .i64 x10.2.1),(.int .i64 x10.2.2.1),(.slice x10.2.2.2.ptr x10.2.2.2.len x10.2.2.2.cap)]∧
 av Tryz.prog (Instr.buildSlice 48 1 #[(0,(.agg #[(.string x10.1),(.int .i64 x10.2.1),(.int .i64 x10.2.2.1),(.slice x10.2.2.2.ptr x10.2.2.2.len x10.2.2.2.cap)]))]) (.one (.sc .slc)) h8 fun v11 h9=>
 av Tryz.prog (Builtin.append_ #[48,48] 48 #[(.slice x9.ptr x9.len x9.cap),(.slice v11.ptr v11.len v11.cap)]) (.one (.sc .slc)) h9 fun v12 h10=>
 ae Tryz.prog (Instr.storeAt 48 (.pointer (some (a6.add 7))) (.slice v12.ptr v12.len v12.cap)) h10 fun _ h11=>
 ∃x13:Sl,cellOf h11 (a6.add 7)=some (.slice x13.ptr x13.len x13.cap)∧
 af Tryz.prog 96 #[(.slice x13.ptr x13.len x13.cap),(.func (.func 97) #[] #[])] (.many []) h11 fun _ h12=>
 ∃x15:Int×Int×Int×Int×Int×Int×Sl×Sl,ai h12 a6 0 [(.int .i64 x15.1),(.int .i64 x15.2.1),(.int .i64 x15.2.2.1),(.int .i64 x15.2.2.2.1),(.int .i64 x15.2.2.2.2.1),(.int .i64 x15.2.2.2.2.2.1),(.slice x15.2.2.2.2.2.2.1.ptr x15.2.2.2.2.2.2.1.len x15.2.2.2.2.2.2.1.cap),(.slice x15.2.2.2.2.2.2.2.ptr x15.2.2.2.2.2.2.2.len x15.2.2.2.2.2.2.2.cap)]∧
 ae Tryz.prog (Instr.storeAt 50 (.pointer (some a3)) (.agg #[(.int .i64 x15.1),(.int .i64 x15.2.1),(.int .i64 x15.2.2.1),(.int .i64 x15.2.2.2.1),(.int .i64 x15.2.2.2.2.1),(.int .i64 x15.2.2.2.2.2.1),(.slice x15.2.2.2.2.2.2.1.ptr x15.2.2.2.2.2.2.1.len x15.2.2.2.2.2.2.1.cap),(.slice x15.2.2.2.2.2.2.2.ptr x15.2.2.2.2.2.2.2.len x15.2.2.2.2.2.2.2.cap)])) h12 fun _ h13=>
 ∃res16:Int×Int×Int×Int×Int×Int×Sl×Sl,ai h13 a3 0 [(.int .i64 res16.1),(.int .i64 res16.2.1),(.int .i64 res16.2.2.1),(.int .i64 res16.2.2.2.1),(.int .i64 res16.2.2.2.2.1),(.int .i64 res16.2.2.2.2.2.1),(.slice res16.2.2.2.2.2.2.1.ptr res16.2.2.2.2.2.2.1.len res16.2.2.2.2.2.2.1.cap),(.slice res16.2.2.2.2.2.2.2.ptr res16.2.2.2.2.2.2.2.len res16.2.2.2.2.2.2.2.cap)]∧
 R (.agg #[(.int .i64 res16.1),(.int .i64 res16.2.1),(.int .i64 res16.2.2.1),(.int .i64 res16.2.2.2.1),(.int .i64 res16.2.2.2.2.1),(.int .i64 res16.2.2.2.2.2.1),(.slice res16.2.2.2.2.2.2.1.ptr res16.2.2.2.2.2.2.1.len res16.2.2.2.2.2.2.1.cap),(.slice res16.2.2.2.2.2.2.2.ptr res16.2.2.2.2.2.2.2.len res16.2.2.2.2.2.2.2.cap)]) h13
theorem zE (m_0:Int×Int×Int×Int×Int×Int×Sl×Sl) (x_1:ByteArray×Int×Int×Sl) {R:Value→Heap→Prop} {h:Heap} (hm:tO m_0 x_1 R h):ab Tryz.prog 51 #[(.agg #[(.int .i64 m_0.1),(.int .i64 m_0.2.1),(.int .i64 m_0.2.2.1),(.int .i64 m_0.2.2.2.1),(.int .i64 m_0.2.2.2.2.1),(.int .i64 m_0.2.2.2.2.2.1),(.slice m_0.2.2.2.2.2.2.1.ptr m_0.2.2.2.2.2.2.1.len m_0.2.2.2.2.2.2.1.cap),(.slice m_0.2.2.2.2.2.2.2.ptr m_0.2.2.2.2.2.2.2.len m_0.2.2.2.2.2.2.2.cap)]),(.agg #[(.string x_1.1),(.int .i64 x_1.2.1),(.int .i64 x_1.2.2.1),(.slice x_1.2.2.2.ptr x_1.2.2.2.len x_1.2.2.2.cap)])] h R:=al ag Tryz.func51 .n hm
abbrev fF:FuncId:=52
noncomputable def kT (slot_0:Int) (cap_1:Addr) (cap_2:Addr) (R:Value→Heap→Prop) (h:Heap):Prop:=
 ∃x1:Int,cellOf h cap_1=some (.int .i64 x1)∧
 ∃x2:Sl,cellOf h cap_2=some (.slice x2.ptr x2.len x2.cap)∧
 aK (σ:=Int×Int) (fun s3 K1 h1=>
 Br (decide (s3.2<((x2.len:Nat):Int)))
 (∃a4:Addr,(x2.ptr=some a4∧0≤s3.2∧s3.2<((x2.len:Nat):Int))∧
 ∃x5:Int×Sl,ai h1 (a4.add (s3.2.toNat*2)) 0 [(.int .i64 x5.1),(.slice x5.2.ptr x5.2.len x5.2.cap)]∧
 aM Tryz.prog (Instr.alloc 101 true (.tuple #[])) h1 fun a6 h2=>
 ae Tryz.prog (Instr.storeAt 101 (.pointer (some a6)) (.agg #[(.int .i64 x5.1),(.slice x5.2.ptr x5.2.len x5.2.cap)])) h2 fun _ h3=>
 ∃x7:Int,cellOf h3 a6=some (.int .i64 x7)∧
 Br (x7==slot_0)
 (K1 (IntKind.wrap .i64 (s3.1+(1:Int)),IntKind.wrap .i64 (s3.2+(1:Int))) h3)
 (K1 (s3.1,IntKind.wrap .i64 (s3.2+(1:Int))) h3))
 (R (.int .i64 s3.1) h1)) (x1,(0:Int)) h
theorem pP (slot_0:Int) (cap_1:Addr) (cap_2:Addr) {R:Value→Heap→Prop} {h:Heap} (hm:kT slot_0 cap_1 cap_2 R h):ab Tryz.prog 52 #[(.int .i64 slot_0),(.pointer (some cap_1)),(.pointer (some cap_2))] h R:=al ag Tryz.func52 (.two .n (.two .n (.two (.two .n (.inn (.loop [(5,(.sc (.int .i64))),(11,(.sc (.int .i64)))] [(5,6),(7,8),(11,22)] .n))) .n))) hm
abbrev ss:FuncId:=53
noncomputable def lZ (s_0:Option Addr) (slots_1:Sl) (n_2:FuncId×Array Value×Array Value) (R:Value→Heap→Prop) (h:Heap):Prop:=
 aM Tryz.prog (Instr.box 35 (.pointer s_0)) h fun a1 h1=>
 aM Tryz.prog (Instr.box 102 (.func (.func n_2.1) n_2.2.1 n_2.2.2)) h1 fun a2 h2=>
 af Tryz.prog 99 #[(.slice slots_1.ptr slots_1.len slots_1.cap),(.func (.func 100) #[] #[(.pointer (some a1)),(.pointer (some a2))])] (.one (.sc .bool)) h2 fun r3 h3=>
 R (.bool (!r3)) h3
theorem q9 (s_0:Option Addr) (slots_1:Sl) (n_2:FuncId×Array Value×Array Value) {R:Value→Heap→Prop} {h:Heap} (hm:lZ s_0 slots_1 n_2 R h):ab Tryz.prog 53 #[(.pointer s_0),(.slice slots_1.ptr slots_1.len slots_1.cap),(.func (.func n_2.1) n_2.2.1 n_2.2.2)] h R:=al ag Tryz.func53 .n hm
abbrev ra:FuncId:=54
noncomputable def kU (s_0:Option Addr) (slots_1:Sl) (n_2:FuncId×Array Value×Array Value) (R:Value→Heap→Prop) (h:Heap):Prop:=
 aK (σ:=Int) (fun s1 K1 h1=>
 Br (decide (s1<((slots_1.len:Nat):Int)))
 (∃a2:Addr,(slots_1.ptr=some a2∧0≤s1∧s1<((slots_1.len:Nat):Int))∧
 ∃x3:Int,cellOf h1 (a2.add (s1.toNat*1))=some (.int .i64 x3)∧
 aW (σ:=Int) (fun s10 h4=>
 Br (s10 !=(0:Int))
 (R (.int .i64 s10) h4)
 (K1 (IntKind.wrap .i64 (s1+(1:Int))) h4))
 (fun K2=>
 ∃a4:Addr,(s_0=some a4)∧
 (0≤x3∧x3<((64:Nat):Int))∧
 ∃x5:Option Addr,cellOf h1 ((a4.add 10).add (x3.toNat*1))=some (.pointer x5)∧
 ∃a6:Addr,(s_0=some a6)∧
 ∃x7:Int×Int×Int×Int×Int×Int×Sl×Sl,ai h1 a6 0 [(.int .i64 x7.1),(.int .i64 x7.2.1),(.int .i64 x7.2.2.1),(.int .i64 x7.2.2.2.1),(.int .i64 x7.2.2.2.2.1),(.int .i64 x7.2.2.2.2.2.1),(.slice x7.2.2.2.2.2.2.1.ptr x7.2.2.2.2.2.2.1.len x7.2.2.2.2.2.2.1.cap),(.slice x7.2.2.2.2.2.2.2.ptr x7.2.2.2.2.2.2.2.len x7.2.2.2.2.2.2.2.cap)]∧
 gv C n_2.1 (n_2.2.1.toList++[(.int .i64 x3)]++n_2.2.2.toList) (.one (.sc (.int .i64))) h1 fun r8 h2=>
 (aw.ok [(a6,(.int .i64 x7.1)),(a6.add 1,(.int .i64 x7.2.1)),(a6.add 2,(.int .i64 x7.2.2.1)),(a6.add 3,(.int .i64 x7.2.2.2.1)),(a6.add 4,(.int .i64 x7.2.2.2.2.1)),(a6.add 5,(.int .i64 x7.2.2.2.2.2.1)),(a6.add 6,(.slice x7.2.2.2.2.2.2.1.ptr x7.2.2.2.2.2.2.1.len x7.2.2.2.2.2.2.1.cap)),(a6.add 7,(.slice x7.2.2.2.2.2.2.2.ptr x7.2.2.2.2.2.2.2.len x7.2.2.2.2.2.2.2.cap)),((a4.add 10).add (x3.toNat*1),(.pointer x5))] h2)∧
 af Tryz.prog 102 #[(.pointer x5),(.agg #[(.int .i64 x7.1),(.int .i64 x7.2.1),(.int .i64 x7.2.2.1),(.int .i64 x7.2.2.2.1),(.int .i64 x7.2.2.2.2.1),(.int .i64 x7.2.2.2.2.2.1),(.slice x7.2.2.2.2.2.2.1.ptr x7.2.2.2.2.2.2.1.len x7.2.2.2.2.2.2.1.cap),(.slice x7.2.2.2.2.2.2.2.ptr x7.2.2.2.2.2.2.2.len x7.2.2.2.2.2.2.2.cap)]),(.int .i64 r8)] (.one (.sc (.int .i64))) h2 fun r9 h3=>
 (aw.ok [] h3)∧
 K2 r9 h3))
 (R (.int .i64 (0:Int)) h1)) (0:Int) h
theorem pQ (s_0:Option Addr) (slots_1:Sl) (n_2:FuncId×Array Value×Array Value) {R:Value→Heap→Prop} {h:Heap} (hm:kU s_0 slots_1 n_2 R h):ab Tryz.prog 54 #[(.pointer s_0),(.slice slots_1.ptr slots_1.len slots_1.cap),(.func (.func n_2.1) n_2.2.1 n_2.2.2)] h R:=al ag Tryz.func54 (.two .n (.two (.two .n (.inn (.loop [(12,(.sc (.int .i64)))] [(6,7),(8,10),(12,34)] (.two .n (.two .n (.two (.inn (.two .n (.two (.join [(9,(.sc (.int .i64)))] [(9,10),(16,30)] .n) .n))) .n)))))) .n)) hm
abbrev su:FuncId:=55
noncomputable def l4 (s_0:Option Addr) (n_1:Int×Int×Int×Int×Int×Int×Sl×Sl) (slots_2:Sl) (R:Value→Heap→Prop) (h:Heap):Prop:=
 aM Tryz.prog (Instr.box 50 (.agg #[(.int .i64 n_1.1),(.int .i64 n_1.2.1),(.int .i64 n_1.2.2.1),(.int .i64 n_1.2.2.2.1),(.int .i64 n_1.2.2.2.2.1),(.int .i64 n_1.2.2.2.2.2.1),(.slice n_1.2.2.2.2.2.2.1.ptr n_1.2.2.2.2.2.2.1.len n_1.2.2.2.2.2.2.1.cap),(.slice n_1.2.2.2.2.2.2.2.ptr n_1.2.2.2.2.2.2.2.len n_1.2.2.2.2.2.2.2.cap)])) h fun a1 h1=>
 ∃x2:Int×Int×Int×Int×Int×Int×Sl×Sl,ai h1 a1 0 [(.int .i64 x2.1),(.int .i64 x2.2.1),(.int .i64 x2.2.2.1),(.int .i64 x2.2.2.2.1),(.int .i64 x2.2.2.2.2.1),(.int .i64 x2.2.2.2.2.2.1),(.slice x2.2.2.2.2.2.2.1.ptr x2.2.2.2.2.2.2.1.len x2.2.2.2.2.2.2.1.cap),(.slice x2.2.2.2.2.2.2.2.ptr x2.2.2.2.2.2.2.2.len x2.2.2.2.2.2.2.2.cap)]∧
 af Tryz.prog 36 #[(.agg #[(.int .i64 x2.1),(.int .i64 x2.2.1),(.int .i64 x2.2.2.1),(.int .i64 x2.2.2.2.1),(.int .i64 x2.2.2.2.2.1),(.int .i64 x2.2.2.2.2.2.1),(.slice x2.2.2.2.2.2.2.1.ptr x2.2.2.2.2.2.2.1.len x2.2.2.2.2.2.2.1.cap),(.slice x2.2.2.2.2.2.2.2.ptr x2.2.2.2.2.2.2.2.len x2.2.2.2.2.2.2.2.cap)]),(.slice slots_2.ptr slots_2.len slots_2.cap)] (.one (.sc .slc)) h1 fun r3 h2=>
 af Tryz.prog 35 #[(.func (.func 24) #[(.pointer s_0)] #[]),(.slice r3.ptr r3.len r3.cap)] (.one (.sc (.int .i64))) h2 fun r4 h3=>
 Br (r4 !=(0:Int))
 (R (.int .i64 r4) h3)
 (∃x5:Int×Int×Int×Int×Int×Int×Sl×Sl,ai h3 a1 0 [(.int .i64 x5.1),(.int .i64 x5.2.1),(.int .i64 x5.2.2.1),(.int .i64 x5.2.2.2.1),(.int .i64 x5.2.2.2.2.1),(.int .i64 x5.2.2.2.2.2.1),(.slice x5.2.2.2.2.2.2.1.ptr x5.2.2.2.2.2.2.1.len x5.2.2.2.2.2.2.1.cap),(.slice x5.2.2.2.2.2.2.2.ptr x5.2.2.2.2.2.2.2.len x5.2.2.2.2.2.2.2.cap)]∧
 af Tryz.prog 56 #[(.agg #[(.int .i64 x5.1),(.int .i64 x5.2.1),(.int .i64 x5.2.2.1),(.int .i64 x5.2.2.2.1),(.int .i64 x5.2.2.2.2.1),(.int .i64 x5.2.2.2.2.2.1),(.slice x5.2.2.2.2.2.2.1.ptr x5.2.2.2.2.2.2.1.len x5.2.2.2.2.2.2.1.cap),(.slice x5.2.2.2.2.2.2.2.ptr x5.2.2.2.2.2.2.2.len x5.2.2.2.2.2.2.2.cap)])] (.one (.agg [(.int .i64),(.int .i64),(.int .i64),(.int .i64),(.int .i64),(.int .i64),.slc,.slc])) h3 fun r6 h4=>
 ∃a7:Addr,(s_0=some a7)∧
 ae Tryz.prog (Instr.storeAt 50 (.pointer (some a7)) (.agg #[(.int .i64 r6.1),(.int .i64 r6.2.1),(.int .i64 r6.2.2.1),(.int .i64 r6.2.2.2.1),(.int .i64 r6.2.2.2.2.1),(.int .i64 r6.2.2.2.2.2.1),(.slice r6.2.2.2.2.2.2.1.ptr r6.2.2.2.2.2.2.1.len r6.2.2.2.2.2.2.1.cap),(.slice r6.2.2.2.2.2.2.2.ptr r6.2.2.2.2.2.2.2.len r6.2.2.2.2.2.2.2.cap)])) h4 fun _ h5=>
 R (.int .i64 (0:Int)) h5)
theorem re (s_0:Option Addr) (n_1:Int×Int×Int×Int×Int×Int×Sl×Sl) (slots_2:Sl) {R:Value→Heap→Prop} {h:Heap} (hm:l4 s_0 n_1 slots_2 R h):ab Tryz.prog 55 #[(.pointer s_0),(.agg #[(.int .i64 n_1.1),(.int .i64 n_1.2.1),(.int .i64 n_1.2.2.1),(.int .i64 n_1.2.2.2.1),(.int .i64 n_1.2.2.2.2.1),(.int .i64 n_1.2.2.2.2.2.1),(.slice n_1.2.2.2.2.2.2.1.ptr n_1.2.2.2.2.2.2.1.len n_1.2.2.2.2.2.2.1.cap),(.slice n_1.2.2.2.2.2.2.2.ptr n_1.2.2.2.2.2.2.2.len n_1.2.2.2.2.2.2.2.cap)]),(.slice slots_2.ptr slots_2.len slots_2.cap)] h R:=al ag Tryz.func55 .n hm
abbrev vJ:FuncId:=56
noncomputable def xS (m_0:Int×Int×Int×Int×Int×Int×Sl×Sl) (R:Value→Heap→Prop) (h:Heap):Prop:=
 aM Tryz.prog (Instr.box 50 (.agg #[(.int .i64 m_0.1),(.int .i64 m_0.2.1),(.int .i64 m_0.2.2.1),(.int .i64 m_0.2.2.2.1),(.int .i64 m_0.2.2.2.2.1),(.int .i64 m_0.2.2.2.2.2.1),(.slice m_0.2.2.2.2.2.2.1.ptr m_0.2.2.2.2.2.2.1.len m_0.2.2.2.2.2.2.1.cap),(.slice m_0.2.2.2.2.2.2.2.ptr m_0.2.2.2.2.2.2.2.len m_0.2.2.2.2.2.2.2.cap)])) h fun a1 h1=>
 aM Tryz.prog (Instr.alloc 50 true (.tuple #[])) h1 fun a2 h2=>
 aW (σ:=Unit) (fun _ h7=>
 ∃x8:Sl,cellOf h7 (a1.add 7)=some (.slice x8.ptr x8.len x8.cap)∧
 aK (σ:=Int) (fun s9 K2 h8=>
 Br (decide (s9<((x8.len:Nat):Int)))
 (∃x10:Sl,cellOf h8 (a1.add 7)=some (.slice x10.ptr x10.len x10.cap)∧
 ∃x11:Sl,cellOf h8 (a1.add 7)=some (.slice x11.ptr x11.len x11.cap)∧
 ∃a12:Addr,(x11.ptr=some a12∧0≤s9∧s9<((x11.len:Nat):Int))∧
 ∃x13:Sl,cellOf h8 ((a12.add (s9.toNat*4)).add 3)=some (.slice x13.ptr x13.len x13.cap)∧
 af Tryz.prog 103 #[(.slice x13.ptr x13.len x13.cap)] (.one (.sc .slc)) h8 fun r14 h9=>
 (aw.ok [(a1.add 7,(.slice x11.ptr x11.len x11.cap)),(a1.add 7,(.slice x10.ptr x10.len x10.cap))] h9)∧
 ∃a15:Addr,(x10.ptr=some a15∧0≤s9∧s9<((x10.len:Nat):Int))∧
 ae Tryz.prog (Instr.storeAt 24 (.pointer (some ((a15.add (s9.toNat*4)).add 3))) (.slice r14.ptr r14.len r14.cap)) h9 fun _ h10=>
 (aw.ok [] h10)∧
 K2 (IntKind.wrap .i64 (s9+(1:Int))) h10)
 (∃x16:Int×Int×Int×Int×Int×Int×Sl×Sl,ai h8 a1 0 [(.int .i64 x16.1),(.int .i64 x16.2.1),(.int .i64 x16.2.2.1),(.int .i64 x16.2.2.2.1),(.int .i64 x16.2.2.2.2.1),(.int .i64 x16.2.2.2.2.2.1),(.slice x16.2.2.2.2.2.2.1.ptr x16.2.2.2.2.2.2.1.len x16.2.2.2.2.2.2.1.cap),(.slice x16.2.2.2.2.2.2.2.ptr x16.2.2.2.2.2.2.2.len x16.2.2.2.2.2.2.2.cap)]∧
 ae Tryz.prog (Instr.storeAt 50 (.pointer (some a2)) (.agg #[(.int .i64 x16.1),(.int .i64 x16.2.1),(.int .i64 x16.2.2.1),(.int .i64 x16.2.2.2.1),(.int .i64 x16.2.2.2.2.1),(.int .i64 x16.2.2.2.2.2.1),(.slice x16.2.2.2.2.2.2.1.ptr x16.2.2.2.2.2.2.1.len x16.2.2.2.2.2.2.1.cap),(.slice x16.2.2.2.2.2.2.2.ptr x16.2.2.2.2.2.2.2.len x16.2.2.2.2.2.2.2.cap)])) h8 fun _ h11=>
 ∃res17:Int×Int×Int×Int×Int×Int×Sl×Sl,ai h11 a2 0 [(.int .i64 res17.1),(.int .i64 res17.2.1),(.int .i64 res17.2.2.1),(.int .i64 res17.2.2.2.1),(.int .i64 res17.2.2.2.2.1),(.int .i64 res17.2.2.2.2.2.1),(.slice res17.2.2.2.2.2.2.1.ptr res17.2.2.2.2.2.2.1.len res17.2.2.2.2.2.2.1.cap),(.slice res17.2.2.2.2.2.2.2.ptr res17.2.2.2.2.2.2.2.len res17.2.2.2.2.2.2.2.cap)]∧
 R (.agg #[(.int .i64 res17.1),(.int .i64 res17.2.1),(.int .i64 res17.2.2.1),(.int .i64 res17.2.2.2.1),(.int .i64 res17.2.2.2.2.1),(.int .i64 res17.2.2.2.2.2.1),(.slice res17.2.2.2.2.2.2.1.ptr res17.2.2.2.2.2.2.1.len res17.2.2.2.2.2.2.1.cap),(.slice res17.2.2.2.2.2.2.2.ptr res17.2.2.2.2.2.2.2.len res17.2.2.2.2.2.2.2.cap)]) h11)) (0:Int) h7)
 (fun K1=>
 ∃x3:Sl,cellOf h2 (a1.add 6)=some (.slice x3.ptr x3.len x3.cap)∧
 ∃x4:Sl,cellOf h2 (a1.add 7)=some (.slice x4.ptr x4.len x4.cap)∧
 af Tryz.prog 103 #[(.slice x3.ptr x3.len x3.cap)] (.one (.sc .slc)) h2 fun r5 h3=>
 (aw.ok [(a1.add 7,(.slice x4.ptr x4.len x4.cap))] h3)∧
 af Tryz.prog 104 #[(.slice x4.ptr x4.len x4.cap)] (.one (.sc .slc)) h3 fun r6 h4=>
 (aw.ok [] h4)∧
 ae Tryz.prog (Instr.storeAt 24 (.pointer (some (a1.add 6))) (.slice r5.ptr r5.len r5.cap)) h4 fun _ h5=>
 (aw.ok [] h5)∧
 ae Tryz.prog (Instr.storeAt 48 (.pointer (some (a1.add 7))) (.slice r6.ptr r6.len r6.cap)) h5 fun _ h6=>
 (aw.ok [] h6)∧
 K1 () h6)
theorem CV (m_0:Int×Int×Int×Int×Int×Int×Sl×Sl) {R:Value→Heap→Prop} {h:Heap} (hm:xS m_0 R h):ab Tryz.prog 56 #[(.agg #[(.int .i64 m_0.1),(.int .i64 m_0.2.1),(.int .i64 m_0.2.2.1),(.int .i64 m_0.2.2.2.1),(.int .i64 m_0.2.2.2.2.1),(.int .i64 m_0.2.2.2.2.2.1),(.slice m_0.2.2.2.2.2.2.1.ptr m_0.2.2.2.2.2.2.1.len m_0.2.2.2.2.2.2.1.cap),(.slice m_0.2.2.2.2.2.2.2.ptr m_0.2.2.2.2.2.2.2.len m_0.2.2.2.2.2.2.2.cap)])] h R:=al ag Tryz.func56 (.two .n (.two (.join [] [(4,12)] .n) (.two (.two .n (.inn (.loop [(15,(.sc (.int .i64)))] [(3,4),(15,31)] .n))) .n))) hm
abbrev zF:FuncId:=57
noncomputable def rM (n_0:Int) (least_1:Int) (most_2:Int) (R:Value→Heap→Prop) (h:Heap):Prop:=
 Br (decide (n_0≥least_1)) (R (.bool (decide (n_0≤most_2))) h) (R (.bool false) h)
theorem xT (n_0:Int) (least_1:Int) (most_2:Int) {R:Value→Heap→Prop} {h:Heap} (hm:rM n_0 least_1 most_2 R h):ab Tryz.prog 57 #[(.int .i64 n_0),(.int .i64 least_1),(.int .i64 most_2)] h R:=al ag Tryz.func57 .n hm
abbrev CW:FuncId:=58
noncomputable def vK (l_0:Sl) (most_1:Int) (R:Value→Heap→Prop) (h:Heap):Prop:=
 aK (σ:=Int) (fun s1 K1 h1=>
 Br (decide (s1<((l_0.len:Nat):Int)))
 (∃a2:Addr,(l_0.ptr=some a2∧0≤s1∧s1<((l_0.len:Nat):Int))∧
 ∃x3:Int,cellOf h1 (a2.add (s1.toNat*1))=some (.int .i64 x3)∧
 af Tryz.prog 57 #[(.int .i64 x3),(.int .i64 (0:Int)),(.int .i64 most_1)] (.one (.sc .bool)) h1 fun r4 h2=>
 Br (!r4) (R (.bool false) h2) (Br (decide (s1>(0:Int))) (∃a5:Addr,(l_0.ptr=some a5∧0≤(IntKind.wrap .i64 (s1-(1:Int)))∧(IntKind.wrap .i64 (s1-(1:Int)))<((l_0.len:Nat):Int))∧
 ∃x6:Int,cellOf h2 (a5.add ((IntKind.wrap .i64 (s1-(1:Int))).toNat*1))=some (.int .i64 x6)∧
 Br (decide (x6≥x3))
 (R (.bool false) h2)
 (K1 (IntKind.wrap .i64 (s1+(1:Int))) h2)) (K1 (IntKind.wrap .i64 (s1+(1:Int))) h2)))
 (R (.bool true) h1)) (0:Int) h
theorem Bn (l_0:Sl) (most_1:Int) {R:Value→Heap→Prop} {h:Heap} (hm:vK l_0 most_1 R h):ab Tryz.prog 58 #[(.slice l_0.ptr l_0.len l_0.cap),(.int .i64 most_1)] h R:=al ag Tryz.func58 (.two .n (.two (.two .n (.inn (.loop [(9,(.sc (.int .i64)))] [(4,7),(9,32)] .n))) .n)) hm
abbrev Bo:FuncId:=59
noncomputable def tQ (m_0:Int×Int×Int×Int×Int×Int×Sl×Sl) (x_1:ByteArray×Int×Int×Sl) (R:Value→Heap→Prop) (h:Heap):Prop:=
 aM Tryz.prog (Instr.box 50 (.agg #[(.int .i64 m_0.1),(.int .i64 m_0.2.1),(.int .i64 m_0.2.2.1),(.int .i64 m_0.2.2.2.1),(.int .i64 m_0.2.2.2.2.1),(.int .i64 m_0.2.2.2.2.2.1),(.slice m_0.2.2.2.2.2.2.1.ptr m_0.2.2.2.2.2.2.1.len m_0.2.2.2.2.2.2.1.cap),(.slice m_0.2.2.2.2.2.2.2.ptr m_0.2.2.2.2.2.2.2.len m_0.2.2.2.2.2.2.2.cap)])) h fun a1 h1=>
 aM Tryz.prog (Instr.box 54 (.agg #[(.string x_1.1),(.int .i64 x_1.2.1),(.int .i64 x_1.2.2.1),(.slice x_1.2.2.2.ptr x_1.2.2.2.len x_1.2.2.2.cap)])) h1 fun a2 h2=>
 aW (σ:=Unit) (fun _ h6=>
 ∃x13:Sl,cellOf h6 (a2.add 3)=some (.slice x13.ptr x13.len x13.cap)∧
 af Tryz.prog 99 #[(.slice x13.ptr x13.len x13.cap),(.func (.func 105) #[] #[])] (.one (.sc .bool)) h6 fun r14 h7=>
 Br (!r14) (∃x15:Sl,cellOf h7 (a2.add 3)=some (.slice x15.ptr x15.len x15.cap)∧
 ∃x16:Int×Int×Int,ai h7 (a1.add 2) 0 [(.int .i64 x16.1),(.int .i64 x16.2.1),(.int .i64 x16.2.2)]∧
 ∃x17:Int,cellOf h7 (a2.add 2)=some (.int .i64 x17)∧
 af Tryz.prog 49 #[(.agg #[(.int .i64 x16.1),(.int .i64 x16.2.1),(.int .i64 x16.2.2)]),(.int .i64 x17)] (.one (.sc (.int .i64))) h7 fun r18 h8=>
 (aw.ok [(a2.add 3,(.slice x15.ptr x15.len x15.cap))] h8)∧
 R (.bool (((x15.len:Nat):Int)==r18)) h8) ((aw.ok [] h7)∧
 R (.bool false) h7))
 (fun K1=>
 ∃x3:ByteArray,cellOf h2 a2=some (.string x3)∧
 af Tryz.prog 86 #[(.string x3)] (.one (.sc .bool)) h2 fun r4 h3=>
 Br (!r4) (R (.bool false) h3) (∃x5:Int,cellOf h3 (a2.add 1)=some (.int .i64 x5)∧
 ∃x6:Int,cellOf h3 (a1.add 1)=some (.int .i64 x6)∧
 af Tryz.prog 57 #[(.int .i64 x5),(.int .i64 (0:Int)),(.int .i64 (IntKind.wrap .i64 (x6-(1:Int))))] (.one (.sc .bool)) h3 fun r7 h4=>
 Br (!r7) (R (.bool false) h4) (∃x8:Int,cellOf h4 (a2.add 2)=some (.int .i64 x8)∧
 ∃x9:Int,cellOf h4 (a1.add 2)=some (.int .i64 x9)∧
 ∃x10:Int,cellOf h4 ((a1.add 2).add 2)=some (.int .i64 x10)∧
 af Tryz.prog 57 #[(.int .i64 x8),(.int .i64 (0:Int)),(.int .i64 (IntKind.wrap .i64 ((IntKind.wrap .i64 (x9*x10))*(8:Int))))] (.one (.sc .bool)) h4 fun r11 h5=>
 Br (!r11)
 (R (.bool false) h5)
 (K1 () h5))))
theorem zG (m_0:Int×Int×Int×Int×Int×Int×Sl×Sl) (x_1:ByteArray×Int×Int×Sl) {R:Value→Heap→Prop} {h:Heap} (hm:tQ m_0 x_1 R h):ab Tryz.prog 59 #[(.agg #[(.int .i64 m_0.1),(.int .i64 m_0.2.1),(.int .i64 m_0.2.2.1),(.int .i64 m_0.2.2.2.1),(.int .i64 m_0.2.2.2.2.1),(.int .i64 m_0.2.2.2.2.2.1),(.slice m_0.2.2.2.2.2.2.1.ptr m_0.2.2.2.2.2.2.1.len m_0.2.2.2.2.2.2.1.cap),(.slice m_0.2.2.2.2.2.2.2.ptr m_0.2.2.2.2.2.2.2.len m_0.2.2.2.2.2.2.2.cap)]),(.agg #[(.string x_1.1),(.int .i64 x_1.2.1),(.int .i64 x_1.2.2.1),(.slice x_1.2.2.2.ptr x_1.2.2.2.len x_1.2.2.2.cap)])] h R:=al ag Tryz.func59 (.two .n (.two (.join [] [(4,5),(6,33)] .n) .n)) hm
abbrev dN:FuncId:=60
noncomputable def cL (s_0:Sl) (f_1:FuncId×Array Value×Array Value) (R:Value→Heap→Prop) (h:Heap):Prop:=
 af Tryz.prog 106 #[(.slice s_0.ptr s_0.len s_0.cap),(.func (.func f_1.1) f_1.2.1 f_1.2.2)] (.one (.sc (.int .i64))) h fun r1 h1=>
 R (.bool (decide (r1≥(0:Int)))) h1
theorem dI (s_0:Sl) (f_1:FuncId×Array Value×Array Value) {R:Value→Heap→Prop} {h:Heap} (hm:cL s_0 f_1 R h):ab Tryz.prog 60 #[(.slice s_0.ptr s_0.len s_0.cap),(.func (.func f_1.1) f_1.2.1 f_1.2.2)] h R:=al ag Tryz.func60 .n hm
abbrev mu:FuncId:=61
noncomputable def tR (y_0:ByteArray×Int×Int×Sl) (cap_1:Addr) (R:Value→Heap→Prop) (h:Heap):Prop:=
 aM Tryz.prog (Instr.box 54 (.agg #[(.string y_0.1),(.int .i64 y_0.2.1),(.int .i64 y_0.2.2.1),(.slice y_0.2.2.2.ptr y_0.2.2.2.len y_0.2.2.2.cap)])) h fun a1 h1=>
 ∃x2:Int,cellOf h1 (a1.add 1)=some (.int .i64 x2)∧
 ∃x3:Int,cellOf h1 (cap_1.add 1)=some (.int .i64 x3)∧
 R (.bool (x2==x3)) h1
theorem zH (y_0:ByteArray×Int×Int×Sl) (cap_1:Addr) {R:Value→Heap→Prop} {h:Heap} (hm:tR y_0 cap_1 R h):ab Tryz.prog 61 #[(.agg #[(.string y_0.1),(.int .i64 y_0.2.1),(.int .i64 y_0.2.2.1),(.slice y_0.2.2.2.ptr y_0.2.2.2.len y_0.2.2.2.cap)]),(.pointer (some cap_1))] h R:=al ag Tryz.func61 .n hm
abbrev zI:FuncId:=62
noncomputable def rN (p_0:Int×Int×Int) (seed_1:Int) (ids_2:Sl) (R:Value→Heap→Prop) (h:Heap):Prop:=
 aM Tryz.prog (Instr.box 23 (.agg #[(.int .i64 p_0.1),(.int .i64 p_0.2.1),(.int .i64 p_0.2.2)])) h fun a1 h1=>
 ∃x2:Int×Int×Int,ai h1 a1 0 [(.int .i64 x2.1),(.int .i64 x2.2.1),(.int .i64 x2.2.2)]∧
 af Tryz.prog 31 #[(.agg #[(.int .i64 x2.1),(.int .i64 x2.2.1),(.int .i64 x2.2.2)])] (.one (.sc .bool)) h1 fun r3 h2=>
 (aw.ok [] h2)∧
 Br r3 (∃x4:Int×Int×Int,ai h2 a1 0 [(.int .i64 x4.1),(.int .i64 x4.2.1),(.int .i64 x4.2.2)]∧
 ∃x5:Int×Int×Int,ai h2 a1 0 [(.int .i64 x5.1),(.int .i64 x5.2.1),(.int .i64 x5.2.2)]∧
 af Tryz.prog 107 #[(.agg #[(.int .i64 x4.1),(.int .i64 x4.2.1),(.int .i64 x4.2.2)]),(.int .u32 seed_1),(.slice ids_2.ptr ids_2.len ids_2.cap)] (.one (.sc (.int .i64))) h2 fun r6 h3=>
 (aw.ok [(a1,(.int .i64 x5.1)),(a1.add 1,(.int .i64 x5.2.1)),(a1.add 2,(.int .i64 x5.2.2))] h3)∧
 af Tryz.prog 108 #[(.agg #[(.int .i64 x5.1),(.int .i64 x5.2.1),(.int .i64 x5.2.2)])] (.one (.sc (.int .i64))) h3 fun r7 h4=>
 (aw.ok [] h4)∧
 R (.bool (r6==r7)) h4) ((aw.ok [] h2)∧
 (aw.ok [] h2)∧
 R (.bool false) h2)
theorem xU (p_0:Int×Int×Int) (seed_1:Int) (ids_2:Sl) {R:Value→Heap→Prop} {h:Heap} (hm:rN p_0 seed_1 ids_2 R h):ab Tryz.prog 62 #[(.agg #[(.int .i64 p_0.1),(.int .i64 p_0.2.1),(.int .i64 p_0.2.2)]),(.int .u32 seed_1),(.slice ids_2.ptr ids_2.len ids_2.cap)] h R:=al ag Tryz.func62 .n hm
abbrev xV:FuncId:=63
noncomputable def pR (p_0:Int×Int×Int) (R:Value→Heap→Prop) (h:Heap):Prop:=
 aM Tryz.prog (Instr.box 23 (.agg #[(.int .i64 p_0.1),(.int .i64 p_0.2.1),(.int .i64 p_0.2.2)])) h fun a1 h1=>
 ∃x2:Int,cellOf h1 a1=some (.int .i64 x2)∧
 aK (σ:=Sl×Int) (fun s3 K1 h2=>
 Br (decide (s3.2<(if(if(16:Int)<x2 then(16:Int)else x2)>(0:Int)then(if(16:Int)<x2 then(16:Int)else x2)else(0:Int))))
 (av Tryz.prog (Instr.buildSlice 24 1 #[(0,(.int .i64 s3.2))]) (.one (.sc .slc)) h2 fun v4 h3=>
 av Tryz.prog (Builtin.append_ #[24,24] 24 #[(.slice s3.1.ptr s3.1.len s3.1.cap),(.slice v4.ptr v4.len v4.cap)]) (.one (.sc .slc)) h3 fun v5 h4=>
 K1 ((⟨v5.ptr,v5.len,v5.cap⟩:Sl),IntKind.wrap .i64 (s3.2+(1:Int))) h4)
 (R (.slice s3.1.ptr s3.1.len s3.1.cap) h2)) ((⟨none,0,0⟩:Sl),(0:Int)) h1
theorem wL (p_0:Int×Int×Int) {R:Value→Heap→Prop} {h:Heap} (hm:pR p_0 R h):ab Tryz.prog 63 #[(.agg #[(.int .i64 p_0.1),(.int .i64 p_0.2.1),(.int .i64 p_0.2.2)])] h R:=al ag Tryz.func63 (.two .n (.two .n (.two (.two .n (.inn (.loop [(3,(.sc .slc)),(9,(.sc (.int .i64)))] [(3,5),(9,17)] .n))) .n))) hm
abbrev zJ:FuncId:=64
noncomputable def rO (at_0:FuncId×Array Value×Array Value) (slots_1:Sl) (m_2:Int×Int×Int×Int×Int×Int×Sl×Sl) (object_3:Int) (block_4:Int) (R:Value→Heap→Prop) (h:Heap):Prop:=
 aM Tryz.prog (Instr.box 50 (.agg #[(.int .i64 m_2.1),(.int .i64 m_2.2.1),(.int .i64 m_2.2.2.1),(.int .i64 m_2.2.2.2.1),(.int .i64 m_2.2.2.2.2.1),(.int .i64 m_2.2.2.2.2.2.1),(.slice m_2.2.2.2.2.2.2.1.ptr m_2.2.2.2.2.2.2.1.len m_2.2.2.2.2.2.2.1.cap),(.slice m_2.2.2.2.2.2.2.2.ptr m_2.2.2.2.2.2.2.2.len m_2.2.2.2.2.2.2.2.cap)])) h fun a1 h1=>
 aK (σ:=Sl×Int) (fun s2 K1 h2=>
 Br (decide (s2.2<((slots_1.len:Nat):Int)))
 (∃a3:Addr,(slots_1.ptr=some a3∧0≤s2.2∧s2.2<((slots_1.len:Nat):Int))∧
 ∃x4:Int,cellOf h2 (a3.add (s2.2.toNat*1))=some (.int .i64 x4)∧
 aW (σ:=Sl×Int×Int) (fun s8 h5=>
 aK (σ:=Sl×Int) (fun s9 K3 h6=>
 Br (decide (s9.2<s8.2.1))
 (∃a10:Addr,(s8.1.ptr=some a10∧0≤s9.2∧s9.2<((s8.1.len:Nat):Int))∧
 ∃x11:Int×Int×Int×Int×Int×Int×Int×Sl,ai h6 (a10.add (s9.2.toNat*8)) 0 [(.int .i64 x11.1),(.int .i64 x11.2.1),(.int .i64 x11.2.2.1),(.int .i64 x11.2.2.2.1),(.int .i64 x11.2.2.2.2.1),(.int .i64 x11.2.2.2.2.2.1),(.int .u32 x11.2.2.2.2.2.2.1),(.slice x11.2.2.2.2.2.2.2.ptr x11.2.2.2.2.2.2.2.len x11.2.2.2.2.2.2.2.cap)]∧
 aM Tryz.prog (Instr.alloc 149 true (.tuple #[])) h6 fun a12 h7=>
 ae Tryz.prog (Instr.storeAt 149 (.pointer (some a12)) (.agg #[(.int .i64 x11.1),(.int .i64 x11.2.1),(.int .i64 x11.2.2.1),(.int .i64 x11.2.2.2.1),(.int .i64 x11.2.2.2.2.1),(.int .i64 x11.2.2.2.2.2.1),(.int .u32 x11.2.2.2.2.2.2.1),(.slice x11.2.2.2.2.2.2.2.ptr x11.2.2.2.2.2.2.2.len x11.2.2.2.2.2.2.2.cap)])) h7 fun _ h8=>
 ∃x13:Int,cellOf h8 a12=some (.int .i64 x13)∧
 Br (x13==object_3) (∃x14:Int,cellOf h8 (a12.add 1)=some (.int .i64 x14)∧
 Br (x14==block_4)
 (∃x15:Int,cellOf h8 (a12.add 2)=some (.int .i64 x15)∧
 ∃x16:Sl,cellOf h8 (a12.add 7)=some (.slice x16.ptr x16.len x16.cap)∧
 av Tryz.prog (Instr.buildSlice 113 1 #[(0,(.agg #[(.int .i64 x15),(.slice x16.ptr x16.len x16.cap)]))]) (.one (.sc .slc)) h8 fun v17 h9=>
 av Tryz.prog (Builtin.append_ #[113,113] 113 #[(.slice s9.1.ptr s9.1.len s9.1.cap),(.slice v17.ptr v17.len v17.cap)]) (.one (.sc .slc)) h9 fun v18 h10=>
 K3 ((⟨v18.ptr,v18.len,v18.cap⟩:Sl),IntKind.wrap .i64 (s9.2+(1:Int))) h10)
 (K3 ((⟨s9.1.ptr,s9.1.len,s9.1.cap⟩:Sl),IntKind.wrap .i64 (s9.2+(1:Int))) h8)) (K3 ((⟨s9.1.ptr,s9.1.len,s9.1.cap⟩:Sl),IntKind.wrap .i64 (s9.2+(1:Int))) h8))
 (K1 ((⟨s9.1.ptr,s9.1.len,s9.1.cap⟩:Sl),IntKind.wrap .i64 (s2.2+(1:Int))) h6)) ((⟨s2.1.ptr,s2.1.len,s2.1.cap⟩:Sl),s8.2.2) h5)
 (fun K2=>
 ∃x5:Int×Int×Int×Int×Int×Int×Sl×Sl,ai h2 a1 0 [(.int .i64 x5.1),(.int .i64 x5.2.1),(.int .i64 x5.2.2.1),(.int .i64 x5.2.2.2.1),(.int .i64 x5.2.2.2.2.1),(.int .i64 x5.2.2.2.2.2.1),(.slice x5.2.2.2.2.2.2.1.ptr x5.2.2.2.2.2.2.1.len x5.2.2.2.2.2.2.1.cap),(.slice x5.2.2.2.2.2.2.2.ptr x5.2.2.2.2.2.2.2.len x5.2.2.2.2.2.2.2.cap)]∧
 gv C at_0.1 (at_0.2.1.toList++[(.int .i64 x4)]++at_0.2.2.toList) (.one (.sc .ptr)) h2 fun r6 h3=>
 (aw.ok [(a1,(.int .i64 x5.1)),(a1.add 1,(.int .i64 x5.2.1)),(a1.add 2,(.int .i64 x5.2.2.1)),(a1.add 3,(.int .i64 x5.2.2.2.1)),(a1.add 4,(.int .i64 x5.2.2.2.2.1)),(a1.add 5,(.int .i64 x5.2.2.2.2.2.1)),(a1.add 6,(.slice x5.2.2.2.2.2.2.1.ptr x5.2.2.2.2.2.2.1.len x5.2.2.2.2.2.2.1.cap)),(a1.add 7,(.slice x5.2.2.2.2.2.2.2.ptr x5.2.2.2.2.2.2.2.len x5.2.2.2.2.2.2.2.cap))] h3)∧
 af Tryz.prog 109 #[(.pointer r6),(.agg #[(.int .i64 x5.1),(.int .i64 x5.2.1),(.int .i64 x5.2.2.1),(.int .i64 x5.2.2.2.1),(.int .i64 x5.2.2.2.2.1),(.int .i64 x5.2.2.2.2.2.1),(.slice x5.2.2.2.2.2.2.1.ptr x5.2.2.2.2.2.2.1.len x5.2.2.2.2.2.2.1.cap),(.slice x5.2.2.2.2.2.2.2.ptr x5.2.2.2.2.2.2.2.len x5.2.2.2.2.2.2.2.cap)])] (.one (.sc .slc)) h3 fun r7 h4=>
 (aw.ok [] h4)∧
 K2 ((⟨r7.ptr,r7.len,r7.cap⟩:Sl),((r7.len:Nat):Int),(0:Int)) h4))
 (R (.slice s2.1.ptr s2.1.len s2.1.cap) h2)) ((⟨none,0,0⟩:Sl),(0:Int)) h1
theorem xW (at_0:FuncId×Array Value×Array Value) (slots_1:Sl) (m_2:Int×Int×Int×Int×Int×Int×Sl×Sl) (object_3:Int) (block_4:Int) {R:Value→Heap→Prop} {h:Heap} (hm:rO at_0 slots_1 m_2 object_3 block_4 R h):ab Tryz.prog 64 #[(.func (.func at_0.1) at_0.2.1 at_0.2.2),(.slice slots_1.ptr slots_1.len slots_1.cap),(.agg #[(.int .i64 m_2.1),(.int .i64 m_2.2.1),(.int .i64 m_2.2.2.1),(.int .i64 m_2.2.2.2.1),(.int .i64 m_2.2.2.2.2.1),(.int .i64 m_2.2.2.2.2.2.1),(.slice m_2.2.2.2.2.2.2.1.ptr m_2.2.2.2.2.2.2.1.len m_2.2.2.2.2.2.2.1.cap),(.slice m_2.2.2.2.2.2.2.2.ptr m_2.2.2.2.2.2.2.2.len m_2.2.2.2.2.2.2.2.cap)]),(.int .i64 object_3),(.int .i64 block_4)] h R:=al ag Tryz.func64 (.two .n (.two .n (.two (.two .n (.inn (.loop [(11,(.sc .slc)),(18,(.sc (.int .i64)))] [(11,12),(13,14),(15,16),(18,52)] (.two .n (.two .n (.two (.inn (.two .n (.two (.join [(26,(.sc .slc)),(27,(.sc (.int .i64))),(28,(.sc (.int .i64)))] [(22,29)] .n) (.inn (.loop [(11,(.sc .slc)),(28,(.sc (.int .i64)))] [(11,12),(15,16),(28,51)] .n))))) .n)))))) .n))) hm
abbrev Es:FuncId:=65
noncomputable def xX (at_0:FuncId×Array Value×Array Value) (slots_1:Sl) (R:Value→Heap→Prop) (h:Heap):Prop:=
 aK (σ:=Sl×Int) (fun s1 K1 h1=>
 Br (decide (s1.2<((slots_1.len:Nat):Int)))
 (∃a2:Addr,(slots_1.ptr=some a2∧0≤s1.2∧s1.2<((slots_1.len:Nat):Int))∧
 ∃x3:Int,cellOf h1 (a2.add (s1.2.toNat*1))=some (.int .i64 x3)∧
 gv C at_0.1 (at_0.2.1.toList++[(.int .i64 x3)]++at_0.2.2.toList) (.one (.sc .ptr)) h1 fun r4 h2=>
 Br (!(Option.isNone r4)) (af Tryz.prog 85 #[(.pointer r4)] (.one (.sc .bool)) h2 fun r5 h3=>
 Br (!r5)
 (av Tryz.prog (Instr.buildSlice 24 1 #[(0,(.int .i64 x3))]) (.one (.sc .slc)) h3 fun v6 h4=>
 av Tryz.prog (Builtin.append_ #[24,24] 24 #[(.slice s1.1.ptr s1.1.len s1.1.cap),(.slice v6.ptr v6.len v6.cap)]) (.one (.sc .slc)) h4 fun v7 h5=>
 K1 ((⟨v7.ptr,v7.len,v7.cap⟩:Sl),IntKind.wrap .i64 (s1.2+(1:Int))) h5)
 (K1 ((⟨s1.1.ptr,s1.1.len,s1.1.cap⟩:Sl),IntKind.wrap .i64 (s1.2+(1:Int))) h3)) (K1 ((⟨s1.1.ptr,s1.1.len,s1.1.cap⟩:Sl),IntKind.wrap .i64 (s1.2+(1:Int))) h2))
 (R (.slice s1.1.ptr s1.1.len s1.1.cap) h1)) ((⟨none,0,0⟩:Sl),(0:Int)) h
theorem CX (at_0:FuncId×Array Value×Array Value) (slots_1:Sl) {R:Value→Heap→Prop} {h:Heap} (hm:xX at_0 slots_1 R h):ab Tryz.prog 65 #[(.func (.func at_0.1) at_0.2.1 at_0.2.2),(.slice slots_1.ptr slots_1.len slots_1.cap)] h R:=al ag Tryz.func65 (.two .n (.two .n (.two (.two .n (.inn (.loop [(5,(.sc .slc)),(11,(.sc (.int .i64)))] [(5,6),(7,9),(11,30)] .n))) .n))) hm
abbrev tU:FuncId:=66
noncomputable def mB (d_0:Option Addr) (R:Value→Heap→Prop) (h:Heap):Prop:=
 Br (Option.isNone d_0)
 (R (.slice none 0 0) h)
 (∃a1:Addr,(d_0=some a1)∧
 ∃x2:Sl,cellOf h (a1.add 2)=some (.slice x2.ptr x2.len x2.cap)∧
 af Tryz.prog 110 #[(.slice x2.ptr x2.len x2.cap)] (.one (.sc .slc)) h fun r3 h1=>
 R (.slice r3.ptr r3.len r3.cap) h1)
theorem sv (d_0:Option Addr) {R:Value→Heap→Prop} {h:Heap} (hm:mB d_0 R h):ab Tryz.prog 66 #[(.pointer d_0)] h R:=al ag Tryz.func66 .n hm
abbrev jn:FuncId:=67
noncomputable def fx (s_0:Sl) (f_1:FuncId×Array Value×Array Value) (R:Value→Heap→Prop) (h:Heap):Prop:=
 af Tryz.prog 111 #[(.slice s_0.ptr s_0.len s_0.cap),(.func (.func f_1.1) f_1.2.1 f_1.2.2)] (.one (.sc (.int .i64))) h fun r1 h1=>
 R (.bool (decide (r1≥(0:Int)))) h1
theorem ja (s_0:Sl) (f_1:FuncId×Array Value×Array Value) {R:Value→Heap→Prop} {h:Heap} (hm:fx s_0 f_1 R h):ab Tryz.prog 67 #[(.slice s_0.ptr s_0.len s_0.cap),(.func (.func f_1.1) f_1.2.1 f_1.2.2)] h R:=al ag Tryz.func67 .n hm
abbrev kA:FuncId:=68
noncomputable def pS (c_0:Sl) (cap_1:Addr) (R:Value→Heap→Prop) (h:Heap):Prop:=
 ∃x1:Sl,cellOf h cap_1=some (.slice x1.ptr x1.len x1.cap)∧
 af Tryz.prog 69 #[(.slice c_0.ptr c_0.len c_0.cap),(.slice x1.ptr x1.len x1.cap)] (.one (.sc .bool)) h fun r2 h1=>
 R (.bool r2) h1
theorem wM (c_0:Sl) (cap_1:Addr) {R:Value→Heap→Prop} {h:Heap} (hm:pS c_0 cap_1 R h):ab Tryz.prog 68 #[(.slice c_0.ptr c_0.len c_0.cap),(.pointer (some cap_1))] h R:=al ag Tryz.func68 .n hm
abbrev zK:FuncId:=69
noncomputable def rP (a_0:Sl) (b_1:Sl) (R:Value→Heap→Prop) (h:Heap):Prop:=
 av Tryz.prog (convert 45 9 (.slice a_0.ptr a_0.len a_0.cap)) (.one (.sc .str)) h fun v1 h1=>
 av Tryz.prog (convert 45 9 (.slice b_1.ptr b_1.len b_1.cap)) (.one (.sc .str)) h1 fun v2 h2=>
 R (.bool (v1.toList==v2.toList)) h2
theorem xY (a_0:Sl) (b_1:Sl) {R:Value→Heap→Prop} {h:Heap} (hm:rP a_0 b_1 R h):ab Tryz.prog 69 #[(.slice a_0.ptr a_0.len a_0.cap),(.slice b_1.ptr b_1.len b_1.cap)] h R:=al ag Tryz.func69 .n hm
abbrev tV:FuncId:=70
noncomputable def jC (s_0:Option Addr) (R:Value→Heap→Prop) (h:Heap):Prop:=
 Br (Option.isNone s_0) (R (.bool true) h) (af Tryz.prog 43 #[(.pointer s_0)] (.one (.sc .bool)) h fun r1 h1=>
 R (.bool r1) h1)
theorem kV (s_0:Option Addr) {R:Value→Heap→Prop} {h:Heap} (hm:jC s_0 R h):ab Tryz.prog 70 #[(.pointer s_0)] h R:=al ag Tryz.func70 .n hm
abbrev CY:FuncId:=72
noncomputable def vL (m_0:Int×Int×Int×Int×Int×Int×Sl×Sl) (R:Value→Heap→Prop) (h:Heap):Prop:=
 aM Tryz.prog (Instr.box 50 (.agg #[(.int .i64 m_0.1),(.int .i64 m_0.2.1),(.int .i64 m_0.2.2.1),(.int .i64 m_0.2.2.2.1),(.int .i64 m_0.2.2.2.2.1),(.int .i64 m_0.2.2.2.2.2.1),(.slice m_0.2.2.2.2.2.2.1.ptr m_0.2.2.2.2.2.2.1.len m_0.2.2.2.2.2.2.1.cap),(.slice m_0.2.2.2.2.2.2.2.ptr m_0.2.2.2.2.2.2.2.len m_0.2.2.2.2.2.2.2.cap)])) h fun a1 h1=>
 ∃x2:Int×Int×Int×Int×Int×Int×Sl×Sl,ai h1 a1 0 [(.int .i64 x2.1),(.int .i64 x2.2.1),(.int .i64 x2.2.2.1),(.int .i64 x2.2.2.2.1),(.int .i64 x2.2.2.2.2.1),(.int .i64 x2.2.2.2.2.2.1),(.slice x2.2.2.2.2.2.2.1.ptr x2.2.2.2.2.2.2.1.len x2.2.2.2.2.2.2.1.cap),(.slice x2.2.2.2.2.2.2.2.ptr x2.2.2.2.2.2.2.2.len x2.2.2.2.2.2.2.2.cap)]∧
 af Tryz.prog 18 #[(.agg #[(.int .i64 x2.1),(.int .i64 x2.2.1),(.int .i64 x2.2.2.1),(.int .i64 x2.2.2.2.1),(.int .i64 x2.2.2.2.2.1),(.int .i64 x2.2.2.2.2.2.1),(.slice x2.2.2.2.2.2.2.1.ptr x2.2.2.2.2.2.2.1.len x2.2.2.2.2.2.2.1.cap),(.slice x2.2.2.2.2.2.2.2.ptr x2.2.2.2.2.2.2.2.len x2.2.2.2.2.2.2.2.cap)])] (.one (.sc .bool)) h1 fun r3 h2=>
 Br (!r3)
 (R (.slice none 0 0) h2)
 (aW (σ:=Sl) (fun s8 h5=>
 ∃x9:Int,cellOf h5 (a1.add 2)=some (.int .i64 x9)∧
 ∃x10:Int,cellOf h5 ((a1.add 2).add 1)=some (.int .i64 x10)∧
 ∃x11:Int,cellOf h5 ((a1.add 2).add 2)=some (.int .i64 x11)∧
 ∃x12:Int,cellOf h5 (a1.add 5)=some (.int .i64 x12)∧
 ∃x13:Sl,cellOf h5 (a1.add 6)=some (.slice x13.ptr x13.len x13.cap)∧
 av Tryz.prog (Instr.buildSlice 45 5 #[(0,(.int .u8 (IntKind.wrap .u8 x9))),(1,(.int .u8 (IntKind.wrap .u8 x10))),(2,(.int .u8 (IntKind.wrap .u8 x11))),(3,(.int .u8 (IntKind.wrap .u8 x12))),(4,(.int .u8 (IntKind.wrap .u8 ((x13.len:Nat):Int))))]) (.one (.sc .slc)) h5 fun v14 h6=>
 av Tryz.prog (Builtin.append_ #[45,45] 45 #[(.slice s8.ptr s8.len s8.cap),(.slice v14.ptr v14.len v14.cap)]) (.one (.sc .slc)) h6 fun v15 h7=>
 ∃x16:Sl,cellOf h7 (a1.add 6)=some (.slice x16.ptr x16.len x16.cap)∧
 aK (σ:=Sl×Int) (fun s17 K2 h8=>
 Br (decide (s17.2<((x16.len:Nat):Int)))
 (∃a18:Addr,(x16.ptr=some a18∧0≤s17.2∧s17.2<((x16.len:Nat):Int))∧
 ∃x19:Int,cellOf h8 (a18.add (s17.2.toNat*1))=some (.int .i64 x19)∧
 av Tryz.prog (Instr.buildSlice 45 1 #[(0,(.int .u8 (IntKind.wrap .u8 x19)))]) (.one (.sc .slc)) h8 fun v20 h9=>
 av Tryz.prog (Builtin.append_ #[45,45] 45 #[(.slice s17.1.ptr s17.1.len s17.1.cap),(.slice v20.ptr v20.len v20.cap)]) (.one (.sc .slc)) h9 fun v21 h10=>
 K2 ((⟨v21.ptr,v21.len,v21.cap⟩:Sl),IntKind.wrap .i64 (s17.2+(1:Int))) h10)
 (∃x22:Sl,cellOf h8 (a1.add 7)=some (.slice x22.ptr x22.len x22.cap)∧
 av Tryz.prog (Instr.buildSlice 45 1 #[(0,(.int .u8 (IntKind.wrap .u8 ((x22.len:Nat):Int))))]) (.one (.sc .slc)) h8 fun v23 h11=>
 av Tryz.prog (Builtin.append_ #[45,45] 45 #[(.slice s17.1.ptr s17.1.len s17.1.cap),(.slice v23.ptr v23.len v23.cap)]) (.one (.sc .slc)) h11 fun v24 h12=>
 ∃x25:Sl,cellOf h12 (a1.add 7)=some (.slice x25.ptr x25.len x25.cap)∧
 aK (σ:=Sl×Int) (fun s26 K3 h13=>
 Br (decide (s26.2<((x25.len:Nat):Int)))
 (∃a27:Addr,(x25.ptr=some a27∧0≤s26.2∧s26.2<((x25.len:Nat):Int))∧
 ∃x28:ByteArray×Int×Int×Sl,ai h13 (a27.add (s26.2.toNat*4)) 0 [(.string x28.1),(.int .i64 x28.2.1),(.int .i64 x28.2.2.1),(.slice x28.2.2.2.ptr x28.2.2.2.len x28.2.2.2.cap)]∧
 aM Tryz.prog (Instr.alloc 54 true (.tuple #[])) h13 fun a29 h14=>
 ae Tryz.prog (Instr.storeAt 54 (.pointer (some a29)) (.agg #[(.string x28.1),(.int .i64 x28.2.1),(.int .i64 x28.2.2.1),(.slice x28.2.2.2.ptr x28.2.2.2.len x28.2.2.2.cap)])) h14 fun _ h15=>
 aW (σ:=Sl) (fun s35 h19=>
 aW (σ:=Sl) (fun s40 h22=>
 ∃x41:Sl,cellOf h22 (a29.add 3)=some (.slice x41.ptr x41.len x41.cap)∧
 aK (σ:=Sl×Int) (fun s42 K6 h23=>
 Br (decide (s42.2<((x41.len:Nat):Int)))
 (∃a43:Addr,(x41.ptr=some a43∧0≤s42.2∧s42.2<((x41.len:Nat):Int))∧
 ∃x44:Int,cellOf h23 (a43.add (s42.2.toNat*1))=some (.int .i64 x44)∧
 av Tryz.prog (Instr.buildSlice 45 1 #[(0,(.int .u8 (IntKind.wrap .u8 x44)))]) (.one (.sc .slc)) h23 fun v45 h24=>
 av Tryz.prog (Builtin.append_ #[45,45] 45 #[(.slice s42.1.ptr s42.1.len s42.1.cap),(.slice v45.ptr v45.len v45.cap)]) (.one (.sc .slc)) h24 fun v46 h25=>
 K6 ((⟨v46.ptr,v46.len,v46.cap⟩:Sl),IntKind.wrap .i64 (s42.2+(1:Int))) h25)
 (K3 ((⟨s42.1.ptr,s42.1.len,s42.1.cap⟩:Sl),IntKind.wrap .i64 (s26.2+(1:Int))) h23)) ((⟨s40.ptr,s40.len,s40.cap⟩:Sl),(0:Int)) h22)
 (fun K5=>
 ∃x36:Int,cellOf h19 (a29.add 1)=some (.int .i64 x36)∧
 ∃x37:Int,cellOf h19 (a29.add 2)=some (.int .i64 x37)∧
 af Tryz.prog 113 #[(.slice s35.ptr s35.len s35.cap),(.int .i64 x36),(.int .i64 (3:Int))] (.one (.sc .slc)) h19 fun r38 h20=>
 (aw.ok [(a29.add 2,(.int .i64 x37))] h20)∧
 af Tryz.prog 113 #[(.slice r38.ptr r38.len r38.cap),(.int .i64 x37),(.int .i64 (2:Int))] (.one (.sc .slc)) h20 fun r39 h21=>
 (aw.ok [] h21)∧
 K5 (⟨r39.ptr,r39.len,r39.cap⟩:Sl) h21))
 (fun K4=>
 ∃x30:ByteArray,cellOf h15 a29=some (.string x30)∧
 ∃x31:ByteArray,cellOf h15 a29=some (.string x31)∧
 av Tryz.prog (Instr.buildSlice 45 1 #[(0,(.int .u8 (IntKind.wrap .u8 ((x30.size:Nat):Int))))]) (.one (.sc .slc)) h15 fun v32 h16=>
 (aw.ok [(a29,(.string x31)),(a29,(.string x30))] h16)∧
 av Tryz.prog (Builtin.append_ #[45,45] 45 #[(.slice s26.1.ptr s26.1.len s26.1.cap),(.slice v32.ptr v32.len v32.cap)]) (.one (.sc .slc)) h16 fun v33 h17=>
 (aw.ok [(a29,(.string x31)),(a29,(.string x30))] h17)∧
 av Tryz.prog (Builtin.append_ #[45,9] 45 #[(.slice v33.ptr v33.len v33.cap),(.string x31)]) (.one (.sc .slc)) h17 fun v34 h18=>
 (aw.ok [(a29,(.string x30))] h18)∧
 K4 (⟨v34.ptr,v34.len,v34.cap⟩:Sl) h18))
 (R (.slice s26.1.ptr s26.1.len s26.1.cap) h13)) ((⟨v24.ptr,v24.len,v24.cap⟩:Sl),(0:Int)) h12)) ((⟨v15.ptr,v15.len,v15.cap⟩:Sl),(0:Int)) h7)
 (fun K1=>
 ∃x4:Int,cellOf h2 a1=some (.int .i64 x4)∧
 ∃x5:Int,cellOf h2 (a1.add 1)=some (.int .i64 x5)∧
 af Tryz.prog 113 #[(.slice none 0 0),(.int .i64 x4),(.int .i64 (4:Int))] (.one (.sc .slc)) h2 fun r6 h3=>
 (aw.ok [(a1.add 1,(.int .i64 x5))] h3)∧
 af Tryz.prog 113 #[(.slice r6.ptr r6.len r6.cap),(.int .i64 x5),(.int .i64 (4:Int))] (.one (.sc .slc)) h3 fun r7 h4=>
 (aw.ok [] h4)∧
 K1 (⟨r7.ptr,r7.len,r7.cap⟩:Sl) h4))
theorem Bp (m_0:Int×Int×Int×Int×Int×Int×Sl×Sl) {R:Value→Heap→Prop} {h:Heap} (hm:vL m_0 R h):ab Tryz.prog 72 #[(.agg #[(.int .i64 m_0.1),(.int .i64 m_0.2.1),(.int .i64 m_0.2.2.1),(.int .i64 m_0.2.2.2.1),(.int .i64 m_0.2.2.2.2.1),(.int .i64 m_0.2.2.2.2.2.1),(.slice m_0.2.2.2.2.2.2.1.ptr m_0.2.2.2.2.2.2.1.len m_0.2.2.2.2.2.2.1.cap),(.slice m_0.2.2.2.2.2.2.2.ptr m_0.2.2.2.2.2.2.2.len m_0.2.2.2.2.2.2.2.cap)])] h R:=al ag Tryz.func72 (.two .n (.two .n (.two (.join [(3,(.sc .slc))] [(3,4),(13,19)] .n) (.two .n (.two (.two .n (.inn (.loop [(3,(.sc .slc)),(44,(.sc (.int .i64)))] [(3,4),(5,6),(44,54)] .n))) (.two .n (.two (.two .n (.inn (.loop [(3,(.sc .slc)),(64,(.sc (.int .i64)))] [(3,4),(7,8),(9,10),(64,99)] (.two .n (.two .n (.two (.inn (.two .n (.two (.join [(3,(.sc .slc))] [(3,4),(68,78)] .n) (.two (.join [(3,(.sc .slc))] [(3,4),(78,85)] .n) (.two .n (.inn (.loop [(3,(.sc .slc)),(88,(.sc (.int .i64)))] [(3,4),(9,10),(88,98)] .n))))))) .n)))))) .n))))))) hm
abbrev Et:FuncId:=73
noncomputable def xZ (seq_0:Int) (number_1:Int) (many_2:Int) (b_3:Sl) (R:Value→Heap→Prop) (h:Heap):Prop:=
 (0≤(24:Int))∧
 (0≤(16:Int))∧
 (0≤(8:Int))∧
 av Tryz.prog (Instr.buildSlice 45 7 #[(0,(.int .u8 (IntKind.wrap .u8 (Int.fdiv seq_0 (2^min (24:Int).toNat (IntKind.bits .i64)))))),(1,(.int .u8 (IntKind.wrap .u8 (Int.fdiv seq_0 (2^min (16:Int).toNat (IntKind.bits .i64)))))),(2,(.int .u8 (IntKind.wrap .u8 (Int.fdiv seq_0 (2^min (8:Int).toNat (IntKind.bits .i64)))))),(3,(.int .u8 (IntKind.wrap .u8 seq_0))),(4,(.int .u8 (IntKind.wrap .u8 number_1))),(5,(.int .u8 (IntKind.wrap .u8 many_2))),(6,(.int .u8 (IntKind.wrap .u8 ((b_3.len:Nat):Int))))]) (.one (.sc .slc)) h fun v1 h1=>
 av Tryz.prog (Builtin.append_ #[45,45] 45 #[(.slice v1.ptr v1.len v1.cap),(.slice b_3.ptr b_3.len b_3.cap)]) (.one (.sc .slc)) h1 fun v2 h2=>
 af Tryz.prog 114 #[(.int .i64 (2:Int)),(.slice v2.ptr v2.len v2.cap)] (.one (.sc .slc)) h2 fun r3 h3=>
 R (.slice r3.ptr r3.len r3.cap) h3
theorem CZ (seq_0:Int) (number_1:Int) (many_2:Int) (b_3:Sl) {R:Value→Heap→Prop} {h:Heap} (hm:xZ seq_0 number_1 many_2 b_3 R h):ab Tryz.prog 73 #[(.int .i64 seq_0),(.int .i64 number_1),(.int .i64 many_2),(.slice b_3.ptr b_3.len b_3.cap)] h R:=al ag Tryz.func73 .n hm
abbrev kg:FuncId:=74
noncomputable def ij (d_0:Option Addr) (b_1:Sl) (R:Value→Heap→Prop) (h:Heap):Prop:=
 aW (σ:=Unit) (fun _ h3=>
 aW (σ:=Unit) (fun _ h8=>
 ∃a19:Addr,(d_0=some a19)∧
 ∃x20:Int,cellOf h8 (a19.add 3)=some (.int .i64 x20)∧
 ∃a21:Addr,(d_0=some a21)∧
 ae Tryz.prog (Instr.storeAt 3 (.pointer (some (a21.add 3))) (.int .i64 (IntKind.wrap .i64 (x20+(1:Int))))) h8 fun _ h9=>
 ∃a22:Addr,(d_0=some a22)∧
 ∃x23:Option Addr,cellOf h9 a22=some (.pointer x23)∧
 af Tryz.prog 116 #[(.pointer x23)] (.one (.sc .bool)) h9 fun r24 h10=>
 Br (!r24)
 (R (.int .i64 (14:Int)) h10)
 (af Tryz.prog 117 #[(.pointer d_0)] (.one (.sc (.int .i64))) h10 fun r25 h11=>
 R (.int .i64 r25) h11))
 (fun K3=>
 ∃a12:Addr,(d_0=some a12)∧
 ∃x13:Sl,cellOf h3 (a12.add 2)=some (.slice x13.ptr x13.len x13.cap)∧
 af Tryz.prog 115 #[(.slice b_1.ptr b_1.len b_1.cap)] (.one (.sc .slc)) h3 fun r14 h4=>
 (aw.ok [(a12.add 2,(.slice x13.ptr x13.len x13.cap))] h4)∧
 av Tryz.prog (Instr.buildSlice 78 1 #[(0,(.slice r14.ptr r14.len r14.cap))]) (.one (.sc .slc)) h4 fun v15 h5=>
 (aw.ok [(a12.add 2,(.slice x13.ptr x13.len x13.cap))] h5)∧
 av Tryz.prog (Builtin.append_ #[78,78] 78 #[(.slice x13.ptr x13.len x13.cap),(.slice v15.ptr v15.len v15.cap)]) (.one (.sc .slc)) h5 fun v16 h6=>
 (aw.ok [] h6)∧
 ∃a17:Addr,(d_0=some a17)∧
 ae Tryz.prog (Instr.storeAt 78 (.pointer (some (a17.add 2))) (.slice v16.ptr v16.len v16.cap)) h6 fun _ h7=>
 (aw.ok [] h7)∧
 K3 () h7))
 (fun K1=>
 Br (((b_1.len:Nat):Int) !=(64:Int))
 (R (.int .i64 (1:Int)) h)
 (aW (σ:=Bool) (fun s3 h1=>
 Br s3
 (R (.int .i64 (5:Int)) h1)
 (∃a4:Addr,(d_0=some a4)∧
 ∃x5:Sl,cellOf h1 (a4.add 2)=some (.slice x5.ptr x5.len x5.cap)∧
 ∃a6:Addr,(d_0=some a6)∧
 ∃x7:Int,cellOf h1 (a6.add 1)=some (.int .i64 x7)∧
 Br (decide (((x5.len:Nat):Int)≥x7))
 (R (.int .i64 (7:Int)) h1)
 (∃a8:Addr,(d_0=some a8)∧
 ∃x9:Option Addr,cellOf h1 a8=some (.pointer x9)∧
 af Tryz.prog 29 #[(.pointer x9)] (.one (.sc .bool)) h1 fun r10 h2=>
 Br (!r10)
 (R (.int .i64 (14:Int)) h2)
 (K1 () h2))))
 (fun K2=>
 Br (Option.isNone d_0) (K2 true h) (∃a1:Addr,(d_0=some a1)∧
 ∃x2:Bool,cellOf h (a1.add 6)=some (.bool x2)∧
 K2 x2 h))))
theorem jR (d_0:Option Addr) (b_1:Sl) {R:Value→Heap→Prop} {h:Heap} (hm:ij d_0 b_1 R h):ab Tryz.prog 74 #[(.pointer d_0),(.slice b_1.ptr b_1.len b_1.cap)] h R:=al ag Tryz.func74 (.two .n (.two (.join [] [(4,36)] (.inn (.two .n (.two .n (.two (.join [(9,(.sc .bool))] [(9,18)] .n) .n))))) (.two (.join [] [(36,47)] .n) .n))) hm
abbrev Eu:FuncId:=75
noncomputable def ya (at_0:FuncId×Array Value×Array Value) (slots_1:Sl) (R:Value→Heap→Prop) (h:Heap):Prop:=
 af Tryz.prog 103 #[(.slice slots_1.ptr slots_1.len slots_1.cap)] (.one (.sc .slc)) h fun r1 h1=>
 af Tryz.prog 118 #[(.slice r1.ptr r1.len r1.cap)] (.many []) h1 fun _ h2=>
 af Tryz.prog 119 #[(.slice r1.ptr r1.len r1.cap)] (.one (.sc .slc)) h2 fun r3 h3=>
 aK (σ:=Int) (fun s4 K1 h4=>
 Br (decide (s4<((r3.len:Nat):Int)))
 (∃a5:Addr,(r3.ptr=some a5∧0≤s4∧s4<((r3.len:Nat):Int))∧
 ∃x6:Int,cellOf h4 (a5.add (s4.toNat*1))=some (.int .i64 x6)∧
 gv C at_0.1 (at_0.2.1.toList++[(.int .i64 x6)]++at_0.2.2.toList) (.one (.sc .ptr)) h4 fun r7 h5=>
 af Tryz.prog 120 #[(.pointer r7)] (.one (.sc (.int .i64))) h5 fun r8 h6=>
 Br (r8 !=(0:Int))
 (R (.int .i64 r8) h6)
 (K1 (IntKind.wrap .i64 (s4+(1:Int))) h6))
 (R (.int .i64 (0:Int)) h4)) (0:Int) h3
theorem C0 (at_0:FuncId×Array Value×Array Value) (slots_1:Sl) {R:Value→Heap→Prop} {h:Heap} (hm:ya at_0 slots_1 R h):ab Tryz.prog 75 #[(.func (.func at_0.1) at_0.2.1 at_0.2.2),(.slice slots_1.ptr slots_1.len slots_1.cap)] h R:=al ag Tryz.func75 (.two .n (.two .n (.two .n (.two (.two .n (.inn (.loop [(15,(.sc (.int .i64)))] [(4,5),(6,8),(15,27)] .n))) .n)))) hm
abbrev tW:FuncId:=82
noncomputable def mC (d_0:Option Addr) (R:Value→Heap→Prop) (h:Heap):Prop:=
 Br (Option.isNone d_0)
 (R (.int .i64 (0:Int)) h)
 (∃a1:Addr,(d_0=some a1)∧
 ∃x2:Sl,cellOf h (a1.add 2)=some (.slice x2.ptr x2.len x2.cap)∧
 R (.int .i64 ((x2.len:Nat):Int)) h)
theorem sw (d_0:Option Addr) {R:Value→Heap→Prop} {h:Heap} (hm:mC d_0 R h):ab Tryz.prog 82 #[(.pointer d_0)] h R:=al ag Tryz.func82 .n hm
abbrev sA:FuncId:=84
noncomputable def l5 (d_0:Option Addr) (R:Value→Heap→Prop) (h:Heap):Prop:=
 Br (Option.isNone d_0)
 (R (.int .i64 (0:Int)) h)
 (∃a1:Addr,(d_0=some a1)∧
 ∃x2:Int,cellOf h (a1.add 1)=some (.int .i64 x2)∧
 R (.int .i64 x2) h)
theorem rf (d_0:Option Addr) {R:Value→Heap→Prop} {h:Heap} (hm:l5 d_0 R h):ab Tryz.prog 84 #[(.pointer d_0)] h R:=al ag Tryz.func84 .n hm
abbrev sB:FuncId:=85
noncomputable def l6 (d_0:Option Addr) (R:Value→Heap→Prop) (h:Heap):Prop:=
 Br (!(Option.isNone d_0)) (∃a1:Addr,(d_0=some a1)∧
 ∃x2:Bool,cellOf h (a1.add 6)=some (.bool x2)∧
 R (.bool x2) h) (R (.bool false) h)
theorem rh (d_0:Option Addr) {R:Value→Heap→Prop} {h:Heap} (hm:l6 d_0 R h):ab Tryz.prog 85 #[(.pointer d_0)] h R:=al ag Tryz.func85 .n hm
abbrev C1:FuncId:=86
noncomputable def vM (s_0:ByteArray) (R:Value→Heap→Prop) (h:Heap):Prop:=
 av Tryz.prog (convert 9 45 (.string s_0)) (.one (.sc .slc)) h fun v1 h1=>
 aK (σ:=Int) (fun s2 K1 h2=>
 Br (decide (s2<((v1.len:Nat):Int)))
 (∃a3:Addr,(v1.ptr=some a3∧0≤s2∧s2<((v1.len:Nat):Int))∧
 ∃x4:Int,cellOf h2 (a3.add (s2.toNat*1))=some (.int .u8 x4)∧
 Br (decide (x4<(97:Int))) (Br (decide (x4<(48:Int))) (Br (x4 !=(45:Int))
 (R (.bool false) h2)
 (K1 (IntKind.wrap .i64 (s2+(1:Int))) h2)) (Br (decide (x4>(57:Int))) (Br (x4 !=(45:Int))
 (R (.bool false) h2)
 (K1 (IntKind.wrap .i64 (s2+(1:Int))) h2)) (K1 (IntKind.wrap .i64 (s2+(1:Int))) h2))) (Br (decide (x4>(122:Int))) (Br (decide (x4<(48:Int))) (Br (x4 !=(45:Int))
 (R (.bool false) h2)
 (K1 (IntKind.wrap .i64 (s2+(1:Int))) h2)) (Br (decide (x4>(57:Int))) (Br (x4 !=(45:Int))
 (R (.bool false) h2)
 (K1 (IntKind.wrap .i64 (s2+(1:Int))) h2)) (K1 (IntKind.wrap .i64 (s2+(1:Int))) h2))) (K1 (IntKind.wrap .i64 (s2+(1:Int))) h2)))
 (Br (decide (((s_0.size:Nat):Int)≥(1:Int))) (R (.bool (decide (((s_0.size:Nat):Int)≤(12:Int)))) h2) (R (.bool false) h2))) (0:Int) h1
theorem Bq (s_0:ByteArray) {R:Value→Heap→Prop} {h:Heap} (hm:vM s_0 R h):ab Tryz.prog 86 #[(.string s_0)] h R:=al ag Tryz.func86 (.two .n (.two (.two .n (.inn (.loop [(8,(.sc (.int .i64)))] [(2,3),(4,5),(8,31)] .n))) .n)) hm
abbrev sC:FuncId:=87
noncomputable def l7 (s_0:Option Addr) (name_1:ByteArray) (R:Value→Heap→Prop) (h:Heap):Prop:=
 aM Tryz.prog (Instr.box 9 (.string name_1)) h fun a1 h1=>
 ∃a2:Addr,(s_0=some a2)∧
 ∃x3:Sl,cellOf h1 (a2.add 7)=some (.slice x3.ptr x3.len x3.cap)∧
 af Tryz.prog 106 #[(.slice x3.ptr x3.len x3.cap),(.func (.func 127) #[] #[(.pointer (some a1))])] (.one (.sc (.int .i64))) h1 fun r4 h2=>
 R (.int .i64 r4) h2
theorem ri (s_0:Option Addr) (name_1:ByteArray) {R:Value→Heap→Prop} {h:Heap} (hm:l7 s_0 name_1 R h):ab Tryz.prog 87 #[(.pointer s_0),(.string name_1)] h R:=al ag Tryz.func87 .n hm
end Go.Proofs.YtdoiokchdaoonaaGreat
