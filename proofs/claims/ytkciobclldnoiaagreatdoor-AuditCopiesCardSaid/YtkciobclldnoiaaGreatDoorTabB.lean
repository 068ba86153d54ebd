/- Part of the proofs that the laws of this seat answer true whatever the input reads, and leave it as it was; no condition. -/
import Derived.Test.YtkciobclldnoiaaGreatDoorTabA
set_option linter.unusedVariables false
set_option linter.unusedSimpArgs false
namespace Go.Proofs.YtkciobclldnoiaaGreatDoor
open Go Go.Vc Go.Proofs
set_option maxRecDepth 1000000
abbrev A5:FuncId:=35
noncomputable def uq (m_0:Int×Int×Int×Int×Int×Int×Sl×Sl) (R:Value→Heap→Prop) (h:Heap):Prop:=
 aU Tryz.prog (Instr.box 41 (.agg #[(.int .i64 m_0.1),(.int .i64 m_0.2.1),(.int .i64 m_0.2.2.1),(.int .i64 m_0.2.2.2.1),(.int .i64 m_0.2.2.2.2.1),(.int .i64 m_0.2.2.2.2.2.1),(.slice m_0.2.2.2.2.2.2.1.ptr m_0.2.2.2.2.2.2.1.len m_0.2.2.2.2.2.2.1.cap),(.slice m_0.2.2.2.2.2.2.2.ptr m_0.2.2.2.2.2.2.2.len m_0.2.2.2.2.2.2.2.cap)])) h fun a1 h1=>
 ba (σ:=Unit) (fun _ h6=>
 ba (σ:=Unit) (fun _ h8=>
 ∃x15:Sl,cellOf h8 (a1.add 7)=some (.slice x15.ptr x15.len x15.cap)∧
 aH (σ:=Int) (fun s16 K3 h9=>
 Br (decide (s16<((x15.len:Nat):Int)))
 (∃a17:Addr,(x15.ptr=some a17∧0≤s16∧s16<((x15.len:Nat):Int))∧
 ∃x18:ByteArray×Int×Int×Sl,ak h9 (a17.add (s16.toNat*4)) 0 [(.string x18.1),(.int .i64 x18.2.1),(.int .i64 x18.2.2.1),(.slice x18.2.2.2.ptr x18.2.2.2.len x18.2.2.2.cap)]∧
 aU Tryz.prog (Instr.alloc 87 true (.tuple #[])) h9 fun a19 h10=>
 ab Tryz.prog (Instr.storeAt 87 (.pointer (some a19)) (.agg #[(.string x18.1),(.int .i64 x18.2.1),(.int .i64 x18.2.2.1),(.slice x18.2.2.2.ptr x18.2.2.2.len x18.2.2.2.cap)])) h10 fun _ h11=>
 ba (σ:=Unit) (fun _ h13=>
 ∃x28:Sl,cellOf h13 (a1.add 7)=some (.slice x28.ptr x28.len x28.cap)∧
 (0≤s16∧s16≤((x28.cap:Nat):Int))∧
 af Tryz.prog 76 #[(.slice x28.ptr s16.toNat x28.cap),(.func (.func 77) #[] #[(.pointer (some a19))])] (.one (.sc .bool)) h13 fun r29 h14=>
 Br r29
 (R (.bool false) h14)
 (K3 (IntKind.wrap .i64 (s16+(1:Int))) h14))
 (fun K4=>
 ∃x20:Int×Int×Int×Int×Int×Int×Sl×Sl,ak h11 a1 0 [(.int .i64 x20.1),(.int .i64 x20.2.1),(.int .i64 x20.2.2.1),(.int .i64 x20.2.2.2.1),(.int .i64 x20.2.2.2.2.1),(.int .i64 x20.2.2.2.2.2.1),(.slice x20.2.2.2.2.2.2.1.ptr x20.2.2.2.2.2.2.1.len x20.2.2.2.2.2.2.1.cap),(.slice x20.2.2.2.2.2.2.2.ptr x20.2.2.2.2.2.2.2.len x20.2.2.2.2.2.2.2.cap)]∧
 ∃x21:ByteArray×Int×Int×Sl,ak h11 a19 0 [(.string x21.1),(.int .i64 x21.2.1),(.int .i64 x21.2.2.1),(.slice x21.2.2.2.ptr x21.2.2.2.len x21.2.2.2.cap)]∧
 af Tryz.prog 75 #[(.agg #[(.int .i64 x20.1),(.int .i64 x20.2.1),(.int .i64 x20.2.2.1),(.int .i64 x20.2.2.2.1),(.int .i64 x20.2.2.2.2.1),(.int .i64 x20.2.2.2.2.2.1),(.slice x20.2.2.2.2.2.2.1.ptr x20.2.2.2.2.2.2.1.len x20.2.2.2.2.2.2.1.cap),(.slice x20.2.2.2.2.2.2.2.ptr x20.2.2.2.2.2.2.2.len x20.2.2.2.2.2.2.2.cap)]),(.agg #[(.string x21.1),(.int .i64 x21.2.1),(.int .i64 x21.2.2.1),(.slice x21.2.2.2.ptr x21.2.2.2.len x21.2.2.2.cap)])] (.one (.sc .bool)) h11 fun r22 h12=>
 (aE.ok [] h12)∧
 Br (!r22) (R (.bool false) h12) (Br (decide (s16>(0:Int))) (∃x23:Sl,cellOf h12 (a1.add 7)=some (.slice x23.ptr x23.len x23.cap)∧
 ∃a24:Addr,(x23.ptr=some a24∧0≤(IntKind.wrap .i64 (s16-(1:Int)))∧(IntKind.wrap .i64 (s16-(1:Int)))<((x23.len:Nat):Int))∧
 ∃x25:ByteArray,cellOf h12 (a24.add ((IntKind.wrap .i64 (s16-(1:Int))).toNat*4))=some (.string x25)∧
 ∃x26:ByteArray,cellOf h12 a19=some (.string x26)∧
 Br (!(Op.bytesLess x25.toList x26.toList))
 (R (.bool false) h12)
 (K4 () h12)) (K4 () h12))))
 (R (.bool true) h9)) (0:Int) h8)
 (fun K2=>
 ∃x11:Sl,cellOf h6 (a1.add 6)=some (.slice x11.ptr x11.len x11.cap)∧
 af Tryz.prog 74 #[(.slice x11.ptr x11.len x11.cap),(.int .i64 (63:Int))] (.one (.sc .bool)) h6 fun r12 h7=>
 Br (!r12) (R (.bool false) h7) (∃x13:Sl,cellOf h7 (a1.add 7)=some (.slice x13.ptr x13.len x13.cap)∧
 Br (decide (((x13.len:Nat):Int)>(12:Int)))
 (R (.bool false) h7)
 (K2 () h7))))
 (fun K1=>
 ∃x2:Int,cellOf h1 a1=some (.int .i64 x2)∧
 af Tryz.prog 73 #[(.int .i64 x2),(.int .i64 (1:Int)),(.int .i64 (2147483647:Int))] (.one (.sc .bool)) h1 fun r3 h2=>
 Br (!r3) (R (.bool false) h2) (∃x4:Int,cellOf h2 (a1.add 1)=some (.int .i64 x4)∧
 af Tryz.prog 73 #[(.int .i64 x4),(.int .i64 (0:Int)),(.int .i64 (16777216:Int))] (.one (.sc .bool)) h2 fun r5 h3=>
 Br (!r5) (R (.bool false) h3) (∃x6:Int×Int×Int,ak h3 (a1.add 2) 0 [(.int .i64 x6.1),(.int .i64 x6.2.1),(.int .i64 x6.2.2)]∧
 af Tryz.prog 29 #[(.agg #[(.int .i64 x6.1),(.int .i64 x6.2.1),(.int .i64 x6.2.2)])] (.one (.sc .bool)) h3 fun r7 h4=>
 Br (!r7) (R (.bool false) h4) (∃x8:Int,cellOf h4 (a1.add 5)=some (.int .i64 x8)∧
 af Tryz.prog 73 #[(.int .i64 x8),(.int .i64 (0:Int)),(.int .i64 (16:Int))] (.one (.sc .bool)) h4 fun r9 h5=>
 Br (!r9)
 (R (.bool false) h5)
 (K1 () h5)))))
theorem zD (m_0:Int×Int×Int×Int×Int×Int×Sl×Sl) {R:Value→Heap→Prop} {h:Heap} (hm:uq m_0 R h):ae Tryz.prog 35 #[(.agg #[(.int .i64 m_0.1),(.int .i64 m_0.2.1),(.int .i64 m_0.2.2.1),(.int .i64 m_0.2.2.2.1),(.int .i64 m_0.2.2.2.2.1),(.int .i64 m_0.2.2.2.2.2.1),(.slice m_0.2.2.2.2.2.2.1.ptr m_0.2.2.2.2.2.2.1.len m_0.2.2.2.2.2.2.1.cap),(.slice m_0.2.2.2.2.2.2.2.ptr m_0.2.2.2.2.2.2.2.len m_0.2.2.2.2.2.2.2.cap)])] h R:=al ag Tryz.func35 (.two .n (.two (.join [] [(2,3),(5,27)] .n) (.two (.join [] [(2,3),(27,37)] .n) (.two (.two .n (.inn (.loop [(40,(.sc (.int .i64)))] [(2,5),(40,72)] (.two .n (.two .n (.two (.inn (.two .n (.two (.join [] [(2,3),(45,65)] .n) .n))) .n)))))) .n)))) hm
abbrev qi:FuncId:=36
noncomputable def kK (d_0:Option Addr) (R:Value→Heap→Prop) (h:Heap):Prop:=
 Br (Option.isNone d_0)
 (R (.slice none 0 0) h)
 (∃a1:Addr,(d_0=some a1)∧
 ∃x2:Sl,cellOf h (a1.add 2)=some (.slice x2.ptr x2.len x2.cap)∧
 af Tryz.prog 50 #[(.slice x2.ptr x2.len x2.cap)] (.one (.sc .slc)) h fun r3 h1=>
 R (.slice r3.ptr r3.len r3.cap) h1)
theorem ph (d_0:Option Addr) {R:Value→Heap→Prop} {h:Heap} (hm:kK d_0 R h):ae Tryz.prog 36 #[(.pointer d_0)] h R:=al ag Tryz.func36 .n hm
abbrev hY:FuncId:=37
noncomputable def ef (s_0:Sl) (f_1:FuncId×Array Value×Array Value) (R:Value→Heap→Prop) (h:Heap):Prop:=
 af Tryz.prog 78 #[(.slice s_0.ptr s_0.len s_0.cap),(.func (.func f_1.1) f_1.2.1 f_1.2.2)] (.one (.sc (.int .i64))) h fun r1 h1=>
 R (.bool (decide (r1≥(0:Int)))) h1
theorem gV (s_0:Sl) (f_1:FuncId×Array Value×Array Value) {R:Value→Heap→Prop} {h:Heap} (hm:ef s_0 f_1 R h):ae Tryz.prog 37 #[(.slice s_0.ptr s_0.len s_0.cap),(.func (.func f_1.1) f_1.2.1 f_1.2.2)] h R:=al ag Tryz.func37 .n hm
abbrev jt:FuncId:=38
noncomputable def np (c_0:Sl) (cap_1:Addr) (R:Value→Heap→Prop) (h:Heap):Prop:=
 ∃x1:Sl,cellOf h cap_1=some (.slice x1.ptr x1.len x1.cap)∧
 af Tryz.prog 39 #[(.slice c_0.ptr c_0.len c_0.cap),(.slice x1.ptr x1.len x1.cap)] (.one (.sc .bool)) h fun r2 h1=>
 R (.bool r2) h1
theorem ta (c_0:Sl) (cap_1:Addr) {R:Value→Heap→Prop} {h:Heap} (hm:np c_0 cap_1 R h):ae Tryz.prog 38 #[(.slice c_0.ptr c_0.len c_0.cap),(.pointer (some cap_1))] h R:=al ag Tryz.func38 .n hm
abbrev vW:FuncId:=39
noncomputable def oO (a_0:Sl) (b_1:Sl) (R:Value→Heap→Prop) (h:Heap):Prop:=
 aw Tryz.prog (convert 53 9 (.slice a_0.ptr a_0.len a_0.cap)) (.one (.sc .str)) h fun v1 h1=>
 aw Tryz.prog (convert 53 9 (.slice b_1.ptr b_1.len b_1.cap)) (.one (.sc .str)) h1 fun v2 h2=>
 R (.bool (v1.toList==v2.toList)) h2
theorem ur (a_0:Sl) (b_1:Sl) {R:Value→Heap→Prop} {h:Heap} (hm:oO a_0 b_1 R h):ae Tryz.prog 39 #[(.slice a_0.ptr a_0.len a_0.cap),(.slice b_1.ptr b_1.len b_1.cap)] h R:=al ag Tryz.func39 .n hm
abbrev rZ:FuncId:=40
noncomputable def uu (m_0:Int×Int×Int×Int×Int×Int×Sl×Sl) (R:Value→Heap→Prop) (h:Heap):Prop:=
 aU Tryz.prog (Instr.box 41 (.agg #[(.int .i64 m_0.1),(.int .i64 m_0.2.1),(.int .i64 m_0.2.2.1),(.int .i64 m_0.2.2.2.1),(.int .i64 m_0.2.2.2.2.1),(.int .i64 m_0.2.2.2.2.2.1),(.slice m_0.2.2.2.2.2.2.1.ptr m_0.2.2.2.2.2.2.1.len m_0.2.2.2.2.2.2.1.cap),(.slice m_0.2.2.2.2.2.2.2.ptr m_0.2.2.2.2.2.2.2.len m_0.2.2.2.2.2.2.2.cap)])) h fun a1 h1=>
 aU Tryz.prog (Instr.alloc 41 true (.tuple #[])) h1 fun a2 h2=>
 ba (σ:=Unit) (fun _ h7=>
 ∃x8:Sl,cellOf h7 (a1.add 7)=some (.slice x8.ptr x8.len x8.cap)∧
 aH (σ:=Int) (fun s9 K2 h8=>
 Br (decide (s9<((x8.len:Nat):Int)))
 (∃x10:Sl,cellOf h8 (a1.add 7)=some (.slice x10.ptr x10.len x10.cap)∧
 ∃x11:Sl,cellOf h8 (a1.add 7)=some (.slice x11.ptr x11.len x11.cap)∧
 ∃a12:Addr,(x11.ptr=some a12∧0≤s9∧s9<((x11.len:Nat):Int))∧
 ∃x13:Sl,cellOf h8 ((a12.add (s9.toNat*4)).add 3)=some (.slice x13.ptr x13.len x13.cap)∧
 af Tryz.prog 79 #[(.slice x13.ptr x13.len x13.cap)] (.one (.sc .slc)) h8 fun r14 h9=>
 (aE.ok [(a1.add 7,(.slice x11.ptr x11.len x11.cap)),(a1.add 7,(.slice x10.ptr x10.len x10.cap))] h9)∧
 ∃a15:Addr,(x10.ptr=some a15∧0≤s9∧s9<((x10.len:Nat):Int))∧
 ab Tryz.prog (Instr.storeAt 22 (.pointer (some ((a15.add (s9.toNat*4)).add 3))) (.slice r14.ptr r14.len r14.cap)) h9 fun _ h10=>
 (aE.ok [] h10)∧
 K2 (IntKind.wrap .i64 (s9+(1:Int))) h10)
 (∃x16:Int×Int×Int×Int×Int×Int×Sl×Sl,ak h8 a1 0 [(.int .i64 x16.1),(.int .i64 x16.2.1),(.int .i64 x16.2.2.1),(.int .i64 x16.2.2.2.1),(.int .i64 x16.2.2.2.2.1),(.int .i64 x16.2.2.2.2.2.1),(.slice x16.2.2.2.2.2.2.1.ptr x16.2.2.2.2.2.2.1.len x16.2.2.2.2.2.2.1.cap),(.slice x16.2.2.2.2.2.2.2.ptr x16.2.2.2.2.2.2.2.len x16.2.2.2.2.2.2.2.cap)]∧
 ab Tryz.prog (Instr.storeAt 41 (.pointer (some a2)) (.agg #[(.int .i64 x16.1),(.int .i64 x16.2.1),(.int .i64 x16.2.2.1),(.int .i64 x16.2.2.2.1),(.int .i64 x16.2.2.2.2.1),(.int .i64 x16.2.2.2.2.2.1),(.slice x16.2.2.2.2.2.2.1.ptr x16.2.2.2.2.2.2.1.len x16.2.2.2.2.2.2.1.cap),(.slice x16.2.2.2.2.2.2.2.ptr x16.2.2.2.2.2.2.2.len x16.2.2.2.2.2.2.2.cap)])) h8 fun _ h11=>
 ∃res17:Int×Int×Int×Int×Int×Int×Sl×Sl,ak h11 a2 0 [(.int .i64 res17.1),(.int .i64 res17.2.1),(.int .i64 res17.2.2.1),(.int .i64 res17.2.2.2.1),(.int .i64 res17.2.2.2.2.1),(.int .i64 res17.2.2.2.2.2.1),(.slice res17.2.2.2.2.2.2.1.ptr res17.2.2.2.2.2.2.1.len res17.2.2.2.2.2.2.1.cap),(.slice res17.2.2.2.2.2.2.2.ptr res17.2.2.2.2.2.2.2.len res17.2.2.2.2.2.2.2.cap)]∧
 R (.agg #[(.int .i64 res17.1),(.int .i64 res17.2.1),(.int .i64 res17.2.2.1),(.int .i64 res17.2.2.2.1),(.int .i64 res17.2.2.2.2.1),(.int .i64 res17.2.2.2.2.2.1),(.slice res17.2.2.2.2.2.2.1.ptr res17.2.2.2.2.2.2.1.len res17.2.2.2.2.2.2.1.cap),(.slice res17.2.2.2.2.2.2.2.ptr res17.2.2.2.2.2.2.2.len res17.2.2.2.2.2.2.2.cap)]) h11)) (0:Int) h7)
 (fun K1=>
 ∃x3:Sl,cellOf h2 (a1.add 6)=some (.slice x3.ptr x3.len x3.cap)∧
 ∃x4:Sl,cellOf h2 (a1.add 7)=some (.slice x4.ptr x4.len x4.cap)∧
 af Tryz.prog 79 #[(.slice x3.ptr x3.len x3.cap)] (.one (.sc .slc)) h2 fun r5 h3=>
 (aE.ok [(a1.add 7,(.slice x4.ptr x4.len x4.cap))] h3)∧
 af Tryz.prog 80 #[(.slice x4.ptr x4.len x4.cap)] (.one (.sc .slc)) h3 fun r6 h4=>
 (aE.ok [] h4)∧
 ab Tryz.prog (Instr.storeAt 22 (.pointer (some (a1.add 6))) (.slice r5.ptr r5.len r5.cap)) h4 fun _ h5=>
 (aE.ok [] h5)∧
 ab Tryz.prog (Instr.storeAt 39 (.pointer (some (a1.add 7))) (.slice r6.ptr r6.len r6.cap)) h5 fun _ h6=>
 (aE.ok [] h6)∧
 K1 () h6)
theorem zE (m_0:Int×Int×Int×Int×Int×Int×Sl×Sl) {R:Value→Heap→Prop} {h:Heap} (hm:uu m_0 R h):ae Tryz.prog 40 #[(.agg #[(.int .i64 m_0.1),(.int .i64 m_0.2.1),(.int .i64 m_0.2.2.1),(.int .i64 m_0.2.2.2.1),(.int .i64 m_0.2.2.2.2.1),(.int .i64 m_0.2.2.2.2.2.1),(.slice m_0.2.2.2.2.2.2.1.ptr m_0.2.2.2.2.2.2.1.len m_0.2.2.2.2.2.2.1.cap),(.slice m_0.2.2.2.2.2.2.2.ptr m_0.2.2.2.2.2.2.2.len m_0.2.2.2.2.2.2.2.cap)])] h R:=al ag Tryz.func40 (.two .n (.two (.join [] [(4,12)] .n) (.two (.two .n (.inn (.loop [(15,(.sc (.int .i64)))] [(3,4),(15,31)] .n))) .n))) hm
abbrev xP:FuncId:=41
noncomputable def qj (n_0:Int) (t_1:Int) (R:Value→Heap→Prop) (h:Heap):Prop:=
 af Tryz.prog 81 #[(.int .i64 n_0),(.int .i64 t_1)] (.one (.sc .bool)) h fun r1 h1=>
 Br (!r1)
 (R (.int .i64 (0:Int)) h1)
 (aH (σ:=Int×Int) (fun s2 K1 h2=>
 Br (decide (s2.2<(if(IntKind.wrap .i64 (n_0-t_1))<t_1 then IntKind.wrap .i64 (n_0-t_1)else t_1)))
 (((IntKind.wrap .i64 (s2.2+(1:Int)))≠0)∧
 Br (decide ((IntKind.wrap .i64 (Int.tdiv (IntKind.wrap .i64 (s2.1*(IntKind.wrap .i64 (n_0-s2.2)))) (IntKind.wrap .i64 (s2.2+(1:Int)))))>(4096:Int)))
 (R (.int .i64 (4097:Int)) h2)
 (K1 (IntKind.wrap .i64 (Int.tdiv (IntKind.wrap .i64 (s2.1*(IntKind.wrap .i64 (n_0-s2.2)))) (IntKind.wrap .i64 (s2.2+(1:Int)))),IntKind.wrap .i64 (s2.2+(1:Int))) h2))
 (R (.int .i64 s2.1) h2)) ((1:Int),(0:Int)) h1)
theorem vX (n_0:Int) (t_1:Int) {R:Value→Heap→Prop} {h:Heap} (hm:qj n_0 t_1 R h):ae Tryz.prog 41 #[(.int .i64 n_0),(.int .i64 t_1)] h R:=al ag Tryz.func41 (.two .n (.two .n (.two .n (.two (.two .n (.inn (.loop [(5,(.sc (.int .i64))),(16,(.sc (.int .i64)))] [(4,7),(16,30)] .n))) .n)))) hm
abbrev vY:FuncId:=42
noncomputable def oP (p_0:Int×Int×Int) (seed_1:Int) (where_2:Sl) (t_3:Int) (R:Value→Heap→Prop) (h:Heap):Prop:=
 aU Tryz.prog (Instr.box 24 (.agg #[(.int .i64 p_0.1),(.int .i64 p_0.2.1),(.int .i64 p_0.2.2)])) h fun a1 h1=>
 ∃x2:Int×Int×Int,ak h1 a1 0 [(.int .i64 x2.1),(.int .i64 x2.2.1),(.int .i64 x2.2.2)]∧
 af Tryz.prog 29 #[(.agg #[(.int .i64 x2.1),(.int .i64 x2.2.1),(.int .i64 x2.2.2)])] (.one (.sc .bool)) h1 fun r3 h2=>
 Br (!r3)
 (R (.tuple #[(.slice none 0 0),(.bool false),(.int .i64 (1:Int))]) h2)
 (af Tryz.prog 82 #[(.int .i64 ((where_2.len:Nat):Int)),(.int .i64 t_3)] (.many [(.sc .slc),(.sc (.int .i64))]) h2 fun r4 h3=>
 Br (r4.2 !=(0:Int))
 (R (.tuple #[(.slice none 0 0),(.bool false),(.int .i64 r4.2)]) h3)
 (∃x5:Int×Int×Int,ak h3 a1 0 [(.int .i64 x5.1),(.int .i64 x5.2.1),(.int .i64 x5.2.2)]∧
 af Tryz.prog 83 #[(.agg #[(.int .i64 x5.1),(.int .i64 x5.2.1),(.int .i64 x5.2.2)])] (.one (.sc (.int .i64))) h3 fun r6 h4=>
 af Tryz.prog 85 #[] (.one (.sc .ptr)) h4 fun r7 h5=>
 af Tryz.prog 84 #[(.pointer r7),(.int .i64 r6)] (.one (.sc .ptr)) h5 fun r8 h6=>
 ∃x9:Int×Int×Int,ak h6 a1 0 [(.int .i64 x9.1),(.int .i64 x9.2.1),(.int .i64 x9.2.2)]∧
 af Tryz.prog 86 #[(.agg #[(.int .i64 x9.1),(.int .i64 x9.2.1),(.int .i64 x9.2.2)])] (.one (.sc .slc)) h6 fun r10 h7=>
 aH (σ:=Int) (fun s11 K1 h8=>
 Br (decide (s11<((r10.len:Nat):Int)))
 (∃a12:Addr,(r10.ptr=some a12∧0≤s11∧s11<((r10.len:Nat):Int))∧
 ∃x13:Sl,cellOf h8 (a12.add (s11.toNat*1))=some (.slice x13.ptr x13.len x13.cap)∧
 af Tryz.prog 87 #[(.pointer r8),(.slice x13.ptr x13.len x13.cap)] (.one (.sc .bool)) h8 fun _ h9=>
 K1 (IntKind.wrap .i64 (s11+(1:Int))) h9)
 (∃x15:Int×Int×Int,ak h8 a1 0 [(.int .i64 x15.1),(.int .i64 x15.2.1),(.int .i64 x15.2.2)]∧
 af Tryz.prog 88 #[(.agg #[(.int .i64 x15.1),(.int .i64 x15.2.1),(.int .i64 x15.2.2)]),(.int .u32 seed_1),(.slice where_2.ptr where_2.len where_2.cap)] (.one (.sc .slc)) h8 fun r16 h10=>
 aH (σ:=Int) (fun s17 K2 h11=>
 Br (decide (s17<((r4.1.len:Nat):Int)))
 (∃a18:Addr,(r4.1.ptr=some a18∧0≤s17∧s17<((r4.1.len:Nat):Int))∧
 ∃x19:Sl,cellOf h11 (a18.add (s17.toNat*1))=some (.slice x19.ptr x19.len x19.cap)∧
 af Tryz.prog 89 #[(.pointer r8),(.slice r16.ptr r16.len r16.cap),(.slice x19.ptr x19.len x19.cap),(.int .i64 r6)] (.one (.sc .bool)) h11 fun r20 h12=>
 Br (!r20)
 (R (.tuple #[(.slice x19.ptr x19.len x19.cap),(.bool true),(.int .i64 (0:Int))]) h12)
 (K2 (IntKind.wrap .i64 (s17+(1:Int))) h12))
 (R (.tuple #[(.slice none 0 0),(.bool false),(.int .i64 (0:Int))]) h11)) (0:Int) h10)) (0:Int) h7))
theorem uv (p_0:Int×Int×Int) (seed_1:Int) (where_2:Sl) (t_3:Int) {R:Value→Heap→Prop} {h:Heap} (hm:oP p_0 seed_1 where_2 t_3 R h):ae Tryz.prog 42 #[(.agg #[(.int .i64 p_0.1),(.int .i64 p_0.2.1),(.int .i64 p_0.2.2)]),(.int .u32 seed_1),(.slice where_2.ptr where_2.len where_2.cap),(.int .i64 t_3)] h R:=al ag Tryz.func42 (.two .n (.two .n (.two .n (.two .n (.two .n (.two .n (.two (.two .n (.inn (.loop [(40,(.sc (.int .i64)))] [(15,16),(40,48)] .n))) (.two .n (.two (.two .n (.inn (.loop [(54,(.sc (.int .i64)))] [(8,11),(18,19),(54,66)] .n))) .n))))))))) hm
abbrev zF:FuncId:=43
noncomputable def sa (o_0:Int) (b_1:Int) (try_2:Int) (R:Value→Heap→Prop) (h:Heap):Prop:=
 R (.int .u32 (IntKind.wrap .u32 ((IntKind.wrap .u32 ((IntKind.wrap .u32 ((128:Int)*(IntKind.wrap .u32 o_0)))+(IntKind.wrap .u32 ((16:Int)*(IntKind.wrap .u32 b_1)))))+(IntKind.wrap .u32 try_2)))) h
theorem xQ (o_0:Int) (b_1:Int) (try_2:Int) {R:Value→Heap→Prop} {h:Heap} (hm:sa o_0 b_1 try_2 R h):ae Tryz.prog 43 #[(.int .i64 o_0),(.int .i64 b_1),(.int .i64 try_2)] h R:=al ag Tryz.func43 .n hm
abbrev ju:FuncId:=44
noncomputable def jJ (s_0:Option Addr) (object_1:Int) (block_2:Int) (R:Value→Heap→Prop) (h:Heap):Prop:=
 af Tryz.prog 24 #[(.pointer s_0)] (.one (.sc .slc)) h fun r1 h1=>
 aH (σ:=Sl×Int) (fun s2 K1 h2=>
 Br (decide (s2.2<((r1.len:Nat):Int)))
 (∃a3:Addr,(r1.ptr=some a3∧0≤s2.2∧s2.2<((r1.len:Nat):Int))∧
 ∃x4:Int,cellOf h2 (a3.add (s2.2.toNat*1))=some (.int .i64 x4)∧
 aw Tryz.prog (Instr.buildSlice 22 1 #[(0,(.int .i64 x4))]) (.one (.sc .slc)) h2 fun v5 h3=>
 ∃a6:Addr,(s_0=some a6)∧
 ∃x7:Int×Int×Int×Int×Int×Int×Sl×Sl,ak h3 a6 0 [(.int .i64 x7.1),(.int .i64 x7.2.1),(.int .i64 x7.2.2.1),(.int .i64 x7.2.2.2.1),(.int .i64 x7.2.2.2.2.1),(.int .i64 x7.2.2.2.2.2.1),(.slice x7.2.2.2.2.2.2.1.ptr x7.2.2.2.2.2.2.1.len x7.2.2.2.2.2.2.1.cap),(.slice x7.2.2.2.2.2.2.2.ptr x7.2.2.2.2.2.2.2.len x7.2.2.2.2.2.2.2.cap)]∧
 af Tryz.prog 90 #[(.func (.func 11) #[(.pointer s_0)] #[]),(.slice v5.ptr v5.len v5.cap),(.agg #[(.int .i64 x7.1),(.int .i64 x7.2.1),(.int .i64 x7.2.2.1),(.int .i64 x7.2.2.2.1),(.int .i64 x7.2.2.2.2.1),(.int .i64 x7.2.2.2.2.2.1),(.slice x7.2.2.2.2.2.2.1.ptr x7.2.2.2.2.2.2.1.len x7.2.2.2.2.2.2.1.cap),(.slice x7.2.2.2.2.2.2.2.ptr x7.2.2.2.2.2.2.2.len x7.2.2.2.2.2.2.2.cap)]),(.int .i64 object_1),(.int .i64 block_2)] (.one (.sc .slc)) h3 fun r8 h4=>
 aH (σ:=Sl×Int) (fun s9 K2 h5=>
 Br (decide (s9.2<((r8.len:Nat):Int)))
 (∃a10:Addr,(r8.ptr=some a10∧0≤s9.2∧s9.2<((r8.len:Nat):Int))∧
 ∃x11:Int×Sl,ak h5 (a10.add (s9.2.toNat*2)) 0 [(.int .i64 x11.1),(.slice x11.2.ptr x11.2.len x11.2.cap)]∧
 aU Tryz.prog (Instr.alloc 147 true (.tuple #[])) h5 fun a12 h6=>
 ab Tryz.prog (Instr.storeAt 147 (.pointer (some a12)) (.agg #[(.int .i64 x11.1),(.slice x11.2.ptr x11.2.len x11.2.cap)])) h6 fun _ h7=>
 ∃x13:Int,cellOf h7 a12=some (.int .i64 x13)∧
 aw Tryz.prog (Instr.buildSlice 22 1 #[(0,(.int .i64 x13))]) (.one (.sc .slc)) h7 fun v14 h8=>
 aw Tryz.prog (Builtin.append_ #[22,22] 22 #[(.slice s9.1.ptr s9.1.len s9.1.cap),(.slice v14.ptr v14.len v14.cap)]) (.one (.sc .slc)) h8 fun v15 h9=>
 K2 ((⟨v15.ptr,v15.len,v15.cap⟩:Sl),IntKind.wrap .i64 (s9.2+(1:Int))) h9)
 (aw Tryz.prog (Instr.buildSlice 91 1 #[(0,(.slice s9.1.ptr s9.1.len s9.1.cap))]) (.one (.sc .slc)) h5 fun v16 h10=>
 aw Tryz.prog (Builtin.append_ #[91,91] 91 #[(.slice s2.1.ptr s2.1.len s2.1.cap),(.slice v16.ptr v16.len v16.cap)]) (.one (.sc .slc)) h10 fun v17 h11=>
 K1 ((⟨v17.ptr,v17.len,v17.cap⟩:Sl),IntKind.wrap .i64 (s2.2+(1:Int))) h11)) ((⟨none,0,0⟩:Sl),(0:Int)) h4)
 (R (.slice s2.1.ptr s2.1.len s2.1.cap) h2)) ((⟨none,0,0⟩:Sl),(0:Int)) h1
theorem nr (s_0:Option Addr) (object_1:Int) (block_2:Int) {R:Value→Heap→Prop} {h:Heap} (hm:jJ s_0 object_1 block_2 R h):ae Tryz.prog 44 #[(.pointer s_0),(.int .i64 object_1),(.int .i64 block_2)] h R:=al ag Tryz.func44 (.two .n (.two .n (.two (.two .n (.inn (.loop [(7,(.sc .slc)),(16,(.sc (.int .i64)))] [(7,8),(9,11),(12,13),(16,47)] (.two .n (.two .n (.two (.inn (.two .n (.two .n (.two (.two .n (.inn (.loop [(10,(.sc .slc)),(32,(.sc (.int .i64)))] [(10,11),(12,13),(32,42)] .n))) .n)))) .n)))))) .n))) hm
abbrev xR:FuncId:=45
noncomputable def qk (s_0:Option Addr) (t_1:Int) (R:Value→Heap→Prop) (h:Heap):Prop:=
 af Tryz.prog 12 #[(.pointer s_0)] (.one (.agg [(.int .i64),(.int .i64),(.int .i64),(.int .i64),(.int .i64),(.int .i64),.slc,.slc])) h fun r1 h1=>
 aU Tryz.prog (Instr.alloc 41 true (.tuple #[])) h1 fun a2 h2=>
 ab Tryz.prog (Instr.storeAt 41 (.pointer (some a2)) (.agg #[(.int .i64 r1.1),(.int .i64 r1.2.1),(.int .i64 r1.2.2.1),(.int .i64 r1.2.2.2.1),(.int .i64 r1.2.2.2.2.1),(.int .i64 r1.2.2.2.2.2.1),(.slice r1.2.2.2.2.2.2.1.ptr r1.2.2.2.2.2.2.1.len r1.2.2.2.2.2.2.1.cap),(.slice r1.2.2.2.2.2.2.2.ptr r1.2.2.2.2.2.2.2.len r1.2.2.2.2.2.2.2.cap)])) h2 fun _ h3=>
 af Tryz.prog 24 #[(.pointer s_0)] (.one (.sc .slc)) h3 fun r3 h4=>
 aH (σ:=Int×Int) (fun s4 K1 h5=>
 Br (decide (s4.2<((r3.len:Nat):Int)))
 (∃a5:Addr,(r3.ptr=some a5∧0≤s4.2∧s4.2<((r3.len:Nat):Int))∧
 ∃x6:Int,cellOf h5 (a5.add (s4.2.toNat*1))=some (.int .i64 x6)∧
 ∃x7:Int×Int×Int×Int×Int×Int×Sl×Sl,ak h5 a2 0 [(.int .i64 x7.1),(.int .i64 x7.2.1),(.int .i64 x7.2.2.1),(.int .i64 x7.2.2.2.1),(.int .i64 x7.2.2.2.2.1),(.int .i64 x7.2.2.2.2.2.1),(.slice x7.2.2.2.2.2.2.1.ptr x7.2.2.2.2.2.2.1.len x7.2.2.2.2.2.2.1.cap),(.slice x7.2.2.2.2.2.2.2.ptr x7.2.2.2.2.2.2.2.len x7.2.2.2.2.2.2.2.cap)]∧
 af Tryz.prog 11 #[(.pointer s_0),(.int .i64 x6)] (.one (.sc .ptr)) h5 fun r8 h6=>
 (aE.ok [(a2,(.int .i64 x7.1)),(a2.add 1,(.int .i64 x7.2.1)),(a2.add 2,(.int .i64 x7.2.2.1)),(a2.add 3,(.int .i64 x7.2.2.2.1)),(a2.add 4,(.int .i64 x7.2.2.2.2.1)),(a2.add 5,(.int .i64 x7.2.2.2.2.2.1)),(a2.add 6,(.slice x7.2.2.2.2.2.2.1.ptr x7.2.2.2.2.2.2.1.len x7.2.2.2.2.2.2.1.cap)),(a2.add 7,(.slice x7.2.2.2.2.2.2.2.ptr x7.2.2.2.2.2.2.2.len x7.2.2.2.2.2.2.2.cap))] h6)∧
 af Tryz.prog 10 #[(.pointer r8),(.agg #[(.int .i64 x7.1),(.int .i64 x7.2.1),(.int .i64 x7.2.2.1),(.int .i64 x7.2.2.2.1),(.int .i64 x7.2.2.2.2.1),(.int .i64 x7.2.2.2.2.2.1),(.slice x7.2.2.2.2.2.2.1.ptr x7.2.2.2.2.2.2.1.len x7.2.2.2.2.2.2.1.cap),(.slice x7.2.2.2.2.2.2.2.ptr x7.2.2.2.2.2.2.2.len x7.2.2.2.2.2.2.2.cap)])] (.one (.sc .bool)) h6 fun r9 h7=>
 (aE.ok [] h7)∧
 Br r9
 (K1 (IntKind.wrap .i64 (s4.1+(1:Int)),IntKind.wrap .i64 (s4.2+(1:Int))) h7)
 (K1 (s4.1,IntKind.wrap .i64 (s4.2+(1:Int))) h7))
 (R (.bool (decide (s4.1>t_1))) h5)) ((0:Int),(0:Int)) h4
theorem vZ (s_0:Option Addr) (t_1:Int) {R:Value→Heap→Prop} {h:Heap} (hm:qk s_0 t_1 R h):ae Tryz.prog 45 #[(.pointer s_0),(.int .i64 t_1)] h R:=al ag Tryz.func45 (.two .n (.two .n (.two .n (.two (.two .n (.inn (.loop [(6,(.sc (.int .i64))),(14,(.sc (.int .i64)))] [(6,7),(8,9),(14,26)] .n))) .n)))) hm
noncomputable def eM (s_0:Sl) (del_1:FuncId×Array Value×Array Value) (R:Value→Heap→Prop) (h:Heap):Prop:=
 af Tryz.prog 91 #[(.slice s_0.ptr s_0.len s_0.cap),(.func (.func del_1.1) del_1.2.1 del_1.2.2)] (.one (.sc (.int .i64))) h fun r1 h1=>
 Br (r1==(-1:Int))
 (R (.slice s_0.ptr s_0.len s_0.cap) h1)
 (aH (σ:=Int×Int) (fun s2 K1 h2=>
 Br (decide (s2.2<((s_0.len:Nat):Int)))
 (∃a3:Addr,(s_0.ptr=some a3∧0≤s2.2∧s2.2<((s_0.len:Nat):Int))∧
 ∃x4:ByteArray,cellOf h2 (a3.add (s2.2.toNat*1))=some (.string x4)∧
 fS C del_1.1 (del_1.2.1.toList++[(.string x4)]++del_1.2.2.toList) (.one (.sc .bool)) h2 fun r5 h3=>
 Br (!r5)
 (∃a6:Addr,(s_0.ptr=some a6∧0≤s2.1∧s2.1<((s_0.len:Nat):Int))∧
 ab Tryz.prog (Instr.storeAt 9 (.pointer (some (a6.add (s2.1.toNat*1)))) (.string x4)) h3 fun _ h4=>
 K1 (IntKind.wrap .i64 (s2.1+(1:Int)),IntKind.wrap .i64 (s2.2+(1:Int))) h4)
 (K1 (s2.1,IntKind.wrap .i64 (s2.2+(1:Int))) h3))
 ((0≤s2.1∧s2.1≤((s_0.len:Nat):Int))∧
 ab Tryz.prog (Builtin.clear_ #[47] 0 #[(.slice (if s_0.cap=s2.1.toNat then s_0.ptr else s_0.ptr.map (·.add (s2.1.toNat*1))) (s_0.len-s2.1.toNat) (s_0.cap-s2.1.toNat))]) h2 fun _ h5=>
 (0≤s2.1∧s2.1≤((s_0.cap:Nat):Int))∧
 R (.slice s_0.ptr s2.1.toNat s_0.cap) h5)) (r1,IntKind.wrap .i64 (r1+(1:Int))) h1)
theorem ia (s_0:Sl) (del_1:FuncId×Array Value×Array Value) {R:Value→Heap→Prop} {h:Heap} (hm:eM s_0 del_1 R h):ae Tryz.prog 46 #[(.slice s_0.ptr s_0.len s_0.cap),(.func (.func del_1.1) del_1.2.1 del_1.2.2)] h R:=al ag Tryz.func46 (.two .n (.two .n (.two .n (.two (.two .n (.inn (.loop [(5,(.sc (.int .i64))),(6,(.sc (.int .i64)))] [(5,8),(16,36)] .n))) .n)))) hm
abbrev pj:FuncId:=47
noncomputable def kn (s_0:Option Addr) (R:Value→Heap→Prop) (h:Heap):Prop:=
 af Tryz.prog 92 #[(.pointer s_0)] (.one (.sc .bool)) h fun r1 h1=>
 Br r1
 (R (.slice none 0 0) h1)
 (∃a2:Addr,(s_0=some a2)∧
 ∃x3:Sl,cellOf h1 (a2.add 7)=some (.slice x3.ptr x3.len x3.cap)∧
 aH (σ:=Sl×Int) (fun s4 K1 h2=>
 Br (decide (s4.2<((x3.len:Nat):Int)))
 (∃a5:Addr,(x3.ptr=some a5∧0≤s4.2∧s4.2<((x3.len:Nat):Int))∧
 ∃x6:ByteArray×Int×Int×Sl,ak h2 (a5.add (s4.2.toNat*4)) 0 [(.string x6.1),(.int .i64 x6.2.1),(.int .i64 x6.2.2.1),(.slice x6.2.2.2.ptr x6.2.2.2.len x6.2.2.2.cap)]∧
 aU Tryz.prog (Instr.alloc 87 true (.tuple #[])) h2 fun a7 h3=>
 ab Tryz.prog (Instr.storeAt 87 (.pointer (some a7)) (.agg #[(.string x6.1),(.int .i64 x6.2.1),(.int .i64 x6.2.2.1),(.slice x6.2.2.2.ptr x6.2.2.2.len x6.2.2.2.cap)])) h3 fun _ h4=>
 ∃x8:ByteArray,cellOf h4 a7=some (.string x8)∧
 af Tryz.prog 93 #[(.string x8)] (.one (.sc .str)) h4 fun r9 h5=>
 aw Tryz.prog (Instr.buildSlice 47 1 #[(0,(.string r9))]) (.one (.sc .slc)) h5 fun v10 h6=>
 aw Tryz.prog (Builtin.append_ #[47,47] 47 #[(.slice s4.1.ptr s4.1.len s4.1.cap),(.slice v10.ptr v10.len v10.cap)]) (.one (.sc .slc)) h6 fun v11 h7=>
 K1 ((⟨v11.ptr,v11.len,v11.cap⟩:Sl),IntKind.wrap .i64 (s4.2+(1:Int))) h7)
 (R (.slice s4.1.ptr s4.1.len s4.1.cap) h2)) ((⟨none,0,0⟩:Sl),(0:Int)) h1)
theorem ov (s_0:Option Addr) {R:Value→Heap→Prop} {h:Heap} (hm:kn s_0 R h):ae Tryz.prog 47 #[(.pointer s_0)] h R:=al ag Tryz.func47 (.two .n (.two .n (.two .n (.two (.two .n (.inn (.loop [(3,(.sc .slc)),(14,(.sc (.int .i64)))] [(3,4),(5,6),(14,25)] .n))) .n)))) hm
abbrev lM:FuncId:=48
abbrev zG:FuncId:=50
noncomputable def se (l_0:Sl) (R:Value→Heap→Prop) (h:Heap):Prop:=
 aH (σ:=Sl×Int) (fun s1 K1 h1=>
 Br (decide (s1.2<((l_0.len:Nat):Int)))
 (∃a2:Addr,(l_0.ptr=some a2∧0≤s1.2∧s1.2<((l_0.len:Nat):Int))∧
 ∃x3:Sl,cellOf h1 (a2.add (s1.2.toNat*1))=some (.slice x3.ptr x3.len x3.cap)∧
 af Tryz.prog 98 #[(.slice x3.ptr x3.len x3.cap)] (.one (.sc .slc)) h1 fun r4 h2=>
 aw Tryz.prog (Instr.buildSlice 70 1 #[(0,(.slice r4.ptr r4.len r4.cap))]) (.one (.sc .slc)) h2 fun v5 h3=>
 aw Tryz.prog (Builtin.append_ #[70,70] 70 #[(.slice s1.1.ptr s1.1.len s1.1.cap),(.slice v5.ptr v5.len v5.cap)]) (.one (.sc .slc)) h3 fun v6 h4=>
 K1 ((⟨v6.ptr,v6.len,v6.cap⟩:Sl),IntKind.wrap .i64 (s1.2+(1:Int))) h4)
 (R (.slice s1.1.ptr s1.1.len s1.1.cap) h1)) ((⟨none,0,0⟩:Sl),(0:Int)) h
theorem xS (l_0:Sl) {R:Value→Heap→Prop} {h:Heap} (hm:se l_0 R h):ae Tryz.prog 50 #[(.slice l_0.ptr l_0.len l_0.cap)] h R:=al ag Tryz.func50 (.two .n (.two .n (.two (.two .n (.inn (.loop [(3,(.sc .slc)),(8,(.sc (.int .i64)))] [(3,4),(5,6),(8,18)] .n))) .n))) hm
abbrev wa:FuncId:=53
noncomputable def oQ (p_0:Int×Int×Int) (n_1:Int) (R:Value→Heap→Prop) (h:Heap):Prop:=
 aU Tryz.prog (Instr.box 24 (.agg #[(.int .i64 p_0.1),(.int .i64 p_0.2.1),(.int .i64 p_0.2.2)])) h fun a1 h1=>
 ba (σ:=Unit) (fun _ h3=>
 ∃x5:Int×Int×Int,ak h3 a1 0 [(.int .i64 x5.1),(.int .i64 x5.2.1),(.int .i64 x5.2.2)]∧
 af Tryz.prog 101 #[(.agg #[(.int .i64 x5.1),(.int .i64 x5.2.1),(.int .i64 x5.2.2)])] (.one (.sc (.int .i64))) h3 fun r6 h4=>
 (r6≠0)∧
 R (.int .i64 (IntKind.wrap .i64 ((IntKind.wrap .i64 (Int.tdiv (IntKind.wrap .i64 (n_1-(1:Int))) r6))+(1:Int)))) h4)
 (fun K1=>
 ∃x2:Int×Int×Int,ak h1 a1 0 [(.int .i64 x2.1),(.int .i64 x2.2.1),(.int .i64 x2.2.2)]∧
 af Tryz.prog 29 #[(.agg #[(.int .i64 x2.1),(.int .i64 x2.2.1),(.int .i64 x2.2.2)])] (.one (.sc .bool)) h1 fun r3 h2=>
 Br (!r3) (R (.int .i64 (0:Int)) h2) (Br (decide (n_1≤(0:Int)))
 (R (.int .i64 (0:Int)) h2)
 (K1 () h2)))
theorem uw (p_0:Int×Int×Int) (n_1:Int) {R:Value→Heap→Prop} {h:Heap} (hm:oQ p_0 n_1 R h):ae Tryz.prog 53 #[(.agg #[(.int .i64 p_0.1),(.int .i64 p_0.2.1),(.int .i64 p_0.2.2)]),(.int .i64 n_1)] h R:=al ag Tryz.func53 (.two .n (.two (.join [] [(4,12)] .n) .n)) hm
abbrev pk:FuncId:=61
noncomputable def ko (d_0:Option Addr) (R:Value→Heap→Prop) (h:Heap):Prop:=
 Br (!(Option.isNone d_0)) (∃a1:Addr,(d_0=some a1)∧
 ∃x2:Bool,cellOf h (a1.add 6)=some (.bool x2)∧
 R (.bool x2) h) (R (.bool false) h)
theorem ow (d_0:Option Addr) {R:Value→Heap→Prop} {h:Heap} (hm:ko d_0 R h):ae Tryz.prog 61 #[(.pointer d_0)] h R:=al ag Tryz.func61 .n hm
abbrev A6:FuncId:=67
noncomputable def ux (at_0:FuncId×Array Value×Array Value) (slots_1:Sl) (R:Value→Heap→Prop) (h:Heap):Prop:=
 aH (σ:=Sl×Int) (fun s1 K1 h1=>
 Br (decide (s1.2<((slots_1.len:Nat):Int)))
 (∃a2:Addr,(slots_1.ptr=some a2∧0≤s1.2∧s1.2<((slots_1.len:Nat):Int))∧
 ∃x3:Int,cellOf h1 (a2.add (s1.2.toNat*1))=some (.int .i64 x3)∧
 fS C at_0.1 (at_0.2.1.toList++[(.int .i64 x3)]++at_0.2.2.toList) (.one (.sc .ptr)) h1 fun r4 h2=>
 Br (!(Option.isNone r4)) (af Tryz.prog 61 #[(.pointer r4)] (.one (.sc .bool)) h2 fun r5 h3=>
 Br (!r5)
 (aw Tryz.prog (Instr.buildSlice 22 1 #[(0,(.int .i64 x3))]) (.one (.sc .slc)) h3 fun v6 h4=>
 aw Tryz.prog (Builtin.append_ #[22,22] 22 #[(.slice s1.1.ptr s1.1.len s1.1.cap),(.slice v6.ptr v6.len v6.cap)]) (.one (.sc .slc)) h4 fun v7 h5=>
 K1 ((⟨v7.ptr,v7.len,v7.cap⟩:Sl),IntKind.wrap .i64 (s1.2+(1:Int))) h5)
 (K1 ((⟨s1.1.ptr,s1.1.len,s1.1.cap⟩:Sl),IntKind.wrap .i64 (s1.2+(1:Int))) h3)) (K1 ((⟨s1.1.ptr,s1.1.len,s1.1.cap⟩:Sl),IntKind.wrap .i64 (s1.2+(1:Int))) h2))
 (R (.slice s1.1.ptr s1.1.len s1.1.cap) h1)) ((⟨none,0,0⟩:Sl),(0:Int)) h
theorem zH (at_0:FuncId×Array Value×Array Value) (slots_1:Sl) {R:Value→Heap→Prop} {h:Heap} (hm:ux at_0 slots_1 R h):ae Tryz.prog 67 #[(.func (.func at_0.1) at_0.2.1 at_0.2.2),(.slice slots_1.ptr slots_1.len slots_1.cap)] h R:=al ag Tryz.func67 (.two .n (.two .n (.two (.two .n (.inn (.loop [(5,(.sc .slc)),(11,(.sc (.int .i64)))] [(5,6),(7,9),(11,30)] .n))) .n))) hm
abbrev zI:FuncId:=68
noncomputable def sf (m_0:Int×Int×Int×Int×Int×Int×Sl×Sl) (R:Value→Heap→Prop) (h:Heap):Prop:=
 aU Tryz.prog (Instr.box 41 (.agg #[(.int .i64 m_0.1),(.int .i64 m_0.2.1),(.int .i64 m_0.2.2.1),(.int .i64 m_0.2.2.2.1),(.int .i64 m_0.2.2.2.2.1),(.int .i64 m_0.2.2.2.2.2.1),(.slice m_0.2.2.2.2.2.2.1.ptr m_0.2.2.2.2.2.2.1.len m_0.2.2.2.2.2.2.1.cap),(.slice m_0.2.2.2.2.2.2.2.ptr m_0.2.2.2.2.2.2.2.len m_0.2.2.2.2.2.2.2.cap)])) h fun a1 h1=>
 ∃x2:Int×Int×Int×Int×Int×Int×Sl×Sl,ak h1 a1 0 [(.int .i64 x2.1),(.int .i64 x2.2.1),(.int .i64 x2.2.2.1),(.int .i64 x2.2.2.2.1),(.int .i64 x2.2.2.2.2.1),(.int .i64 x2.2.2.2.2.2.1),(.slice x2.2.2.2.2.2.2.1.ptr x2.2.2.2.2.2.2.1.len x2.2.2.2.2.2.2.1.cap),(.slice x2.2.2.2.2.2.2.2.ptr x2.2.2.2.2.2.2.2.len x2.2.2.2.2.2.2.2.cap)]∧
 af Tryz.prog 35 #[(.agg #[(.int .i64 x2.1),(.int .i64 x2.2.1),(.int .i64 x2.2.2.1),(.int .i64 x2.2.2.2.1),(.int .i64 x2.2.2.2.2.1),(.int .i64 x2.2.2.2.2.2.1),(.slice x2.2.2.2.2.2.2.1.ptr x2.2.2.2.2.2.2.1.len x2.2.2.2.2.2.2.1.cap),(.slice x2.2.2.2.2.2.2.2.ptr x2.2.2.2.2.2.2.2.len x2.2.2.2.2.2.2.2.cap)])] (.one (.sc .bool)) h1 fun r3 h2=>
 Br (!r3)
 (R (.slice none 0 0) h2)
 (ba (σ:=Sl) (fun s8 h5=>
 ∃x9:Int,cellOf h5 (a1.add 2)=some (.int .i64 x9)∧
 ∃x10:Int,cellOf h5 ((a1.add 2).add 1)=some (.int .i64 x10)∧
 ∃x11:Int,cellOf h5 ((a1.add 2).add 2)=some (.int .i64 x11)∧
 ∃x12:Int,cellOf h5 (a1.add 5)=some (.int .i64 x12)∧
 ∃x13:Sl,cellOf h5 (a1.add 6)=some (.slice x13.ptr x13.len x13.cap)∧
 aw Tryz.prog (Instr.buildSlice 53 5 #[(0,(.int .u8 (IntKind.wrap .u8 x9))),(1,(.int .u8 (IntKind.wrap .u8 x10))),(2,(.int .u8 (IntKind.wrap .u8 x11))),(3,(.int .u8 (IntKind.wrap .u8 x12))),(4,(.int .u8 (IntKind.wrap .u8 ((x13.len:Nat):Int))))]) (.one (.sc .slc)) h5 fun v14 h6=>
 aw Tryz.prog (Builtin.append_ #[53,53] 53 #[(.slice s8.ptr s8.len s8.cap),(.slice v14.ptr v14.len v14.cap)]) (.one (.sc .slc)) h6 fun v15 h7=>
 ∃x16:Sl,cellOf h7 (a1.add 6)=some (.slice x16.ptr x16.len x16.cap)∧
 aH (σ:=Sl×Int) (fun s17 K2 h8=>
 Br (decide (s17.2<((x16.len:Nat):Int)))
 (∃a18:Addr,(x16.ptr=some a18∧0≤s17.2∧s17.2<((x16.len:Nat):Int))∧
 ∃x19:Int,cellOf h8 (a18.add (s17.2.toNat*1))=some (.int .i64 x19)∧
 aw Tryz.prog (Instr.buildSlice 53 1 #[(0,(.int .u8 (IntKind.wrap .u8 x19)))]) (.one (.sc .slc)) h8 fun v20 h9=>
 aw Tryz.prog (Builtin.append_ #[53,53] 53 #[(.slice s17.1.ptr s17.1.len s17.1.cap),(.slice v20.ptr v20.len v20.cap)]) (.one (.sc .slc)) h9 fun v21 h10=>
 K2 ((⟨v21.ptr,v21.len,v21.cap⟩:Sl),IntKind.wrap .i64 (s17.2+(1:Int))) h10)
 (∃x22:Sl,cellOf h8 (a1.add 7)=some (.slice x22.ptr x22.len x22.cap)∧
 aw Tryz.prog (Instr.buildSlice 53 1 #[(0,(.int .u8 (IntKind.wrap .u8 ((x22.len:Nat):Int))))]) (.one (.sc .slc)) h8 fun v23 h11=>
 aw Tryz.prog (Builtin.append_ #[53,53] 53 #[(.slice s17.1.ptr s17.1.len s17.1.cap),(.slice v23.ptr v23.len v23.cap)]) (.one (.sc .slc)) h11 fun v24 h12=>
 ∃x25:Sl,cellOf h12 (a1.add 7)=some (.slice x25.ptr x25.len x25.cap)∧
 aH (σ:=Sl×Int) (fun s26 K3 h13=>
 Br (decide (s26.2<((x25.len:Nat):Int)))
 (∃a27:Addr,(x25.ptr=some a27∧0≤s26.2∧s26.2<((x25.len:Nat):Int))∧
 ∃x28:ByteArray×Int×Int×Sl,ak h13 (a27.add (s26.2.toNat*4)) 0 [(.string x28.1),(.int .i64 x28.2.1),(.int .i64 x28.2.2.1),(.slice x28.2.2.2.ptr x28.2.2.2.len x28.2.2.2.cap)]∧
 aU Tryz.prog (Instr.alloc 87 true (.tuple #[])) h13 fun a29 h14=>
 ab Tryz.prog (Instr.storeAt 87 (.pointer (some a29)) (.agg #[(.string x28.1),(.int .i64 x28.2.1),(.int .i64 x28.2.2.1),(.slice x28.2.2.2.ptr x28.2.2.2.len x28.2.2.2.cap)])) h14 fun _ h15=>
 ba (σ:=Sl) (fun s35 h19=>
 ba (σ:=Sl) (fun s40 h22=>
 ∃x41:Sl,cellOf h22 (a29.add 3)=some (.slice x41.ptr x41.len x41.cap)∧
 aH (σ:=Sl×Int) (fun s42 K6 h23=>
 Br (decide (s42.2<((x41.len:Nat):Int)))
 (∃a43:Addr,(x41.ptr=some a43∧0≤s42.2∧s42.2<((x41.len:Nat):Int))∧
 ∃x44:Int,cellOf h23 (a43.add (s42.2.toNat*1))=some (.int .i64 x44)∧
 aw Tryz.prog (Instr.buildSlice 53 1 #[(0,(.int .u8 (IntKind.wrap .u8 x44)))]) (.one (.sc .slc)) h23 fun v45 h24=>
 aw Tryz.prog (Builtin.append_ #[53,53] 53 #[(.slice s42.1.ptr s42.1.len s42.1.cap),(.slice v45.ptr v45.len v45.cap)]) (.one (.sc .slc)) h24 fun v46 h25=>
 K6 ((⟨v46.ptr,v46.len,v46.cap⟩:Sl),IntKind.wrap .i64 (s42.2+(1:Int))) h25)
 (K3 ((⟨s42.1.ptr,s42.1.len,s42.1.cap⟩:Sl),IntKind.wrap .i64 (s26.2+(1:Int))) h23)) ((⟨s40.ptr,s40.len,s40.cap⟩:Sl),(0:Int)) h22)
 (fun K5=>
 ∃x36:Int,cellOf h19 (a29.add 1)=some (.int .i64 x36)∧
 ∃x37:Int,cellOf h19 (a29.add 2)=some (.int .i64 x37)∧
 af Tryz.prog 122 #[(.slice s35.ptr s35.len s35.cap),(.int .i64 x36),(.int .i64 (3:Int))] (.one (.sc .slc)) h19 fun r38 h20=>
 (aE.ok [(a29.add 2,(.int .i64 x37))] h20)∧
 af Tryz.prog 122 #[(.slice r38.ptr r38.len r38.cap),(.int .i64 x37),(.int .i64 (2:Int))] (.one (.sc .slc)) h20 fun r39 h21=>
 (aE.ok [] h21)∧
 K5 (⟨r39.ptr,r39.len,r39.cap⟩:Sl) h21))
 (fun K4=>
 ∃x30:ByteArray,cellOf h15 a29=some (.string x30)∧
 ∃x31:ByteArray,cellOf h15 a29=some (.string x31)∧
 aw Tryz.prog (Instr.buildSlice 53 1 #[(0,(.int .u8 (IntKind.wrap .u8 ((x30.size:Nat):Int))))]) (.one (.sc .slc)) h15 fun v32 h16=>
 (aE.ok [(a29,(.string x31)),(a29,(.string x30))] h16)∧
 aw Tryz.prog (Builtin.append_ #[53,53] 53 #[(.slice s26.1.ptr s26.1.len s26.1.cap),(.slice v32.ptr v32.len v32.cap)]) (.one (.sc .slc)) h16 fun v33 h17=>
 (aE.ok [(a29,(.string x31)),(a29,(.string x30))] h17)∧
 aw Tryz.prog (Builtin.append_ #[53,9] 53 #[(.slice v33.ptr v33.len v33.cap),(.string x31)]) (.one (.sc .slc)) h17 fun v34 h18=>
 (aE.ok [(a29,(.string x30))] h18)∧
 K4 (⟨v34.ptr,v34.len,v34.cap⟩:Sl) h18))
 (R (.slice s26.1.ptr s26.1.len s26.1.cap) h13)) ((⟨v24.ptr,v24.len,v24.cap⟩:Sl),(0:Int)) h12)) ((⟨v15.ptr,v15.len,v15.cap⟩:Sl),(0:Int)) h7)
 (fun K1=>
 ∃x4:Int,cellOf h2 a1=some (.int .i64 x4)∧
 ∃x5:Int,cellOf h2 (a1.add 1)=some (.int .i64 x5)∧
 af Tryz.prog 122 #[(.slice none 0 0),(.int .i64 x4),(.int .i64 (4:Int))] (.one (.sc .slc)) h2 fun r6 h3=>
 (aE.ok [(a1.add 1,(.int .i64 x5))] h3)∧
 af Tryz.prog 122 #[(.slice r6.ptr r6.len r6.cap),(.int .i64 x5),(.int .i64 (4:Int))] (.one (.sc .slc)) h3 fun r7 h4=>
 (aE.ok [] h4)∧
 K1 (⟨r7.ptr,r7.len,r7.cap⟩:Sl) h4))
theorem xT (m_0:Int×Int×Int×Int×Int×Int×Sl×Sl) {R:Value→Heap→Prop} {h:Heap} (hm:sf m_0 R h):ae Tryz.prog 68 #[(.agg #[(.int .i64 m_0.1),(.int .i64 m_0.2.1),(.int .i64 m_0.2.2.1),(.int .i64 m_0.2.2.2.1),(.int .i64 m_0.2.2.2.2.1),(.int .i64 m_0.2.2.2.2.2.1),(.slice m_0.2.2.2.2.2.2.1.ptr m_0.2.2.2.2.2.2.1.len m_0.2.2.2.2.2.2.1.cap),(.slice m_0.2.2.2.2.2.2.2.ptr m_0.2.2.2.2.2.2.2.len m_0.2.2.2.2.2.2.2.cap)])] h R:=al ag Tryz.func68 (.two .n (.two .n (.two (.join [(3,(.sc .slc))] [(3,4),(13,19)] .n) (.two .n (.two (.two .n (.inn (.loop [(3,(.sc .slc)),(44,(.sc (.int .i64)))] [(3,4),(5,6),(44,54)] .n))) (.two .n (.two (.two .n (.inn (.loop [(3,(.sc .slc)),(64,(.sc (.int .i64)))] [(3,4),(7,8),(9,10),(64,99)] (.two .n (.two .n (.two (.inn (.two .n (.two (.join [(3,(.sc .slc))] [(3,4),(68,78)] .n) (.two (.join [(3,(.sc .slc))] [(3,4),(78,85)] .n) (.two .n (.inn (.loop [(3,(.sc .slc)),(88,(.sc (.int .i64)))] [(3,4),(9,10),(88,98)] .n))))))) .n)))))) .n))))))) hm
abbrev A7:FuncId:=69
noncomputable def uy (seq_0:Int) (number_1:Int) (many_2:Int) (b_3:Sl) (R:Value→Heap→Prop) (h:Heap):Prop:=
 (0≤(24:Int))∧
 (0≤(16:Int))∧
 (0≤(8:Int))∧
 aw Tryz.prog (Instr.buildSlice 53 7 #[(0,(.int .u8 (IntKind.wrap .u8 (Int.fdiv seq_0 (2^min (24:Int).toNat (IntKind.bits .i64)))))),(1,(.int .u8 (IntKind.wrap .u8 (Int.fdiv seq_0 (2^min (16:Int).toNat (IntKind.bits .i64)))))),(2,(.int .u8 (IntKind.wrap .u8 (Int.fdiv seq_0 (2^min (8:Int).toNat (IntKind.bits .i64)))))),(3,(.int .u8 (IntKind.wrap .u8 seq_0))),(4,(.int .u8 (IntKind.wrap .u8 number_1))),(5,(.int .u8 (IntKind.wrap .u8 many_2))),(6,(.int .u8 (IntKind.wrap .u8 ((b_3.len:Nat):Int))))]) (.one (.sc .slc)) h fun v1 h1=>
 aw Tryz.prog (Builtin.append_ #[53,53] 53 #[(.slice v1.ptr v1.len v1.cap),(.slice b_3.ptr b_3.len b_3.cap)]) (.one (.sc .slc)) h1 fun v2 h2=>
 af Tryz.prog 123 #[(.int .i64 (2:Int)),(.slice v2.ptr v2.len v2.cap)] (.one (.sc .slc)) h2 fun r3 h3=>
 R (.slice r3.ptr r3.len r3.cap) h3
theorem zJ (seq_0:Int) (number_1:Int) (many_2:Int) (b_3:Sl) {R:Value→Heap→Prop} {h:Heap} (hm:uy seq_0 number_1 many_2 b_3 R h):ae Tryz.prog 69 #[(.int .i64 seq_0),(.int .i64 number_1),(.int .i64 many_2),(.slice b_3.ptr b_3.len b_3.cap)] h R:=al ag Tryz.func69 .n hm
abbrev ja:FuncId:=70
noncomputable def gh (d_0:Option Addr) (b_1:Sl) (R:Value→Heap→Prop) (h:Heap):Prop:=
 ba (σ:=Unit) (fun _ h3=>
 ba (σ:=Unit) (fun _ h8=>
 ∃a19:Addr,(d_0=some a19)∧
 ∃x20:Int,cellOf h8 (a19.add 3)=some (.int .i64 x20)∧
 ∃a21:Addr,(d_0=some a21)∧
 ab Tryz.prog (Instr.storeAt 3 (.pointer (some (a21.add 3))) (.int .i64 (IntKind.wrap .i64 (x20+(1:Int))))) h8 fun _ h9=>
 ∃a22:Addr,(d_0=some a22)∧
 ∃x23:Option Addr,cellOf h9 a22=some (.pointer x23)∧
 af Tryz.prog 120 #[(.pointer x23)] (.one (.sc .bool)) h9 fun r24 h10=>
 Br (!r24)
 (R (.int .i64 (14:Int)) h10)
 (af Tryz.prog 121 #[(.pointer d_0)] (.one (.sc (.int .i64))) h10 fun r25 h11=>
 R (.int .i64 r25) h11))
 (fun K3=>
 ∃a12:Addr,(d_0=some a12)∧
 ∃x13:Sl,cellOf h3 (a12.add 2)=some (.slice x13.ptr x13.len x13.cap)∧
 af Tryz.prog 98 #[(.slice b_1.ptr b_1.len b_1.cap)] (.one (.sc .slc)) h3 fun r14 h4=>
 (aE.ok [(a12.add 2,(.slice x13.ptr x13.len x13.cap))] h4)∧
 aw Tryz.prog (Instr.buildSlice 70 1 #[(0,(.slice r14.ptr r14.len r14.cap))]) (.one (.sc .slc)) h4 fun v15 h5=>
 (aE.ok [(a12.add 2,(.slice x13.ptr x13.len x13.cap))] h5)∧
 aw Tryz.prog (Builtin.append_ #[70,70] 70 #[(.slice x13.ptr x13.len x13.cap),(.slice v15.ptr v15.len v15.cap)]) (.one (.sc .slc)) h5 fun v16 h6=>
 (aE.ok [] h6)∧
 ∃a17:Addr,(d_0=some a17)∧
 ab Tryz.prog (Instr.storeAt 70 (.pointer (some (a17.add 2))) (.slice v16.ptr v16.len v16.cap)) h6 fun _ h7=>
 (aE.ok [] h7)∧
 K3 () h7))
 (fun K1=>
 Br (((b_1.len:Nat):Int) !=(64:Int))
 (R (.int .i64 (1:Int)) h)
 (ba (σ:=Bool) (fun s3 h1=>
 Br s3
 (R (.int .i64 (5:Int)) h1)
 (∃a4:Addr,(d_0=some a4)∧
 ∃x5:Sl,cellOf h1 (a4.add 2)=some (.slice x5.ptr x5.len x5.cap)∧
 ∃a6:Addr,(d_0=some a6)∧
 ∃x7:Int,cellOf h1 (a6.add 1)=some (.int .i64 x7)∧
 Br (decide (((x5.len:Nat):Int)≥x7))
 (R (.int .i64 (7:Int)) h1)
 (∃a8:Addr,(d_0=some a8)∧
 ∃x9:Option Addr,cellOf h1 a8=some (.pointer x9)∧
 af Tryz.prog 119 #[(.pointer x9)] (.one (.sc .bool)) h1 fun r10 h2=>
 Br (!r10)
 (R (.int .i64 (14:Int)) h2)
 (K1 () h2))))
 (fun K2=>
 Br (Option.isNone d_0) (K2 true h) (∃a1:Addr,(d_0=some a1)∧
 ∃x2:Bool,cellOf h (a1.add 6)=some (.bool x2)∧
 K2 x2 h))))
theorem iG (d_0:Option Addr) (b_1:Sl) {R:Value→Heap→Prop} {h:Heap} (hm:gh d_0 b_1 R h):ae Tryz.prog 70 #[(.pointer d_0),(.slice b_1.ptr b_1.len b_1.cap)] h R:=al ag Tryz.func70 (.two .n (.two (.join [] [(4,36)] (.inn (.two .n (.two .n (.two (.join [(9,(.sc .bool))] [(9,18)] .n) .n))))) (.two (.join [] [(36,47)] .n) .n))) hm
abbrev A8:FuncId:=71
noncomputable def uz (at_0:FuncId×Array Value×Array Value) (slots_1:Sl) (R:Value→Heap→Prop) (h:Heap):Prop:=
 af Tryz.prog 79 #[(.slice slots_1.ptr slots_1.len slots_1.cap)] (.one (.sc .slc)) h fun r1 h1=>
 af Tryz.prog 124 #[(.slice r1.ptr r1.len r1.cap)] (.many []) h1 fun _ h2=>
 af Tryz.prog 125 #[(.slice r1.ptr r1.len r1.cap)] (.one (.sc .slc)) h2 fun r3 h3=>
 aH (σ:=Int) (fun s4 K1 h4=>
 Br (decide (s4<((r3.len:Nat):Int)))
 (∃a5:Addr,(r3.ptr=some a5∧0≤s4∧s4<((r3.len:Nat):Int))∧
 ∃x6:Int,cellOf h4 (a5.add (s4.toNat*1))=some (.int .i64 x6)∧
 fS C at_0.1 (at_0.2.1.toList++[(.int .i64 x6)]++at_0.2.2.toList) (.one (.sc .ptr)) h4 fun r7 h5=>
 af Tryz.prog 126 #[(.pointer r7)] (.one (.sc (.int .i64))) h5 fun r8 h6=>
 Br (r8 !=(0:Int))
 (R (.int .i64 r8) h6)
 (K1 (IntKind.wrap .i64 (s4+(1:Int))) h6))
 (R (.int .i64 (0:Int)) h4)) (0:Int) h3
theorem zK (at_0:FuncId×Array Value×Array Value) (slots_1:Sl) {R:Value→Heap→Prop} {h:Heap} (hm:uz at_0 slots_1 R h):ae Tryz.prog 71 #[(.func (.func at_0.1) at_0.2.1 at_0.2.2),(.slice slots_1.ptr slots_1.len slots_1.cap)] h R:=al ag Tryz.func71 (.two .n (.two .n (.two .n (.two (.two .n (.inn (.loop [(15,(.sc (.int .i64)))] [(4,5),(6,8),(15,27)] .n))) .n)))) hm
abbrev jK:FuncId:=72
noncomputable def kp (s_0:Option Addr) (R:Value→Heap→Prop) (h:Heap):Prop:=
 Br (!(Option.isNone s_0)) (∃a1:Addr,(s_0=some a1)∧
 ∃x2:Option Addr,cellOf h (a1.add 8)=some (.pointer x2)∧
 af Tryz.prog 119 #[(.pointer x2)] (.one (.sc .bool)) h fun r3 h1=>
 (aE.ok [] h1)∧
 Br (!r3) ((aE.ok [] h1)∧
 R (.bool true) h1) (∃a4:Addr,(s_0=some a4)∧
 ∃x5:Option Addr,cellOf h1 (a4.add 8)=some (.pointer x5)∧
 ∃a6:Addr,(s_0=some a6)∧
 ∃x7:Int,cellOf h1 (a6.add 9)=some (.int .i64 x7)∧
 af Tryz.prog 30 #[(.pointer x5)] (.one (.sc (.int .i64))) h1 fun r8 h2=>
 (aE.ok [(a6.add 9,(.int .i64 x7))] h2)∧
 R (.bool (r8 !=x7)) h2)) ((aE.ok [] h)∧
 (aE.ok [] h)∧
 R (.bool false) h)
theorem ox (s_0:Option Addr) {R:Value→Heap→Prop} {h:Heap} (hm:kp s_0 R h):ae Tryz.prog 72 #[(.pointer s_0)] h R:=al ag Tryz.func72 .n hm
abbrev wb:FuncId:=73
noncomputable def oR (n_0:Int) (least_1:Int) (most_2:Int) (R:Value→Heap→Prop) (h:Heap):Prop:=
 Br (decide (n_0≥least_1)) (R (.bool (decide (n_0≤most_2))) h) (R (.bool false) h)
theorem uA (n_0:Int) (least_1:Int) (most_2:Int) {R:Value→Heap→Prop} {h:Heap} (hm:oR n_0 least_1 most_2 R h):ae Tryz.prog 73 #[(.int .i64 n_0),(.int .i64 least_1),(.int .i64 most_2)] h R:=al ag Tryz.func73 .n hm
abbrev zL:FuncId:=74
noncomputable def sg (l_0:Sl) (most_1:Int) (R:Value→Heap→Prop) (h:Heap):Prop:=
 aH (σ:=Int) (fun s1 K1 h1=>
 Br (decide (s1<((l_0.len:Nat):Int)))
 (∃a2:Addr,(l_0.ptr=some a2∧0≤s1∧s1<((l_0.len:Nat):Int))∧
 ∃x3:Int,cellOf h1 (a2.add (s1.toNat*1))=some (.int .i64 x3)∧
 af Tryz.prog 73 #[(.int .i64 x3),(.int .i64 (0:Int)),(.int .i64 most_1)] (.one (.sc .bool)) h1 fun r4 h2=>
 Br (!r4) (R (.bool false) h2) (Br (decide (s1>(0:Int))) (∃a5:Addr,(l_0.ptr=some a5∧0≤(IntKind.wrap .i64 (s1-(1:Int)))∧(IntKind.wrap .i64 (s1-(1:Int)))<((l_0.len:Nat):Int))∧
 ∃x6:Int,cellOf h2 (a5.add ((IntKind.wrap .i64 (s1-(1:Int))).toNat*1))=some (.int .i64 x6)∧
 Br (decide (x6≥x3))
 (R (.bool false) h2)
 (K1 (IntKind.wrap .i64 (s1+(1:Int))) h2)) (K1 (IntKind.wrap .i64 (s1+(1:Int))) h2)))
 (R (.bool true) h1)) (0:Int) h
theorem xU (l_0:Sl) (most_1:Int) {R:Value→Heap→Prop} {h:Heap} (hm:sg l_0 most_1 R h):ae Tryz.prog 74 #[(.slice l_0.ptr l_0.len l_0.cap),(.int .i64 most_1)] h R:=al ag Tryz.func74 (.two .n (.two (.two .n (.inn (.loop [(9,(.sc (.int .i64)))] [(4,7),(9,32)] .n))) .n)) hm
abbrev xV:FuncId:=75
noncomputable def ql (m_0:Int×Int×Int×Int×Int×Int×Sl×Sl) (x_1:ByteArray×Int×Int×Sl) (R:Value→Heap→Prop) (h:Heap):Prop:=
 aU Tryz.prog (Instr.box 41 (.agg #[(.int .i64 m_0.1),(.int .i64 m_0.2.1),(.int .i64 m_0.2.2.1),(.int .i64 m_0.2.2.2.1),(.int .i64 m_0.2.2.2.2.1),(.int .i64 m_0.2.2.2.2.2.1),(.slice m_0.2.2.2.2.2.2.1.ptr m_0.2.2.2.2.2.2.1.len m_0.2.2.2.2.2.2.1.cap),(.slice m_0.2.2.2.2.2.2.2.ptr m_0.2.2.2.2.2.2.2.len m_0.2.2.2.2.2.2.2.cap)])) h fun a1 h1=>
 aU Tryz.prog (Instr.box 87 (.agg #[(.string x_1.1),(.int .i64 x_1.2.1),(.int .i64 x_1.2.2.1),(.slice x_1.2.2.2.ptr x_1.2.2.2.len x_1.2.2.2.cap)])) h1 fun a2 h2=>
 ba (σ:=Unit) (fun _ h6=>
 ∃x13:Sl,cellOf h6 (a2.add 3)=some (.slice x13.ptr x13.len x13.cap)∧
 af Tryz.prog 111 #[(.slice x13.ptr x13.len x13.cap),(.func (.func 127) #[] #[])] (.one (.sc .bool)) h6 fun r14 h7=>
 Br (!r14) (∃x15:Sl,cellOf h7 (a2.add 3)=some (.slice x15.ptr x15.len x15.cap)∧
 ∃x16:Int×Int×Int,ak h7 (a1.add 2) 0 [(.int .i64 x16.1),(.int .i64 x16.2.1),(.int .i64 x16.2.2)]∧
 ∃x17:Int,cellOf h7 (a2.add 2)=some (.int .i64 x17)∧
 af Tryz.prog 53 #[(.agg #[(.int .i64 x16.1),(.int .i64 x16.2.1),(.int .i64 x16.2.2)]),(.int .i64 x17)] (.one (.sc (.int .i64))) h7 fun r18 h8=>
 (aE.ok [(a2.add 3,(.slice x15.ptr x15.len x15.cap))] h8)∧
 R (.bool (((x15.len:Nat):Int)==r18)) h8) ((aE.ok [] h7)∧
 R (.bool false) h7))
 (fun K1=>
 ∃x3:ByteArray,cellOf h2 a2=some (.string x3)∧
 af Tryz.prog 99 #[(.string x3)] (.one (.sc .bool)) h2 fun r4 h3=>
 Br (!r4) (R (.bool false) h3) (∃x5:Int,cellOf h3 (a2.add 1)=some (.int .i64 x5)∧
 ∃x6:Int,cellOf h3 (a1.add 1)=some (.int .i64 x6)∧
 af Tryz.prog 73 #[(.int .i64 x5),(.int .i64 (0:Int)),(.int .i64 (IntKind.wrap .i64 (x6-(1:Int))))] (.one (.sc .bool)) h3 fun r7 h4=>
 Br (!r7) (R (.bool false) h4) (∃x8:Int,cellOf h4 (a2.add 2)=some (.int .i64 x8)∧
 ∃x9:Int,cellOf h4 (a1.add 2)=some (.int .i64 x9)∧
 ∃x10:Int,cellOf h4 ((a1.add 2).add 2)=some (.int .i64 x10)∧
 af Tryz.prog 73 #[(.int .i64 x8),(.int .i64 (0:Int)),(.int .i64 (IntKind.wrap .i64 ((IntKind.wrap .i64 (x9*x10))*(8:Int))))] (.one (.sc .bool)) h4 fun r11 h5=>
 Br (!r11)
 (R (.bool false) h5)
 (K1 () h5))))
theorem wc (m_0:Int×Int×Int×Int×Int×Int×Sl×Sl) (x_1:ByteArray×Int×Int×Sl) {R:Value→Heap→Prop} {h:Heap} (hm:ql m_0 x_1 R h):ae Tryz.prog 75 #[(.agg #[(.int .i64 m_0.1),(.int .i64 m_0.2.1),(.int .i64 m_0.2.2.1),(.int .i64 m_0.2.2.2.1),(.int .i64 m_0.2.2.2.2.1),(.int .i64 m_0.2.2.2.2.2.1),(.slice m_0.2.2.2.2.2.2.1.ptr m_0.2.2.2.2.2.2.1.len m_0.2.2.2.2.2.2.1.cap),(.slice m_0.2.2.2.2.2.2.2.ptr m_0.2.2.2.2.2.2.2.len m_0.2.2.2.2.2.2.2.cap)]),(.agg #[(.string x_1.1),(.int .i64 x_1.2.1),(.int .i64 x_1.2.2.1),(.slice x_1.2.2.2.ptr x_1.2.2.2.len x_1.2.2.2.cap)])] h R:=al ag Tryz.func75 (.two .n (.two (.join [] [(4,5),(6,33)] .n) .n)) hm
abbrev dm:FuncId:=76
noncomputable def cr (s_0:Sl) (f_1:FuncId×Array Value×Array Value) (R:Value→Heap→Prop) (h:Heap):Prop:=
 af Tryz.prog 128 #[(.slice s_0.ptr s_0.len s_0.cap),(.func (.func f_1.1) f_1.2.1 f_1.2.2)] (.one (.sc (.int .i64))) h fun r1 h1=>
 R (.bool (decide (r1≥(0:Int)))) h1
theorem dh (s_0:Sl) (f_1:FuncId×Array Value×Array Value) {R:Value→Heap→Prop} {h:Heap} (hm:cr s_0 f_1 R h):ae Tryz.prog 76 #[(.slice s_0.ptr s_0.len s_0.cap),(.func (.func f_1.1) f_1.2.1 f_1.2.2)] h R:=al ag Tryz.func76 .n hm
abbrev kE:FuncId:=77
noncomputable def qm (y_0:ByteArray×Int×Int×Sl) (cap_1:Addr) (R:Value→Heap→Prop) (h:Heap):Prop:=
 aU Tryz.prog (Instr.box 87 (.agg #[(.string y_0.1),(.int .i64 y_0.2.1),(.int .i64 y_0.2.2.1),(.slice y_0.2.2.2.ptr y_0.2.2.2.len y_0.2.2.2.cap)])) h fun a1 h1=>
 ∃x2:Int,cellOf h1 (a1.add 1)=some (.int .i64 x2)∧
 ∃x3:Int,cellOf h1 (cap_1.add 1)=some (.int .i64 x3)∧
 R (.bool (x2==x3)) h1
theorem we (y_0:ByteArray×Int×Int×Sl) (cap_1:Addr) {R:Value→Heap→Prop} {h:Heap} (hm:qm y_0 cap_1 R h):ae Tryz.prog 77 #[(.agg #[(.string y_0.1),(.int .i64 y_0.2.1),(.int .i64 y_0.2.2.1),(.slice y_0.2.2.2.ptr y_0.2.2.2.len y_0.2.2.2.cap)]),(.pointer (some cap_1))] h R:=al ag Tryz.func77 .n hm
noncomputable def fk (s_0:Sl) (f_1:FuncId×Array Value×Array Value) (R:Value→Heap→Prop) (h:Heap):Prop:=
 aH (σ:=Int) (fun s1 K1 h1=>
 Br (decide (s1<((s_0.len:Nat):Int)))
 (∃a2:Addr,(s_0.ptr=some a2∧0≤s1∧s1<((s_0.len:Nat):Int))∧
 ∃x3:Sl,cellOf h1 (a2.add (s1.toNat*1))=some (.slice x3.ptr x3.len x3.cap)∧
 fS C f_1.1 (f_1.2.1.toList++[(.slice x3.ptr x3.len x3.cap)]++f_1.2.2.toList) (.one (.sc .bool)) h1 fun r4 h2=>
 Br r4
 (R (.int .i64 s1) h2)
 (K1 (IntKind.wrap .i64 (s1+(1:Int))) h2))
 (R (.int .i64 (-1:Int)) h1)) (0:Int) h
theorem iH (s_0:Sl) (f_1:FuncId×Array Value×Array Value) {R:Value→Heap→Prop} {h:Heap} (hm:fk s_0 f_1 R h):ae Tryz.prog 78 #[(.slice s_0.ptr s_0.len s_0.cap),(.func (.func f_1.1) f_1.2.1 f_1.2.2)] h R:=al ag Tryz.func78 (.two .n (.two (.two .n (.inn (.loop [(8,(.sc (.int .i64)))] [(4,6),(8,19)] .n))) .n)) hm
abbrev me:FuncId:=79
noncomputable def iI (s_0:Sl) (R:Value→Heap→Prop) (h:Heap):Prop:=
 Br (Option.isNone s_0.ptr)
 (R (.slice none 0 0) h)
 (aw Tryz.prog (Instr.buildSlice 22 0 #[]) (.one (.sc .slc)) h fun v1 h1=>
 aw Tryz.prog (Builtin.append_ #[22,22] 22 #[(.slice v1.ptr v1.len v1.cap),(.slice s_0.ptr s_0.len s_0.cap)]) (.one (.sc .slc)) h1 fun v2 h2=>
 R (.slice v2.ptr v2.len v2.cap) h2)
theorem lN (s_0:Sl) {R:Value→Heap→Prop} {h:Heap} (hm:iI s_0 R h):ae Tryz.prog 79 #[(.slice s_0.ptr s_0.len s_0.cap)] h R:=al ag Tryz.func79 .n hm
abbrev ib:FuncId:=80
noncomputable def eg (s_0:Sl) (R:Value→Heap→Prop) (h:Heap):Prop:=
 Br (Option.isNone s_0.ptr)
 (R (.slice none 0 0) h)
 (aw Tryz.prog (Instr.buildSlice 39 0 #[]) (.one (.sc .slc)) h fun v1 h1=>
 aw Tryz.prog (Builtin.append_ #[39,39] 39 #[(.slice v1.ptr v1.len v1.cap),(.slice s_0.ptr s_0.len s_0.cap)]) (.one (.sc .slc)) h1 fun v2 h2=>
 R (.slice v2.ptr v2.len v2.cap) h2)
theorem gW (s_0:Sl) {R:Value→Heap→Prop} {h:Heap} (hm:eg s_0 R h):ae Tryz.prog 80 #[(.slice s_0.ptr s_0.len s_0.cap)] h R:=al ag Tryz.func80 .n hm
abbrev xW:FuncId:=81
noncomputable def qn (n_0:Int) (t_1:Int) (R:Value→Heap→Prop) (h:Heap):Prop:=
 Br (decide (n_0≥(0:Int))) (Br (decide (n_0≤(64:Int))) (Br (decide (t_1≥(0:Int))) (R (.bool (decide (t_1≤n_0))) h) (R (.bool false) h)) (R (.bool false) h)) (R (.bool false) h)
theorem wg (n_0:Int) (t_1:Int) {R:Value→Heap→Prop} {h:Heap} (hm:qn n_0 t_1 R h):ae Tryz.prog 81 #[(.int .i64 n_0),(.int .i64 t_1)] h R:=al ag Tryz.func81 .n hm
abbrev A9:FuncId:=82
noncomputable def uB (n_0:Int) (t_1:Int) (R:Value→Heap→Prop) (h:Heap):Prop:=
 af Tryz.prog 81 #[(.int .i64 n_0),(.int .i64 t_1)] (.one (.sc .bool)) h fun r1 h1=>
 Br (!r1)
 (R (.tuple #[(.slice none 0 0),(.int .i64 (1:Int))]) h1)
 (af Tryz.prog 41 #[(.int .i64 n_0),(.int .i64 t_1)] (.one (.sc (.int .i64))) h1 fun r2 h2=>
 Br (decide (r2>(4096:Int)))
 (R (.tuple #[(.slice none 0 0),(.int .i64 (13:Int))]) h2)
 (aw Tryz.prog (Instr.makeSlice 22 (.int .i64 t_1) (.int .i64 t_1)) (.one (.sc .slc)) h2 fun v3 h3=>
 aH (σ:=Int) (fun s4 K1 h4=>
 Br (decide (s4<((v3.len:Nat):Int)))
 (∃a5:Addr,(v3.ptr=some a5∧0≤s4∧s4<((v3.len:Nat):Int))∧
 ab Tryz.prog (Instr.storeAt 3 (.pointer (some (a5.add (s4.toNat*1)))) (.int .i64 s4)) h4 fun _ h5=>
 K1 (IntKind.wrap .i64 (s4+(1:Int))) h5)
 (af Tryz.prog 79 #[(.slice v3.ptr v3.len v3.cap)] (.one (.sc .slc)) h4 fun r6 h6=>
 aw Tryz.prog (Instr.buildSlice 91 1 #[(0,(.slice r6.ptr r6.len r6.cap))]) (.one (.sc .slc)) h6 fun v7 h7=>
 aH (σ:=Sl) (fun s8 K2 h8=>
 af Tryz.prog 129 #[(.slice v3.ptr v3.len v3.cap),(.int .i64 n_0)] (.one (.sc .bool)) h8 fun r9 h9=>
 Br r9
 (af Tryz.prog 79 #[(.slice v3.ptr v3.len v3.cap)] (.one (.sc .slc)) h9 fun r10 h10=>
 aw Tryz.prog (Instr.buildSlice 91 1 #[(0,(.slice r10.ptr r10.len r10.cap))]) (.one (.sc .slc)) h10 fun v11 h11=>
 aw Tryz.prog (Builtin.append_ #[91,91] 91 #[(.slice s8.ptr s8.len s8.cap),(.slice v11.ptr v11.len v11.cap)]) (.one (.sc .slc)) h11 fun v12 h12=>
 K2 (⟨v12.ptr,v12.len,v12.cap⟩:Sl) h12)
 (R (.tuple #[(.slice s8.ptr s8.len s8.cap),(.int .i64 (0:Int))]) h9)) (⟨v7.ptr,v7.len,v7.cap⟩:Sl) h7)) (0:Int) h3))
theorem zM (n_0:Int) (t_1:Int) {R:Value→Heap→Prop} {h:Heap} (hm:uB n_0 t_1 R h):ae Tryz.prog 82 #[(.int .i64 n_0),(.int .i64 t_1)] h R:=al ag Tryz.func82 (.two .n (.two .n (.two .n (.two (.two .n (.inn (.loop [(23,(.sc (.int .i64)))] [(7,8),(23,31)] .n))) (.two .n (.two (.inn (.loop [(8,(.sc .slc))] [(8,9),(34,42)] .n)) .n)))))) hm
abbrev Ba:FuncId:=83
noncomputable def uC (p_0:Int×Int×Int) (R:Value→Heap→Prop) (h:Heap):Prop:=
 aU Tryz.prog (Instr.box 24 (.agg #[(.int .i64 p_0.1),(.int .i64 p_0.2.1),(.int .i64 p_0.2.2)])) h fun a1 h1=>
 ∃x2:Int×Int×Int,ak h1 a1 0 [(.int .i64 x2.1),(.int .i64 x2.2.1),(.int .i64 x2.2.2)]∧
 af Tryz.prog 29 #[(.agg #[(.int .i64 x2.1),(.int .i64 x2.2.1),(.int .i64 x2.2.2)])] (.one (.sc .bool)) h1 fun r3 h2=>
 Br (!r3)
 (R (.int .i64 (0:Int)) h2)
 (∃x4:Int,cellOf h2 a1=some (.int .i64 x4)∧
 ∃x5:Int,cellOf h2 (a1.add 1)=some (.int .i64 x5)∧
 R (.int .i64 (IntKind.wrap .i64 (x4+x5))) h2)
theorem zN (p_0:Int×Int×Int) {R:Value→Heap→Prop} {h:Heap} (hm:uC p_0 R h):ae Tryz.prog 83 #[(.agg #[(.int .i64 p_0.1),(.int .i64 p_0.2.1),(.int .i64 p_0.2.2)])] h R:=al ag Tryz.func83 .n hm
abbrev Bb:FuncId:=84
noncomputable def uD (f_0:Option Addr) (n_1:Int) (R:Value→Heap→Prop) (h:Heap):Prop:=
 ba (σ:=Unit) (fun _ h1=>
 ba (σ:=Option Addr) (fun s3 h3=>
 aU Tryz.prog (Instr.box 182 (.agg #[(.pointer s3),(.int .i64 n_1),(.slice none 0 0)])) h3 fun a4 h4=>
 R (.pointer (some a4)) h4)
 (fun K2=>
 Br (Option.isNone f_0)
 (af Tryz.prog 85 #[] (.one (.sc .ptr)) h1 fun r2 h2=>
 K2 r2 h2)
 (K2 f_0 h1)))
 (fun K1=>
 Br (decide (n_1<(0:Int))) (R (.pointer none) h) (Br (decide (n_1>(64:Int)))
 (R (.pointer none) h)
 (K1 () h)))
theorem zO (f_0:Option Addr) (n_1:Int) {R:Value→Heap→Prop} {h:Heap} (hm:uD f_0 n_1 R h):ae Tryz.prog 84 #[(.pointer f_0),(.int .i64 n_1)] h R:=al ag Tryz.func84 (.two .n (.two (.join [] [(4,11)] .n) (.two (.join [(0,(.sc .ptr))] [(0,1),(11,14)] .n) .n))) hm
abbrev D9:FuncId:=85
noncomputable def zP (R:Value→Heap→Prop) (h:Heap):Prop:=
 af Tryz.prog 130 #[] (.one (.arr (.int .u8))) h fun r1 h1=>
 aU Tryz.prog (Instr.alloc 183 true (.tuple #[])) h1 fun a2 h2=>
 ab Tryz.prog (Instr.storeAt 183 (.pointer (some a2)) (.agg (r1.map (Sc.enc (.int .u8))).toArray)) h2 fun _ h3=>
 ∃x3:List (Int),(x3.length=255∧ak h3 a2 0 (x3.map (Sc.enc (.int .u8))))∧
 ∃x4:List (Int),(x4.length=255∧ak h3 a2 0 (x4.map (Sc.enc (.int .u8))))∧
 af Tryz.prog 131 #[(.agg (x4.map (Sc.enc (.int .u8))).toArray)] (.one (.arr (.int .i64))) h3 fun r5 h4=>
 (aE.ok (gK a2 0 (x3.map (Sc.enc (.int .u8))) []) h4)∧
 ∃v6:Value,(ao Tryz.prog (Instr.build 188 #[(0,(.agg (x3.map (Sc.enc (.int .u8))).toArray)),(1,(.agg (r5.map (Sc.enc (.int .i64))).toArray))]) v6)∧
 aU Tryz.prog (Instr.box 188 v6) h4 fun a7 h5=>
 (aE.ok (gK a2 0 (x3.map (Sc.enc (.int .u8))) []) h5)∧
 R (.pointer (some a7)) h5
theorem CT {R:Value→Heap→Prop} {h:Heap} (hm:zP R h):ae Tryz.prog 85 #[] h R:=al ag Tryz.func85 .n hm
abbrev Bc:FuncId:=86
noncomputable def uE (p_0:Int×Int×Int) (R:Value→Heap→Prop) (h:Heap):Prop:=
 aU Tryz.prog (Instr.box 24 (.agg #[(.int .i64 p_0.1),(.int .i64 p_0.2.1),(.int .i64 p_0.2.2)])) h fun a1 h1=>
 ∃x2:Int×Int×Int,ak h1 a1 0 [(.int .i64 x2.1),(.int .i64 x2.2.1),(.int .i64 x2.2.2)]∧
 af Tryz.prog 29 #[(.agg #[(.int .i64 x2.1),(.int .i64 x2.2.1),(.int .i64 x2.2.2)])] (.one (.sc .bool)) h1 fun r3 h2=>
 Br (!r3)
 (R (.slice none 0 0) h2)
 (af Tryz.prog 85 #[] (.one (.sc .ptr)) h2 fun r4 h3=>
 ∃x5:Int,cellOf h3 (a1.add 1)=some (.int .i64 x5)∧
 aH (σ:=Sl×Int) (fun s6 K1 h4=>
 Br (decide (s6.2<x5))
 (ba (σ:=Sl) (fun s11 h7=>
 ∃x12:Int,cellOf h7 a1=some (.int .i64 x12)∧
 aH (σ:=Int) (fun s13 K3 h8=>
 Br (decide (s13<x12))
 (af Tryz.prog 133 #[(.pointer r4),(.int .i64 (IntKind.wrap .i64 ((IntKind.wrap .i64 (s6.2+(1:Int)))*(IntKind.wrap .i64 (s13+(1:Int))))))] (.one (.sc (.int .u8))) h8 fun r14 h9=>
 ∃a15:Addr,(s11.ptr=some a15∧0≤s13∧s13<((s11.len:Nat):Int))∧
 ab Tryz.prog (Instr.storeAt 5 (.pointer (some (a15.add (s13.toNat*1)))) (.int .u8 r14)) h9 fun _ h10=>
 K3 (IntKind.wrap .i64 (s13+(1:Int))) h10)
 (aw Tryz.prog (Instr.buildSlice 70 1 #[(0,(.slice s11.ptr s11.len s11.cap))]) (.one (.sc .slc)) h8 fun v16 h11=>
 aw Tryz.prog (Builtin.append_ #[70,70] 70 #[(.slice s6.1.ptr s6.1.len s6.1.cap),(.slice v16.ptr v16.len v16.cap)]) (.one (.sc .slc)) h11 fun v17 h12=>
 K1 ((⟨v17.ptr,v17.len,v17.cap⟩:Sl),IntKind.wrap .i64 (s6.2+(1:Int))) h12)) (0:Int) h7)
 (fun K2=>
 ∃x7:Int×Int×Int,ak h4 a1 0 [(.int .i64 x7.1),(.int .i64 x7.2.1),(.int .i64 x7.2.2)]∧
 ∃x8:Int,cellOf h4 a1=some (.int .i64 x8)∧
 af Tryz.prog 83 #[(.agg #[(.int .i64 x7.1),(.int .i64 x7.2.1),(.int .i64 x7.2.2)])] (.one (.sc (.int .i64))) h4 fun r9 h5=>
 (aE.ok [(a1,(.int .i64 x8))] h5)∧
 af Tryz.prog 132 #[(.int .i64 r9),(.int .i64 (IntKind.wrap .i64 (x8+s6.2)))] (.one (.sc .slc)) h5 fun r10 h6=>
 (aE.ok [(a1,(.int .i64 x8))] h6)∧
 K2 (⟨r10.ptr,r10.len,r10.cap⟩:Sl) h6))
 (R (.slice s6.1.ptr s6.1.len s6.1.cap) h4)) ((⟨none,0,0⟩:Sl),(0:Int)) h3)
theorem zQ (p_0:Int×Int×Int) {R:Value→Heap→Prop} {h:Heap} (hm:uE p_0 R h):ae Tryz.prog 86 #[(.agg #[(.int .i64 p_0.1),(.int .i64 p_0.2.1),(.int .i64 p_0.2.2)])] h R:=al ag Tryz.func86 (.two .n (.two .n (.two .n (.two .n (.two (.two .n (.inn (.loop [(4,(.sc .slc)),(14,(.sc (.int .i64)))] [(4,8),(14,45)] (.two .n (.two .n (.two (.inn (.two .n (.two (.join [(6,(.sc .slc))] [(6,7),(17,24)] .n) (.two (.two .n (.inn (.loop [(26,(.sc (.int .i64)))] [(7,8),(26,40)] .n))) .n)))) .n)))))) .n))))) hm
abbrev tb:FuncId:=87
noncomputable def mw (s_0:Option Addr) (r_1:Sl) (R:Value→Heap→Prop) (h:Heap):Prop:=
 af Tryz.prog 134 #[(.pointer s_0),(.slice r_1.ptr r_1.len r_1.cap)] (.many [(.sc .slc),(.sc .bool)]) h fun r1 h1=>
 ba (σ:=Unit) (fun _ h3=>
 ∃a4:Addr,(s_0=some a4)∧
 ∃x5:Option Addr,cellOf h3 a4=some (.pointer x5)∧
 ∃a6:Addr,(s_0=some a6)∧
 ∃x7:Sl,cellOf h3 (a6.add 2)=some (.slice x7.ptr x7.len x7.cap)∧
 aw Tryz.prog (Instr.buildSlice 70 1 #[(0,(.slice r1.1.ptr r1.1.len r1.1.cap))]) (.one (.sc .slc)) h3 fun v8 h4=>
 (aE.ok [(a6.add 2,(.slice x7.ptr x7.len x7.cap)),(a4,(.pointer x5))] h4)∧
 aw Tryz.prog (Builtin.append_ #[70,70] 70 #[(.slice x7.ptr x7.len x7.cap),(.slice v8.ptr v8.len v8.cap)]) (.one (.sc .slc)) h4 fun v9 h5=>
 (aE.ok [(a4,(.pointer x5))] h5)∧
 af Tryz.prog 136 #[(.pointer x5),(.slice v9.ptr v9.len v9.cap)] (.one (.sc .slc)) h5 fun r10 h6=>
 (aE.ok [] h6)∧
 ∃a11:Addr,(s_0=some a11)∧
 ab Tryz.prog (Instr.storeAt 70 (.pointer (some (a11.add 2))) (.slice r10.ptr r10.len r10.cap)) h6 fun _ h7=>
 (aE.ok [] h7)∧
 R (.bool true) h7)
 (fun K1=>
 Br (!r1.2) (R (.bool false) h1) (af Tryz.prog 135 #[(.slice r1.1.ptr r1.1.len r1.1.cap)] (.one (.sc (.int .i64))) h1 fun r2 h2=>
 Br (decide (r2<(0:Int)))
 (R (.bool false) h2)
 (K1 () h2)))
theorem rA (s_0:Option Addr) (r_1:Sl) {R:Value→Heap→Prop} {h:Heap} (hm:mw s_0 r_1 R h):ae Tryz.prog 87 #[(.pointer s_0),(.slice r_1.ptr r_1.len r_1.cap)] h R:=al ag Tryz.func87 (.two .n (.two .n (.two (.join [] [(4,5),(13,20)] .n) .n))) hm
end Go.Proofs.YtkciobclldnoiaaGreatDoor
