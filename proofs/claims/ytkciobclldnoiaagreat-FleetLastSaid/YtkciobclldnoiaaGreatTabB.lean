/- Part of the proofs that the laws of this seat answer true whatever the input reads, and leave it as it was; no condition. -/
import Derived.Test.YtkciobclldnoiaaGreatTabA
set_option linter.unusedVariables false
set_option linter.unusedSimpArgs false
namespace Go.Proofs.YtkciobclldnoiaaGreat
open Go Go.Vc Go.Proofs
set_option maxRecDepth 1000000
abbrev DM:FuncId:=29
noncomputable def vO (m_0:Int×Int×Int×Int×Int×Int×Sl×Sl) (R:Value→Heap→Prop) (h:Heap):Prop:=
 aK Tryz.prog (Instr.box 42 (.agg #[(.int .i64 m_0.1),(.int .i64 m_0.2.1),(.int .i64 m_0.2.2.1),(.int .i64 m_0.2.2.2.1),(.int .i64 m_0.2.2.2.2.1),(.int .i64 m_0.2.2.2.2.2.1),(.slice m_0.2.2.2.2.2.2.1.ptr m_0.2.2.2.2.2.2.1.len m_0.2.2.2.2.2.2.1.cap),(.slice m_0.2.2.2.2.2.2.2.ptr m_0.2.2.2.2.2.2.2.len m_0.2.2.2.2.2.2.2.cap)])) h fun a1 h1=>
 ∃x2:Int×Int×Int×Int×Int×Int×Sl×Sl,ai h1 a1 0 [(.int .i64 x2.1),(.int .i64 x2.2.1),(.int .i64 x2.2.2.1),(.int .i64 x2.2.2.2.1),(.int .i64 x2.2.2.2.2.1),(.int .i64 x2.2.2.2.2.2.1),(.slice x2.2.2.2.2.2.2.1.ptr x2.2.2.2.2.2.2.1.len x2.2.2.2.2.2.2.1.cap),(.slice x2.2.2.2.2.2.2.2.ptr x2.2.2.2.2.2.2.2.len x2.2.2.2.2.2.2.2.cap)]∧
 af Tryz.prog 70 #[(.agg #[(.int .i64 x2.1),(.int .i64 x2.2.1),(.int .i64 x2.2.2.1),(.int .i64 x2.2.2.2.1),(.int .i64 x2.2.2.2.2.1),(.int .i64 x2.2.2.2.2.2.1),(.slice x2.2.2.2.2.2.2.1.ptr x2.2.2.2.2.2.2.1.len x2.2.2.2.2.2.2.1.cap),(.slice x2.2.2.2.2.2.2.2.ptr x2.2.2.2.2.2.2.2.len x2.2.2.2.2.2.2.2.cap)])] (.one (.sc .slc)) h1 fun r3 h2=>
 ((48:Int)≠0)∧
 aO (σ:=Sl×Int) (fun s4 K1 h3=>
 Br (decide (s4.2<(IntKind.wrap .i64 (Int.tdiv (IntKind.wrap .i64 ((IntKind.wrap .i64 (((r3.len:Nat):Int)+(48:Int)))-(1:Int))) (48:Int)))))
 (∃x5:Int,cellOf h3 a1=some (.int .i64 x5)∧
 (0≤(IntKind.wrap .i64 (s4.2*(48:Int)))∧(IntKind.wrap .i64 (s4.2*(48:Int)))≤(if(IntKind.wrap .i64 ((IntKind.wrap .i64 (s4.2+(1:Int)))*(48:Int)))<((r3.len:Nat):Int)then IntKind.wrap .i64 ((IntKind.wrap .i64 (s4.2+(1:Int)))*(48:Int))else((r3.len:Nat):Int))∧(if(IntKind.wrap .i64 ((IntKind.wrap .i64 (s4.2+(1:Int)))*(48:Int)))<((r3.len:Nat):Int)then IntKind.wrap .i64 ((IntKind.wrap .i64 (s4.2+(1:Int)))*(48:Int))else((r3.len:Nat):Int))≤((r3.cap:Nat):Int))∧
 af Tryz.prog 71 #[(.int .i64 x5),(.int .i64 s4.2),(.int .i64 (IntKind.wrap .i64 (Int.tdiv (IntKind.wrap .i64 ((IntKind.wrap .i64 (((r3.len:Nat):Int)+(48:Int)))-(1:Int))) (48:Int)))),(.slice (if r3.cap=(IntKind.wrap .i64 (s4.2*(48:Int))).toNat then r3.ptr else r3.ptr.map (·.add ((IntKind.wrap .i64 (s4.2*(48:Int))).toNat*1))) ((if(IntKind.wrap .i64 ((IntKind.wrap .i64 (s4.2+(1:Int)))*(48:Int)))<((r3.len:Nat):Int)then IntKind.wrap .i64 ((IntKind.wrap .i64 (s4.2+(1:Int)))*(48:Int))else((r3.len:Nat):Int)).toNat-(IntKind.wrap .i64 (s4.2*(48:Int))).toNat) (r3.cap-(IntKind.wrap .i64 (s4.2*(48:Int))).toNat))] (.one (.sc .slc)) h3 fun r6 h4=>
 (ak.ok [] h4)∧
 az Tryz.prog (Instr.buildSlice 65 1 #[(0,(.slice r6.ptr r6.len r6.cap))]) (.one (.sc .slc)) h4 fun v7 h5=>
 (ak.ok [] h5)∧
 az Tryz.prog (Builtin.append_ #[65,65] 65 #[(.slice s4.1.ptr s4.1.len s4.1.cap),(.slice v7.ptr v7.len v7.cap)]) (.one (.sc .slc)) h5 fun v8 h6=>
 (ak.ok [] h6)∧
 K1 ((⟨v8.ptr,v8.len,v8.cap⟩:Sl),IntKind.wrap .i64 (s4.2+(1:Int))) h6)
 (R (.slice s4.1.ptr s4.1.len s4.1.cap) h3)) ((⟨none,0,0⟩:Sl),(0:Int)) h2
theorem Ca (m_0:Int×Int×Int×Int×Int×Int×Sl×Sl) {R:Value→Heap→Prop} {h:Heap} (hm:vO m_0 R h):ab Tryz.prog 29 #[(.agg #[(.int .i64 m_0.1),(.int .i64 m_0.2.1),(.int .i64 m_0.2.2.1),(.int .i64 m_0.2.2.2.1),(.int .i64 m_0.2.2.2.2.1),(.int .i64 m_0.2.2.2.2.2.1),(.slice m_0.2.2.2.2.2.2.1.ptr m_0.2.2.2.2.2.2.1.len m_0.2.2.2.2.2.2.1.cap),(.slice m_0.2.2.2.2.2.2.2.ptr m_0.2.2.2.2.2.2.2.len m_0.2.2.2.2.2.2.2.cap)])] h R:=aq ag Tryz.func29 (.two .n (.two .n (.two .n (.two .n (.two (.two .n (.inn (.loop [(5,(.sc .slc)),(16,(.sc (.int .i64)))] [(5,8),(16,39)] .n))) .n))))) hm
abbrev Fi:FuncId:=30
noncomputable def ya (cells_0:Int) (p_1:Option Addr) (R:Value→Heap→Prop) (h:Heap):Prop:=
 aZ (σ:=Unit) (fun _ h1=>
 aK Tryz.prog (Instr.box 81 (.agg #[(.pointer p_1),(.int .i64 cells_0),(.slice none 0 0),(.int .i64 (0:Int)),(.slice none 0 0),(.bool false),(.bool false)])) h1 fun a2 h2=>
 R (.pointer (some a2)) h2)
 (fun K1=>
 Br (decide (cells_0<(1:Int))) (R (.pointer none) h) (Br (decide (cells_0>(512:Int))) (R (.pointer none) h) (Br (Option.isNone p_1)
 (R (.pointer none) h)
 (K1 () h))))
theorem DN (cells_0:Int) (p_1:Option Addr) {R:Value→Heap→Prop} {h:Heap} (hm:ya cells_0 p_1 R h):ab Tryz.prog 30 #[(.int .i64 cells_0),(.pointer p_1)] h R:=aq ag Tryz.func30 (.two .n (.two (.join [] [(4,15)] .n) .n)) hm
abbrev Ju:FuncId:=31
noncomputable def Da (at_0:FuncId×Array Value×Array Value) (l_1:Sl) (R:Value→Heap→Prop) (h:Heap):Prop:=
 aO (σ:=Sl×Int) (fun s1 K1 h1=>
 Br (decide (s1.2<((l_1.len:Nat):Int)))
 (∃a2:Addr,(l_1.ptr=some a2∧0≤s1.2∧s1.2<((l_1.len:Nat):Int))∧
 ∃x3:Int×Sl,ai h1 (a2.add (s1.2.toNat*2)) 0 [(.int .i64 x3.1),(.slice x3.2.ptr x3.2.len x3.2.cap)]∧
 aK Tryz.prog (Instr.alloc 96 true (.tuple #[])) h1 fun a4 h2=>
 ae Tryz.prog (Instr.storeAt 96 (.pointer (some a4)) (.agg #[(.int .i64 x3.1),(.slice x3.2.ptr x3.2.len x3.2.cap)])) h2 fun _ h3=>
 aZ (σ:=Unit) (fun _ h7=>
 ∃x11:Int,cellOf h7 a4=some (.int .i64 x11)∧
 az Tryz.prog (Instr.buildSlice 22 1 #[(0,(.int .i64 x11))]) (.one (.sc .slc)) h7 fun v12 h8=>
 az Tryz.prog (Builtin.append_ #[22,22] 22 #[(.slice s1.1.ptr s1.1.len s1.1.cap),(.slice v12.ptr v12.len v12.cap)]) (.one (.sc .slc)) h8 fun v13 h9=>
 K1 ((⟨v13.ptr,v13.len,v13.cap⟩:Sl),IntKind.wrap .i64 (s1.2+(1:Int))) h9)
 (fun K2=>
 aZ (σ:=Int) (fun s9 h6=>
 Br (s9 !=(0:Int))
 (R (.int .i64 s9) h6)
 (K2 () h6))
 (fun K3=>
 ∃x5:Int,cellOf h3 a4=some (.int .i64 x5)∧
 ∃x6:Sl,cellOf h3 (a4.add 1)=some (.slice x6.ptr x6.len x6.cap)∧
 fI C at_0.1 (at_0.2.1.toList++[(.int .i64 x5)]++at_0.2.2.toList) (.one (.sc .ptr)) h3 fun r7 h4=>
 (ak.ok [(a4.add 1,(.slice x6.ptr x6.len x6.cap))] h4)∧
 af Tryz.prog 72 #[(.pointer r7),(.slice x6.ptr x6.len x6.cap)] (.one (.sc (.int .i64))) h4 fun r8 h5=>
 (ak.ok [] h5)∧
 K3 r8 h5)))
 (af Tryz.prog 73 #[(.func (.func at_0.1) at_0.2.1 at_0.2.2),(.slice s1.1.ptr s1.1.len s1.1.cap)] (.one (.sc (.int .i64))) h1 fun r14 h10=>
 R (.int .i64 r14) h10)) ((⟨none,0,0⟩:Sl),(0:Int)) h
theorem G9 (at_0:FuncId×Array Value×Array Value) (l_1:Sl) {R:Value→Heap→Prop} {h:Heap} (hm:Da at_0 l_1 R h):ab Tryz.prog 31 #[(.func (.func at_0.1) at_0.2.1 at_0.2.2),(.slice l_1.ptr l_1.len l_1.cap)] h R:=aq ag Tryz.func31 (.two .n (.two .n (.two (.two .n (.inn (.loop [(5,(.sc .slc)),(11,(.sc (.int .i64)))] [(4,6),(7,9),(11,31)] (.two .n (.two .n (.two (.inn (.two .n (.two (.join [] [(4,5),(8,9),(15,25)] (.two (.join [(8,(.sc (.int .i64)))] [(8,9),(15,22)] .n) .n)) .n))) .n)))))) .n))) hm
abbrev Fj:FuncId:=32
noncomputable def yb (m_0:Int×Int×Int×Int×Int×Int×Sl×Sl) (slots_1:Sl) (R:Value→Heap→Prop) (h:Heap):Prop:=
 aK Tryz.prog (Instr.box 42 (.agg #[(.int .i64 m_0.1),(.int .i64 m_0.2.1),(.int .i64 m_0.2.2.1),(.int .i64 m_0.2.2.2.1),(.int .i64 m_0.2.2.2.2.1),(.int .i64 m_0.2.2.2.2.2.1),(.slice m_0.2.2.2.2.2.2.1.ptr m_0.2.2.2.2.2.2.1.len m_0.2.2.2.2.2.2.1.cap),(.slice m_0.2.2.2.2.2.2.2.ptr m_0.2.2.2.2.2.2.2.len m_0.2.2.2.2.2.2.2.cap)])) h fun a1 h1=>
 ∃x2:Int×Int×Int×Int×Int×Int×Sl×Sl,ai h1 a1 0 [(.int .i64 x2.1),(.int .i64 x2.2.1),(.int .i64 x2.2.2.1),(.int .i64 x2.2.2.2.1),(.int .i64 x2.2.2.2.2.1),(.int .i64 x2.2.2.2.2.2.1),(.slice x2.2.2.2.2.2.2.1.ptr x2.2.2.2.2.2.2.1.len x2.2.2.2.2.2.2.1.cap),(.slice x2.2.2.2.2.2.2.2.ptr x2.2.2.2.2.2.2.2.len x2.2.2.2.2.2.2.2.cap)]∧
 af Tryz.prog 29 #[(.agg #[(.int .i64 x2.1),(.int .i64 x2.2.1),(.int .i64 x2.2.2.1),(.int .i64 x2.2.2.2.1),(.int .i64 x2.2.2.2.2.1),(.int .i64 x2.2.2.2.2.2.1),(.slice x2.2.2.2.2.2.2.1.ptr x2.2.2.2.2.2.2.1.len x2.2.2.2.2.2.2.1.cap),(.slice x2.2.2.2.2.2.2.2.ptr x2.2.2.2.2.2.2.2.len x2.2.2.2.2.2.2.2.cap)])] (.one (.sc .slc)) h1 fun r3 h2=>
 aO (σ:=Sl×Int) (fun s4 K1 h3=>
 Br (decide (s4.2<((slots_1.len:Nat):Int)))
 (∃a5:Addr,(slots_1.ptr=some a5∧0≤s4.2∧s4.2<((slots_1.len:Nat):Int))∧
 ∃x6:Int,cellOf h3 (a5.add (s4.2.toNat*1))=some (.int .i64 x6)∧
 aO (σ:=Sl×Int) (fun s7 K2 h4=>
 Br (decide (s7.2<((r3.len:Nat):Int)))
 (∃a8:Addr,(r3.ptr=some a8∧0≤s7.2∧s7.2<((r3.len:Nat):Int))∧
 ∃x9:Sl,cellOf h4 (a8.add (s7.2.toNat*1))=some (.slice x9.ptr x9.len x9.cap)∧
 az Tryz.prog (Instr.buildSlice 69 1 #[(0,(.agg #[(.int .i64 x6),(.slice x9.ptr x9.len x9.cap)]))]) (.one (.sc .slc)) h4 fun v10 h5=>
 az Tryz.prog (Builtin.append_ #[69,69] 69 #[(.slice s7.1.ptr s7.1.len s7.1.cap),(.slice v10.ptr v10.len v10.cap)]) (.one (.sc .slc)) h5 fun v11 h6=>
 K2 ((⟨v11.ptr,v11.len,v11.cap⟩:Sl),IntKind.wrap .i64 (s7.2+(1:Int))) h6)
 (K1 ((⟨s7.1.ptr,s7.1.len,s7.1.cap⟩:Sl),IntKind.wrap .i64 (s4.2+(1:Int))) h4)) ((⟨s4.1.ptr,s4.1.len,s4.1.cap⟩:Sl),(0:Int)) h3)
 (R (.slice s4.1.ptr s4.1.len s4.1.cap) h3)) ((⟨none,0,0⟩:Sl),(0:Int)) h2
theorem DO (m_0:Int×Int×Int×Int×Int×Int×Sl×Sl) (slots_1:Sl) {R:Value→Heap→Prop} {h:Heap} (hm:yb m_0 slots_1 R h):ab Tryz.prog 32 #[(.agg #[(.int .i64 m_0.1),(.int .i64 m_0.2.1),(.int .i64 m_0.2.2.1),(.int .i64 m_0.2.2.2.1),(.int .i64 m_0.2.2.2.2.1),(.int .i64 m_0.2.2.2.2.2.1),(.slice m_0.2.2.2.2.2.2.1.ptr m_0.2.2.2.2.2.2.1.len m_0.2.2.2.2.2.2.1.cap),(.slice m_0.2.2.2.2.2.2.2.ptr m_0.2.2.2.2.2.2.2.len m_0.2.2.2.2.2.2.2.cap)]),(.slice slots_1.ptr slots_1.len slots_1.cap)] h R:=aq ag Tryz.func32 (.two .n (.two .n (.two .n (.two (.two .n (.inn (.loop [(6,(.sc .slc)),(15,(.sc (.int .i64)))] [(6,7),(8,9),(10,11),(15,33)] (.two .n (.two .n (.two (.inn (.two .n (.two .n (.inn (.loop [(6,(.sc .slc)),(21,(.sc (.int .i64)))] [(6,7),(10,11),(21,32)] .n))))) .n)))))) .n)))) hm
abbrev Fk:FuncId:=33
noncomputable def yc (s_0:Option Addr) (R:Value→Heap→Prop) (h:Heap):Prop:=
 Br (Option.isNone s_0) (R (.bool true) h) (af Tryz.prog 74 #[(.pointer s_0)] (.one (.sc .bool)) h fun r1 h1=>
 R (.bool r1) h1)
theorem DP (s_0:Option Addr) {R:Value→Heap→Prop} {h:Heap} (hm:yc s_0 R h):ab Tryz.prog 33 #[(.pointer s_0)] h R:=aq ag Tryz.func33 .n hm
abbrev Cb:FuncId:=34
noncomputable def uk (slot_0:Int) (cells_1:Int) (R:Value→Heap→Prop) (h:Heap):Prop:=
 Br (decide (slot_0≥(0:Int))) (Br (decide (slot_0<(64:Int))) (Br (decide (cells_1≥(1:Int))) (R (.bool (decide (cells_1≤(512:Int)))) h) (R (.bool false) h)) (R (.bool false) h)) (R (.bool false) h)
theorem Ag (slot_0:Int) (cells_1:Int) {R:Value→Heap→Prop} {h:Heap} (hm:uk slot_0 cells_1 R h):ab Tryz.prog 34 #[(.int .i64 slot_0),(.int .i64 cells_1)] h R:=aq ag Tryz.func34 .n hm
abbrev oc:FuncId:=35
noncomputable def jF (s_0:Sl) (v_1:Int) (R:Value→Heap→Prop) (h:Heap):Prop:=
 af Tryz.prog 75 #[(.slice s_0.ptr s_0.len s_0.cap),(.int .i64 v_1)] (.one (.sc (.int .i64))) h fun r1 h1=>
 R (.bool (decide (r1≥(0:Int)))) h1
theorem nB (s_0:Sl) (v_1:Int) {R:Value→Heap→Prop} {h:Heap} (hm:jF s_0 v_1 R h):ab Tryz.prog 35 #[(.slice s_0.ptr s_0.len s_0.cap),(.int .i64 v_1)] h R:=aq ag Tryz.func35 .n hm
abbrev vP:FuncId:=36
noncomputable def oo (s_0:Option Addr) (slot_1:Int) (d_2:Option Addr) (R:Value→Heap→Prop) (h:Heap):Prop:=
 Br (!(Option.isNone s_0)) (Br (decide (slot_1≥(0:Int))) (Br (decide (slot_1<(64:Int)))
 (∃a1:Addr,(s_0=some a1)∧
 (0≤slot_1∧slot_1<((64:Nat):Int))∧
 ae Tryz.prog (Instr.storeAt 37 (.pointer (some ((a1.add 10).add (slot_1.toNat*1)))) (.pointer d_2)) h fun _ h1=>
 R (.tuple #[]) h1)
 (R (.tuple #[]) h)) (R (.tuple #[]) h)) (R (.tuple #[]) h)
theorem uV (s_0:Option Addr) (slot_1:Int) (d_2:Option Addr) {R:Value→Heap→Prop} {h:Heap} (hm:oo s_0 slot_1 d_2 R h):ab Tryz.prog 36 #[(.pointer s_0),(.int .i64 slot_1),(.pointer d_2)] h R:=aq ag Tryz.func36 .n hm
abbrev ra:FuncId:=38
abbrev rS:FuncId:=39
noncomputable def lJ (s_0:Option Addr) (n_1:Int×Int×Int×Int×Int×Int×Sl×Sl) (R:Value→Heap→Prop) (h:Heap):Prop:=
 aK Tryz.prog (Instr.box 42 (.agg #[(.int .i64 n_1.1),(.int .i64 n_1.2.1),(.int .i64 n_1.2.2.1),(.int .i64 n_1.2.2.2.1),(.int .i64 n_1.2.2.2.2.1),(.int .i64 n_1.2.2.2.2.2.1),(.slice n_1.2.2.2.2.2.2.1.ptr n_1.2.2.2.2.2.2.1.len n_1.2.2.2.2.2.2.1.cap),(.slice n_1.2.2.2.2.2.2.2.ptr n_1.2.2.2.2.2.2.2.len n_1.2.2.2.2.2.2.2.cap)])) h fun a1 h1=>
 af Tryz.prog 78 #[(.pointer s_0)] (.one (.sc .bool)) h1 fun r2 h2=>
 Br r2
 (R (.int .i64 (14:Int)) h2)
 (aZ (σ:=Unit) (fun _ h4=>
 ∃x9:Sl,cellOf h4 (a1.add 6)=some (.slice x9.ptr x9.len x9.cap)∧
 af Tryz.prog 40 #[(.func (.func 12) #[(.pointer s_0)] #[]),(.slice x9.ptr x9.len x9.cap)] (.one (.sc .slc)) h4 fun r10 h5=>
 ∃x11:Int×Int×Int×Int×Int×Int×Sl×Sl,ai h5 a1 0 [(.int .i64 x11.1),(.int .i64 x11.2.1),(.int .i64 x11.2.2.1),(.int .i64 x11.2.2.2.1),(.int .i64 x11.2.2.2.2.1),(.int .i64 x11.2.2.2.2.2.1),(.slice x11.2.2.2.2.2.2.1.ptr x11.2.2.2.2.2.2.1.len x11.2.2.2.2.2.2.1.cap),(.slice x11.2.2.2.2.2.2.2.ptr x11.2.2.2.2.2.2.2.len x11.2.2.2.2.2.2.2.cap)]∧
 af Tryz.prog 29 #[(.agg #[(.int .i64 x11.1),(.int .i64 x11.2.1),(.int .i64 x11.2.2.1),(.int .i64 x11.2.2.2.1),(.int .i64 x11.2.2.2.2.1),(.int .i64 x11.2.2.2.2.2.1),(.slice x11.2.2.2.2.2.2.1.ptr x11.2.2.2.2.2.2.1.len x11.2.2.2.2.2.2.1.cap),(.slice x11.2.2.2.2.2.2.2.ptr x11.2.2.2.2.2.2.2.len x11.2.2.2.2.2.2.2.cap)])] (.one (.sc .slc)) h5 fun r12 h6=>
 aK Tryz.prog (Instr.alloc 3 true (.tuple #[])) h6 fun a13 h7=>
 ae Tryz.prog (Instr.storeAt 3 (.pointer (some a13)) (.int .i64 ((r12.len:Nat):Int))) h7 fun _ h8=>
 aZ (σ:=Unit) (fun _ h10=>
 af Tryz.prog 54 #[(.pointer s_0),(.slice r10.ptr r10.len r10.cap),(.func (.func 79) #[] #[(.pointer (some a13))])] (.one (.sc (.int .i64))) h10 fun r16 h11=>
 Br (r16 !=(0:Int))
 (R (.int .i64 r16) h11)
 (∃x17:Int×Int×Int×Int×Int×Int×Sl×Sl,ai h11 a1 0 [(.int .i64 x17.1),(.int .i64 x17.2.1),(.int .i64 x17.2.2.1),(.int .i64 x17.2.2.2.1),(.int .i64 x17.2.2.2.2.1),(.int .i64 x17.2.2.2.2.2.1),(.slice x17.2.2.2.2.2.2.1.ptr x17.2.2.2.2.2.2.1.len x17.2.2.2.2.2.2.1.cap),(.slice x17.2.2.2.2.2.2.2.ptr x17.2.2.2.2.2.2.2.len x17.2.2.2.2.2.2.2.cap)]∧
 af Tryz.prog 55 #[(.pointer s_0),(.agg #[(.int .i64 x17.1),(.int .i64 x17.2.1),(.int .i64 x17.2.2.1),(.int .i64 x17.2.2.2.1),(.int .i64 x17.2.2.2.2.1),(.int .i64 x17.2.2.2.2.2.1),(.slice x17.2.2.2.2.2.2.1.ptr x17.2.2.2.2.2.2.1.len x17.2.2.2.2.2.2.1.cap),(.slice x17.2.2.2.2.2.2.2.ptr x17.2.2.2.2.2.2.2.len x17.2.2.2.2.2.2.2.cap)]),(.slice r10.ptr r10.len r10.cap)] (.one (.sc (.int .i64))) h11 fun r18 h12=>
 R (.int .i64 r18) h12))
 (fun K2=>
 Br (((r10.len:Nat):Int)==(0:Int)) (R (.int .i64 (7:Int)) h8) (af Tryz.prog 53 #[(.pointer s_0),(.slice r10.ptr r10.len r10.cap),(.func (.func 79) #[] #[(.pointer (some a13))])] (.one (.sc .bool)) h8 fun r14 h9=>
 Br (!r14)
 (R (.int .i64 (7:Int)) h9)
 (K2 () h9))))
 (fun K1=>
 ∃x3:Int×Int×Int×Int×Int×Int×Sl×Sl,ai h2 a1 0 [(.int .i64 x3.1),(.int .i64 x3.2.1),(.int .i64 x3.2.2.1),(.int .i64 x3.2.2.2.1),(.int .i64 x3.2.2.2.2.1),(.int .i64 x3.2.2.2.2.2.1),(.slice x3.2.2.2.2.2.2.1.ptr x3.2.2.2.2.2.2.1.len x3.2.2.2.2.2.2.1.cap),(.slice x3.2.2.2.2.2.2.2.ptr x3.2.2.2.2.2.2.2.len x3.2.2.2.2.2.2.2.cap)]∧
 af Tryz.prog 42 #[(.agg #[(.int .i64 x3.1),(.int .i64 x3.2.1),(.int .i64 x3.2.2.1),(.int .i64 x3.2.2.2.1),(.int .i64 x3.2.2.2.2.1),(.int .i64 x3.2.2.2.2.2.1),(.slice x3.2.2.2.2.2.2.1.ptr x3.2.2.2.2.2.2.1.len x3.2.2.2.2.2.2.1.cap),(.slice x3.2.2.2.2.2.2.2.ptr x3.2.2.2.2.2.2.2.len x3.2.2.2.2.2.2.2.cap)])] (.one (.sc .bool)) h2 fun r4 h3=>
 (ak.ok [] h3)∧
 Br (!r4) (R (.int .i64 (1:Int)) h3) (∃x5:Int,cellOf h3 a1=some (.int .i64 x5)∧
 ∃a6:Addr,(s_0=some a6)∧
 ∃x7:Int,cellOf h3 a6=some (.int .i64 x7)∧
 Br (x5 !=(IntKind.wrap .i64 (x7+(1:Int))))
 (R (.int .i64 (1:Int)) h3)
 (K1 () h3))))
theorem re (s_0:Option Addr) (n_1:Int×Int×Int×Int×Int×Int×Sl×Sl) {R:Value→Heap→Prop} {h:Heap} (hm:lJ s_0 n_1 R h):ab Tryz.prog 39 #[(.pointer s_0),(.agg #[(.int .i64 n_1.1),(.int .i64 n_1.2.1),(.int .i64 n_1.2.2.1),(.int .i64 n_1.2.2.2.1),(.int .i64 n_1.2.2.2.2.1),(.int .i64 n_1.2.2.2.2.2.1),(.slice n_1.2.2.2.2.2.2.1.ptr n_1.2.2.2.2.2.2.1.len n_1.2.2.2.2.2.2.1.cap),(.slice n_1.2.2.2.2.2.2.2.ptr n_1.2.2.2.2.2.2.2.len n_1.2.2.2.2.2.2.2.cap)])] h R:=aq ag Tryz.func39 (.two .n (.two .n (.two (.join [] [(4,5),(11,25)] .n) (.two .n (.two .n (.two .n (.two (.join [] [(4,5),(34,44)] .n) .n))))))) hm
abbrev Ha:FuncId:=40
noncomputable def Ah (at_0:FuncId×Array Value×Array Value) (slots_1:Sl) (R:Value→Heap→Prop) (h:Heap):Prop:=
 aO (σ:=Sl×Int) (fun s1 K1 h1=>
 Br (decide (s1.2<((slots_1.len:Nat):Int)))
 (∃a2:Addr,(slots_1.ptr=some a2∧0≤s1.2∧s1.2<((slots_1.len:Nat):Int))∧
 ∃x3:Int,cellOf h1 (a2.add (s1.2.toNat*1))=some (.int .i64 x3)∧
 fI C at_0.1 (at_0.2.1.toList++[(.int .i64 x3)]++at_0.2.2.toList) (.one (.sc .ptr)) h1 fun r4 h2=>
 Br (!(Option.isNone r4)) (af Tryz.prog 80 #[(.pointer r4)] (.one (.sc .bool)) h2 fun r5 h3=>
 Br (!r5)
 (az Tryz.prog (Instr.buildSlice 22 1 #[(0,(.int .i64 x3))]) (.one (.sc .slc)) h3 fun v6 h4=>
 az Tryz.prog (Builtin.append_ #[22,22] 22 #[(.slice s1.1.ptr s1.1.len s1.1.cap),(.slice v6.ptr v6.len v6.cap)]) (.one (.sc .slc)) h4 fun v7 h5=>
 K1 ((⟨v7.ptr,v7.len,v7.cap⟩:Sl),IntKind.wrap .i64 (s1.2+(1:Int))) h5)
 (K1 ((⟨s1.1.ptr,s1.1.len,s1.1.cap⟩:Sl),IntKind.wrap .i64 (s1.2+(1:Int))) h3)) (K1 ((⟨s1.1.ptr,s1.1.len,s1.1.cap⟩:Sl),IntKind.wrap .i64 (s1.2+(1:Int))) h2))
 (R (.slice s1.1.ptr s1.1.len s1.1.cap) h1)) ((⟨none,0,0⟩:Sl),(0:Int)) h
theorem Fl (at_0:FuncId×Array Value×Array Value) (slots_1:Sl) {R:Value→Heap→Prop} {h:Heap} (hm:Ah at_0 slots_1 R h):ab Tryz.prog 40 #[(.func (.func at_0.1) at_0.2.1 at_0.2.2),(.slice slots_1.ptr slots_1.len slots_1.cap)] h R:=aq ag Tryz.func40 (.two .n (.two .n (.two (.two .n (.inn (.loop [(5,(.sc .slc)),(11,(.sc (.int .i64)))] [(5,6),(7,9),(11,30)] .n))) .n))) hm
abbrev yd:FuncId:=41
noncomputable def Ai (m_0:Int×Int×Int×Int×Int×Int×Sl×Sl) (R:Value→Heap→Prop) (h:Heap):Prop:=
 aK Tryz.prog (Instr.box 42 (.agg #[(.int .i64 m_0.1),(.int .i64 m_0.2.1),(.int .i64 m_0.2.2.1),(.int .i64 m_0.2.2.2.1),(.int .i64 m_0.2.2.2.2.1),(.int .i64 m_0.2.2.2.2.2.1),(.slice m_0.2.2.2.2.2.2.1.ptr m_0.2.2.2.2.2.2.1.len m_0.2.2.2.2.2.2.1.cap),(.slice m_0.2.2.2.2.2.2.2.ptr m_0.2.2.2.2.2.2.2.len m_0.2.2.2.2.2.2.2.cap)])) h fun a1 h1=>
 aK Tryz.prog (Instr.alloc 42 true (.tuple #[])) h1 fun a2 h2=>
 aZ (σ:=Unit) (fun _ h7=>
 ∃x8:Sl,cellOf h7 (a1.add 7)=some (.slice x8.ptr x8.len x8.cap)∧
 aO (σ:=Int) (fun s9 K2 h8=>
 Br (decide (s9<((x8.len:Nat):Int)))
 (∃x10:Sl,cellOf h8 (a1.add 7)=some (.slice x10.ptr x10.len x10.cap)∧
 ∃x11:Sl,cellOf h8 (a1.add 7)=some (.slice x11.ptr x11.len x11.cap)∧
 ∃a12:Addr,(x11.ptr=some a12∧0≤s9∧s9<((x11.len:Nat):Int))∧
 ∃x13:Sl,cellOf h8 ((a12.add (s9.toNat*4)).add 3)=some (.slice x13.ptr x13.len x13.cap)∧
 af Tryz.prog 81 #[(.slice x13.ptr x13.len x13.cap)] (.one (.sc .slc)) h8 fun r14 h9=>
 (ak.ok [(a1.add 7,(.slice x11.ptr x11.len x11.cap)),(a1.add 7,(.slice x10.ptr x10.len x10.cap))] h9)∧
 ∃a15:Addr,(x10.ptr=some a15∧0≤s9∧s9<((x10.len:Nat):Int))∧
 ae Tryz.prog (Instr.storeAt 22 (.pointer (some ((a15.add (s9.toNat*4)).add 3))) (.slice r14.ptr r14.len r14.cap)) h9 fun _ h10=>
 (ak.ok [] h10)∧
 K2 (IntKind.wrap .i64 (s9+(1:Int))) h10)
 (∃x16:Int×Int×Int×Int×Int×Int×Sl×Sl,ai h8 a1 0 [(.int .i64 x16.1),(.int .i64 x16.2.1),(.int .i64 x16.2.2.1),(.int .i64 x16.2.2.2.1),(.int .i64 x16.2.2.2.2.1),(.int .i64 x16.2.2.2.2.2.1),(.slice x16.2.2.2.2.2.2.1.ptr x16.2.2.2.2.2.2.1.len x16.2.2.2.2.2.2.1.cap),(.slice x16.2.2.2.2.2.2.2.ptr x16.2.2.2.2.2.2.2.len x16.2.2.2.2.2.2.2.cap)]∧
 ae Tryz.prog (Instr.storeAt 42 (.pointer (some a2)) (.agg #[(.int .i64 x16.1),(.int .i64 x16.2.1),(.int .i64 x16.2.2.1),(.int .i64 x16.2.2.2.1),(.int .i64 x16.2.2.2.2.1),(.int .i64 x16.2.2.2.2.2.1),(.slice x16.2.2.2.2.2.2.1.ptr x16.2.2.2.2.2.2.1.len x16.2.2.2.2.2.2.1.cap),(.slice x16.2.2.2.2.2.2.2.ptr x16.2.2.2.2.2.2.2.len x16.2.2.2.2.2.2.2.cap)])) h8 fun _ h11=>
 ∃res17:Int×Int×Int×Int×Int×Int×Sl×Sl,ai h11 a2 0 [(.int .i64 res17.1),(.int .i64 res17.2.1),(.int .i64 res17.2.2.1),(.int .i64 res17.2.2.2.1),(.int .i64 res17.2.2.2.2.1),(.int .i64 res17.2.2.2.2.2.1),(.slice res17.2.2.2.2.2.2.1.ptr res17.2.2.2.2.2.2.1.len res17.2.2.2.2.2.2.1.cap),(.slice res17.2.2.2.2.2.2.2.ptr res17.2.2.2.2.2.2.2.len res17.2.2.2.2.2.2.2.cap)]∧
 R (.agg #[(.int .i64 res17.1),(.int .i64 res17.2.1),(.int .i64 res17.2.2.1),(.int .i64 res17.2.2.2.1),(.int .i64 res17.2.2.2.2.1),(.int .i64 res17.2.2.2.2.2.1),(.slice res17.2.2.2.2.2.2.1.ptr res17.2.2.2.2.2.2.1.len res17.2.2.2.2.2.2.1.cap),(.slice res17.2.2.2.2.2.2.2.ptr res17.2.2.2.2.2.2.2.len res17.2.2.2.2.2.2.2.cap)]) h11)) (0:Int) h7)
 (fun K1=>
 ∃x3:Sl,cellOf h2 (a1.add 6)=some (.slice x3.ptr x3.len x3.cap)∧
 ∃x4:Sl,cellOf h2 (a1.add 7)=some (.slice x4.ptr x4.len x4.cap)∧
 af Tryz.prog 81 #[(.slice x3.ptr x3.len x3.cap)] (.one (.sc .slc)) h2 fun r5 h3=>
 (ak.ok [(a1.add 7,(.slice x4.ptr x4.len x4.cap))] h3)∧
 af Tryz.prog 82 #[(.slice x4.ptr x4.len x4.cap)] (.one (.sc .slc)) h3 fun r6 h4=>
 (ak.ok [] h4)∧
 ae Tryz.prog (Instr.storeAt 22 (.pointer (some (a1.add 6))) (.slice r5.ptr r5.len r5.cap)) h4 fun _ h5=>
 (ak.ok [] h5)∧
 ae Tryz.prog (Instr.storeAt 40 (.pointer (some (a1.add 7))) (.slice r6.ptr r6.len r6.cap)) h5 fun _ h6=>
 (ak.ok [] h6)∧
 K1 () h6)
theorem Fm (m_0:Int×Int×Int×Int×Int×Int×Sl×Sl) {R:Value→Heap→Prop} {h:Heap} (hm:Ai m_0 R h):ab Tryz.prog 41 #[(.agg #[(.int .i64 m_0.1),(.int .i64 m_0.2.1),(.int .i64 m_0.2.2.1),(.int .i64 m_0.2.2.2.1),(.int .i64 m_0.2.2.2.2.1),(.int .i64 m_0.2.2.2.2.2.1),(.slice m_0.2.2.2.2.2.2.1.ptr m_0.2.2.2.2.2.2.1.len m_0.2.2.2.2.2.2.1.cap),(.slice m_0.2.2.2.2.2.2.2.ptr m_0.2.2.2.2.2.2.2.len m_0.2.2.2.2.2.2.2.cap)])] h R:=aq ag Tryz.func41 (.two .n (.two (.join [] [(4,12)] .n) (.two (.two .n (.inn (.loop [(15,(.sc (.int .i64)))] [(3,4),(15,31)] .n))) .n))) hm
abbrev Hb:FuncId:=42
noncomputable def Aj (m_0:Int×Int×Int×Int×Int×Int×Sl×Sl) (R:Value→Heap→Prop) (h:Heap):Prop:=
 aK Tryz.prog (Instr.box 42 (.agg #[(.int .i64 m_0.1),(.int .i64 m_0.2.1),(.int .i64 m_0.2.2.1),(.int .i64 m_0.2.2.2.1),(.int .i64 m_0.2.2.2.2.1),(.int .i64 m_0.2.2.2.2.2.1),(.slice m_0.2.2.2.2.2.2.1.ptr m_0.2.2.2.2.2.2.1.len m_0.2.2.2.2.2.2.1.cap),(.slice m_0.2.2.2.2.2.2.2.ptr m_0.2.2.2.2.2.2.2.len m_0.2.2.2.2.2.2.2.cap)])) h fun a1 h1=>
 aZ (σ:=Unit) (fun _ h6=>
 aZ (σ:=Unit) (fun _ h8=>
 ∃x15:Sl,cellOf h8 (a1.add 7)=some (.slice x15.ptr x15.len x15.cap)∧
 aO (σ:=Int) (fun s16 K3 h9=>
 Br (decide (s16<((x15.len:Nat):Int)))
 (∃a17:Addr,(x15.ptr=some a17∧0≤s16∧s16<((x15.len:Nat):Int))∧
 ∃x18:ByteArray×Int×Int×Sl,ai h9 (a17.add (s16.toNat*4)) 0 [(.string x18.1),(.int .i64 x18.2.1),(.int .i64 x18.2.2.1),(.slice x18.2.2.2.ptr x18.2.2.2.len x18.2.2.2.cap)]∧
 aK Tryz.prog (Instr.alloc 89 true (.tuple #[])) h9 fun a19 h10=>
 ae Tryz.prog (Instr.storeAt 89 (.pointer (some a19)) (.agg #[(.string x18.1),(.int .i64 x18.2.1),(.int .i64 x18.2.2.1),(.slice x18.2.2.2.ptr x18.2.2.2.len x18.2.2.2.cap)])) h10 fun _ h11=>
 aZ (σ:=Unit) (fun _ h13=>
 ∃x28:Sl,cellOf h13 (a1.add 7)=some (.slice x28.ptr x28.len x28.cap)∧
 (0≤s16∧s16≤((x28.cap:Nat):Int))∧
 af Tryz.prog 86 #[(.slice x28.ptr s16.toNat x28.cap),(.func (.func 87) #[] #[(.pointer (some a19))])] (.one (.sc .bool)) h13 fun r29 h14=>
 Br r29
 (R (.bool false) h14)
 (K3 (IntKind.wrap .i64 (s16+(1:Int))) h14))
 (fun K4=>
 ∃x20:Int×Int×Int×Int×Int×Int×Sl×Sl,ai h11 a1 0 [(.int .i64 x20.1),(.int .i64 x20.2.1),(.int .i64 x20.2.2.1),(.int .i64 x20.2.2.2.1),(.int .i64 x20.2.2.2.2.1),(.int .i64 x20.2.2.2.2.2.1),(.slice x20.2.2.2.2.2.2.1.ptr x20.2.2.2.2.2.2.1.len x20.2.2.2.2.2.2.1.cap),(.slice x20.2.2.2.2.2.2.2.ptr x20.2.2.2.2.2.2.2.len x20.2.2.2.2.2.2.2.cap)]∧
 ∃x21:ByteArray×Int×Int×Sl,ai h11 a19 0 [(.string x21.1),(.int .i64 x21.2.1),(.int .i64 x21.2.2.1),(.slice x21.2.2.2.ptr x21.2.2.2.len x21.2.2.2.cap)]∧
 af Tryz.prog 85 #[(.agg #[(.int .i64 x20.1),(.int .i64 x20.2.1),(.int .i64 x20.2.2.1),(.int .i64 x20.2.2.2.1),(.int .i64 x20.2.2.2.2.1),(.int .i64 x20.2.2.2.2.2.1),(.slice x20.2.2.2.2.2.2.1.ptr x20.2.2.2.2.2.2.1.len x20.2.2.2.2.2.2.1.cap),(.slice x20.2.2.2.2.2.2.2.ptr x20.2.2.2.2.2.2.2.len x20.2.2.2.2.2.2.2.cap)]),(.agg #[(.string x21.1),(.int .i64 x21.2.1),(.int .i64 x21.2.2.1),(.slice x21.2.2.2.ptr x21.2.2.2.len x21.2.2.2.cap)])] (.one (.sc .bool)) h11 fun r22 h12=>
 (ak.ok [] h12)∧
 Br (!r22) (R (.bool false) h12) (Br (decide (s16>(0:Int))) (∃x23:Sl,cellOf h12 (a1.add 7)=some (.slice x23.ptr x23.len x23.cap)∧
 ∃a24:Addr,(x23.ptr=some a24∧0≤(IntKind.wrap .i64 (s16-(1:Int)))∧(IntKind.wrap .i64 (s16-(1:Int)))<((x23.len:Nat):Int))∧
 ∃x25:ByteArray,cellOf h12 (a24.add ((IntKind.wrap .i64 (s16-(1:Int))).toNat*4))=some (.string x25)∧
 ∃x26:ByteArray,cellOf h12 a19=some (.string x26)∧
 Br (!(Op.bytesLess x25.toList x26.toList))
 (R (.bool false) h12)
 (K4 () h12)) (K4 () h12))))
 (R (.bool true) h9)) (0:Int) h8)
 (fun K2=>
 ∃x11:Sl,cellOf h6 (a1.add 6)=some (.slice x11.ptr x11.len x11.cap)∧
 af Tryz.prog 84 #[(.slice x11.ptr x11.len x11.cap),(.int .i64 (63:Int))] (.one (.sc .bool)) h6 fun r12 h7=>
 Br (!r12) (R (.bool false) h7) (∃x13:Sl,cellOf h7 (a1.add 7)=some (.slice x13.ptr x13.len x13.cap)∧
 Br (decide (((x13.len:Nat):Int)>(12:Int)))
 (R (.bool false) h7)
 (K2 () h7))))
 (fun K1=>
 ∃x2:Int,cellOf h1 a1=some (.int .i64 x2)∧
 af Tryz.prog 83 #[(.int .i64 x2),(.int .i64 (1:Int)),(.int .i64 (2147483647:Int))] (.one (.sc .bool)) h1 fun r3 h2=>
 Br (!r3) (R (.bool false) h2) (∃x4:Int,cellOf h2 (a1.add 1)=some (.int .i64 x4)∧
 af Tryz.prog 83 #[(.int .i64 x4),(.int .i64 (0:Int)),(.int .i64 (16777216:Int))] (.one (.sc .bool)) h2 fun r5 h3=>
 Br (!r5) (R (.bool false) h3) (∃x6:Int×Int×Int,ai h3 (a1.add 2) 0 [(.int .i64 x6.1),(.int .i64 x6.2.1),(.int .i64 x6.2.2)]∧
 af Tryz.prog 27 #[(.agg #[(.int .i64 x6.1),(.int .i64 x6.2.1),(.int .i64 x6.2.2)])] (.one (.sc .bool)) h3 fun r7 h4=>
 Br (!r7) (R (.bool false) h4) (∃x8:Int,cellOf h4 (a1.add 5)=some (.int .i64 x8)∧
 af Tryz.prog 83 #[(.int .i64 x8),(.int .i64 (0:Int)),(.int .i64 (16:Int))] (.one (.sc .bool)) h4 fun r9 h5=>
 Br (!r9)
 (R (.bool false) h5)
 (K1 () h5)))))
theorem Fo (m_0:Int×Int×Int×Int×Int×Int×Sl×Sl) {R:Value→Heap→Prop} {h:Heap} (hm:Aj m_0 R h):ab Tryz.prog 42 #[(.agg #[(.int .i64 m_0.1),(.int .i64 m_0.2.1),(.int .i64 m_0.2.2.1),(.int .i64 m_0.2.2.2.1),(.int .i64 m_0.2.2.2.2.1),(.int .i64 m_0.2.2.2.2.2.1),(.slice m_0.2.2.2.2.2.2.1.ptr m_0.2.2.2.2.2.2.1.len m_0.2.2.2.2.2.2.1.cap),(.slice m_0.2.2.2.2.2.2.2.ptr m_0.2.2.2.2.2.2.2.len m_0.2.2.2.2.2.2.2.cap)])] h R:=aq ag Tryz.func42 (.two .n (.two (.join [] [(2,3),(5,27)] .n) (.two (.join [] [(2,3),(27,37)] .n) (.two (.two .n (.inn (.loop [(40,(.sc (.int .i64)))] [(2,5),(40,72)] (.two .n (.two .n (.two (.inn (.two .n (.two (.join [] [(2,3),(45,65)] .n) .n))) .n)))))) .n)))) hm
abbrev vQ:FuncId:=43
noncomputable def kl (d_0:Option Addr) (R:Value→Heap→Prop) (h:Heap):Prop:=
 Br (Option.isNone d_0)
 (R (.slice none 0 0) h)
 (∃a1:Addr,(d_0=some a1)∧
 ∃x2:Sl,cellOf h (a1.add 2)=some (.slice x2.ptr x2.len x2.cap)∧
 af Tryz.prog 88 #[(.slice x2.ptr x2.len x2.cap)] (.one (.sc .slc)) h fun r3 h1=>
 R (.slice r3.ptr r3.len r3.cap) h1)
theorem ml (d_0:Option Addr) {R:Value→Heap→Prop} {h:Heap} (hm:kl d_0 R h):ab Tryz.prog 43 #[(.pointer d_0)] h R:=aq ag Tryz.func43 .n hm
abbrev Cc:FuncId:=46
noncomputable def um (a_0:Sl) (b_1:Sl) (R:Value→Heap→Prop) (h:Heap):Prop:=
 az Tryz.prog (convert 46 9 (.slice a_0.ptr a_0.len a_0.cap)) (.one (.sc .str)) h fun v1 h1=>
 az Tryz.prog (convert 46 9 (.slice b_1.ptr b_1.len b_1.cap)) (.one (.sc .str)) h1 fun v2 h2=>
 R (.bool (v1.toList==v2.toList)) h2
theorem Ak (a_0:Sl) (b_1:Sl) {R:Value→Heap→Prop} {h:Heap} (hm:um a_0 b_1 R h):ab Tryz.prog 46 #[(.slice a_0.ptr a_0.len a_0.cap),(.slice b_1.ptr b_1.len b_1.cap)] h R:=aq ag Tryz.func46 .n hm
abbrev rf:FuncId:=47
noncomputable def kW (s_0:Option Addr) (name_1:ByteArray) (b_2:Sl) (R:Value→Heap→Prop) (h:Heap):Prop:=
 af Tryz.prog 78 #[(.pointer s_0)] (.one (.sc .bool)) h fun r1 h1=>
 Br r1
 (R (.int .i64 (14:Int)) h1)
 (af Tryz.prog 90 #[(.string name_1)] (.one (.sc .bool)) h1 fun r2 h2=>
 Br (!r2)
 (R (.int .i64 (3:Int)) h2)
 (af Tryz.prog 91 #[(.pointer s_0),(.string name_1)] (.one (.sc (.int .i64))) h2 fun r3 h3=>
 Br (decide (r3≥(0:Int)))
 (R (.int .i64 (4:Int)) h3)
 (aZ (σ:=Bool) (fun s10 h4=>
 Br s10
 (R (.int .i64 (6:Int)) h4)
 (af Tryz.prog 11 #[(.pointer s_0)] (.one (.sc .slc)) h4 fun r11 h5=>
 Br (((r11.len:Nat):Int)==(0:Int)) (R (.int .i64 (7:Int)) h5) (∃a12:Addr,(s_0=some a12)∧
 ∃x13:Int,cellOf h5 (a12.add 1)=some (.int .i64 x13)∧
 Br (decide (x13>(16777215:Int))) (R (.int .i64 (7:Int)) h5) (∃a14:Addr,(s_0=some a14)∧
 ∃x15:Int,cellOf h5 a14=some (.int .i64 x15)∧
 Br (decide (x15≥(2147483647:Int)))
 (R (.int .i64 (7:Int)) h5)
 (R (.int .i64 (0:Int)) h5)))))
 (fun K1=>
 ∃a4:Addr,(s_0=some a4)∧
 ∃x5:Int,cellOf h3 (a4.add 2)=some (.int .i64 x5)∧
 ∃a6:Addr,(s_0=some a6)∧
 ∃x7:Int,cellOf h3 ((a6.add 2).add 2)=some (.int .i64 x7)∧
 Br (decide (((b_2.len:Nat):Int)>(IntKind.wrap .i64 ((IntKind.wrap .i64 (x5*x7))*(8:Int))))) (K1 true h3) (∃a8:Addr,(s_0=some a8)∧
 ∃x9:Sl,cellOf h3 (a8.add 7)=some (.slice x9.ptr x9.len x9.cap)∧
 K1 (decide (((x9.len:Nat):Int)≥(12:Int))) h3)))))
theorem qi (s_0:Option Addr) (name_1:ByteArray) (b_2:Sl) {R:Value→Heap→Prop} {h:Heap} (hm:kW s_0 name_1 b_2 R h):ab Tryz.prog 47 #[(.pointer s_0),(.string name_1),(.slice b_2.ptr b_2.len b_2.cap)] h R:=aq ag Tryz.func47 (.two .n (.two (.inn (.two .n (.two .n (.two .n (.two .n (.two .n (.two .n (.two (.join [(19,(.sc .bool))] [(19,46)] .n) .n)))))))) .n)) hm
abbrev Cd:FuncId:=48
noncomputable def uo (p_0:Int×Int×Int) (object_1:Int) (blocks_2:Int) (R:Value→Heap→Prop) (h:Heap):Prop:=
 aK Tryz.prog (Instr.box 24 (.agg #[(.int .i64 p_0.1),(.int .i64 p_0.2.1),(.int .i64 p_0.2.2)])) h fun a1 h1=>
 aO (σ:=Sl×Int) (fun s2 K1 h2=>
 Br (decide (s2.2<blocks_2))
 (∃x3:Int×Int×Int,ai h2 a1 0 [(.int .i64 x3.1),(.int .i64 x3.2.1),(.int .i64 x3.2.2)]∧
 af Tryz.prog 92 #[(.agg #[(.int .i64 x3.1),(.int .i64 x3.2.1),(.int .i64 x3.2.2)]),(.int .i64 object_1),(.int .i64 s2.2)] (.many [(.sc (.int .i64)),(.sc .bool)]) h2 fun r4 h3=>
 Br (!r4.2)
 (R (.tuple #[(.slice none 0 0),(.bool false)]) h3)
 (az Tryz.prog (Instr.buildSlice 22 1 #[(0,(.int .i64 r4.1))]) (.one (.sc .slc)) h3 fun v5 h4=>
 az Tryz.prog (Builtin.append_ #[22,22] 22 #[(.slice s2.1.ptr s2.1.len s2.1.cap),(.slice v5.ptr v5.len v5.cap)]) (.one (.sc .slc)) h4 fun v6 h5=>
 K1 ((⟨v6.ptr,v6.len,v6.cap⟩:Sl),IntKind.wrap .i64 (s2.2+(1:Int))) h5))
 (R (.tuple #[(.slice s2.1.ptr s2.1.len s2.1.cap),(.bool true)]) h2)) ((⟨none,0,0⟩:Sl),(0:Int)) h1
theorem Al (p_0:Int×Int×Int) (object_1:Int) (blocks_2:Int) {R:Value→Heap→Prop} {h:Heap} (hm:uo p_0 object_1 blocks_2 R h):ab Tryz.prog 48 #[(.agg #[(.int .i64 p_0.1),(.int .i64 p_0.2.1),(.int .i64 p_0.2.2)]),(.int .i64 object_1),(.int .i64 blocks_2)] h R:=aq ag Tryz.func48 (.two .n (.two .n (.two (.two .n (.inn (.loop [(8,(.sc .slc)),(13,(.sc (.int .i64)))] [(6,12),(13,30)] .n))) .n))) hm
abbrev Ce:FuncId:=49
noncomputable def uq (p_0:Int×Int×Int) (n_1:Int) (R:Value→Heap→Prop) (h:Heap):Prop:=
 aK Tryz.prog (Instr.box 24 (.agg #[(.int .i64 p_0.1),(.int .i64 p_0.2.1),(.int .i64 p_0.2.2)])) h fun a1 h1=>
 aZ (σ:=Unit) (fun _ h3=>
 ∃x5:Int×Int×Int,ai h3 a1 0 [(.int .i64 x5.1),(.int .i64 x5.2.1),(.int .i64 x5.2.2)]∧
 af Tryz.prog 93 #[(.agg #[(.int .i64 x5.1),(.int .i64 x5.2.1),(.int .i64 x5.2.2)])] (.one (.sc (.int .i64))) h3 fun r6 h4=>
 (r6≠0)∧
 R (.int .i64 (IntKind.wrap .i64 ((IntKind.wrap .i64 (Int.tdiv (IntKind.wrap .i64 (n_1-(1:Int))) r6))+(1:Int)))) h4)
 (fun K1=>
 ∃x2:Int×Int×Int,ai h1 a1 0 [(.int .i64 x2.1),(.int .i64 x2.2.1),(.int .i64 x2.2.2)]∧
 af Tryz.prog 27 #[(.agg #[(.int .i64 x2.1),(.int .i64 x2.2.1),(.int .i64 x2.2.2)])] (.one (.sc .bool)) h1 fun r3 h2=>
 Br (!r3) (R (.int .i64 (0:Int)) h2) (Br (decide (n_1≤(0:Int)))
 (R (.int .i64 (0:Int)) h2)
 (K1 () h2)))
theorem Am (p_0:Int×Int×Int) (n_1:Int) {R:Value→Heap→Prop} {h:Heap} (hm:uq p_0 n_1 R h):ab Tryz.prog 49 #[(.agg #[(.int .i64 p_0.1),(.int .i64 p_0.2.1),(.int .i64 p_0.2.2)]),(.int .i64 n_1)] h R:=aq ag Tryz.func49 (.two .n (.two (.join [] [(4,12)] .n) .n)) hm
abbrev rh:FuncId:=50
noncomputable def kX (s_0:Option Addr) (x_1:ByteArray×Int×Int×Sl) (b_2:Sl) (R:Value→Heap→Prop) (h:Heap):Prop:=
 aK Tryz.prog (Instr.box 89 (.agg #[(.string x_1.1),(.int .i64 x_1.2.1),(.int .i64 x_1.2.2.1),(.slice x_1.2.2.2.ptr x_1.2.2.2.len x_1.2.2.2.cap)])) h fun a1 h1=>
 af Tryz.prog 11 #[(.pointer s_0)] (.one (.sc .slc)) h1 fun r2 h2=>
 ∃a3:Addr,(s_0=some a3)∧
 ∃x4:Int×Int×Int,ai h2 (a3.add 2) 0 [(.int .i64 x4.1),(.int .i64 x4.2.1),(.int .i64 x4.2.2)]∧
 af Tryz.prog 94 #[(.agg #[(.int .i64 x4.1),(.int .i64 x4.2.1),(.int .i64 x4.2.2)]),(.slice b_2.ptr b_2.len b_2.cap)] (.one (.sc .slc)) h2 fun r5 h3=>
 aO (σ:=Sl×Int) (fun s6 K1 h4=>
 Br (decide (s6.2<((r5.len:Nat):Int)))
 (∃a7:Addr,(r5.ptr=some a7∧0≤s6.2∧s6.2<((r5.len:Nat):Int))∧
 ∃x8:Sl,cellOf h4 (a7.add (s6.2.toNat*1))=some (.slice x8.ptr x8.len x8.cap)∧
 ∃x9:Int,cellOf h4 (a1.add 1)=some (.int .i64 x9)∧
 ∃x10:Sl,cellOf h4 (a1.add 3)=some (.slice x10.ptr x10.len x10.cap)∧
 ∃a11:Addr,(x10.ptr=some a11∧0≤s6.2∧s6.2<((x10.len:Nat):Int))∧
 ∃x12:Int,cellOf h4 (a11.add (s6.2.toNat*1))=some (.int .i64 x12)∧
 af Tryz.prog 95 #[(.int .i64 x9),(.int .i64 s6.2),(.int .i64 x12)] (.one (.sc (.int .u32))) h4 fun r13 h5=>
 (ak.ok [(a1.add 3,(.slice x10.ptr x10.len x10.cap))] h5)∧
 ∃a14:Addr,(s_0=some a14)∧
 ∃x15:Int×Int×Int,ai h5 (a14.add 2) 0 [(.int .i64 x15.1),(.int .i64 x15.2.1),(.int .i64 x15.2.2)]∧
 af Tryz.prog 96 #[(.agg #[(.int .i64 x15.1),(.int .i64 x15.2.1),(.int .i64 x15.2.2)]),(.int .u32 r13),(.slice x8.ptr x8.len x8.cap)] (.many [(.sc .ptr),(.sc (.int .i64))]) h5 fun r16 h6=>
 Br (r16.2 !=(0:Int))
 (R (.tuple #[(.slice none 0 0),(.bool false)]) h6)
 (∃x17:Int,cellOf h6 (a1.add 1)=some (.int .i64 x17)∧
 af Tryz.prog 97 #[(.int .i64 x17),(.int .i64 s6.2),(.slice r2.ptr r2.len r2.cap)] (.one (.sc .slc)) h6 fun r18 h7=>
 ∃a19:Addr,(s_0=some a19)∧
 ∃x20:Int,cellOf h7 (a19.add 2)=some (.int .i64 x20)∧
 ∃a21:Addr,(s_0=some a21)∧
 ∃x22:Int,cellOf h7 (a21.add 5)=some (.int .i64 x22)∧
 aO (σ:=Sl×Int) (fun s23 K2 h8=>
 Br (decide (s23.2<(IntKind.wrap .i64 (x20+x22))))
 (aZ (σ:=Addr) (fun s31 h15=>
 ∃x32:Int×Int×Int×Int×Int×Int×Int×Sl,ai h15 s31 0 [(.int .i64 x32.1),(.int .i64 x32.2.1),(.int .i64 x32.2.2.1),(.int .i64 x32.2.2.2.1),(.int .i64 x32.2.2.2.2.1),(.int .i64 x32.2.2.2.2.2.1),(.int .u32 x32.2.2.2.2.2.2.1),(.slice x32.2.2.2.2.2.2.2.ptr x32.2.2.2.2.2.2.2.len x32.2.2.2.2.2.2.2.cap)]∧
 af Tryz.prog 99 #[(.slice r18.ptr r18.len r18.cap),(.int .i64 s23.2)] (.one (.sc (.int .i64))) h15 fun r33 h16=>
 (ak.ok [(s31,(.int .i64 x32.1)),(s31.add 1,(.int .i64 x32.2.1)),(s31.add 2,(.int .i64 x32.2.2.1)),(s31.add 3,(.int .i64 x32.2.2.2.1)),(s31.add 4,(.int .i64 x32.2.2.2.2.1)),(s31.add 5,(.int .i64 x32.2.2.2.2.2.1)),(s31.add 6,(.int .u32 x32.2.2.2.2.2.2.1)),(s31.add 7,(.slice x32.2.2.2.2.2.2.2.ptr x32.2.2.2.2.2.2.2.len x32.2.2.2.2.2.2.2.cap))] h16)∧
 af Tryz.prog 100 #[(.agg #[(.int .i64 x32.1),(.int .i64 x32.2.1),(.int .i64 x32.2.2.1),(.int .i64 x32.2.2.2.1),(.int .i64 x32.2.2.2.2.1),(.int .i64 x32.2.2.2.2.2.1),(.int .u32 x32.2.2.2.2.2.2.1),(.slice x32.2.2.2.2.2.2.2.ptr x32.2.2.2.2.2.2.2.len x32.2.2.2.2.2.2.2.cap)])] (.one (.sc .slc)) h16 fun r34 h17=>
 (ak.ok [] h17)∧
 az Tryz.prog (Instr.buildSlice 69 1 #[(0,(.agg #[(.int .i64 r33),(.slice r34.ptr r34.len r34.cap)]))]) (.one (.sc .slc)) h17 fun v35 h18=>
 (ak.ok [] h18)∧
 az Tryz.prog (Builtin.append_ #[69,69] 69 #[(.slice s23.1.ptr s23.1.len s23.1.cap),(.slice v35.ptr v35.len v35.cap)]) (.one (.sc .slc)) h18 fun v36 h19=>
 (ak.ok [] h19)∧
 K2 ((⟨v36.ptr,v36.len,v36.cap⟩:Sl),IntKind.wrap .i64 (s23.2+(1:Int))) h19)
 (fun K3=>
 ∃x24:Int,cellOf h8 (a1.add 1)=some (.int .i64 x24)∧
 ∃a25:Addr,(s_0=some a25)∧
 ∃x26:Int×Int×Int,ai h8 (a25.add 2) 0 [(.int .i64 x26.1),(.int .i64 x26.2.1),(.int .i64 x26.2.2)]∧
 (af Tryz.prog 98 #[(.pointer r16.1),(.int .i64 s23.2)] (.one (.sc .slc)) h8 fun r27 h9=>
 (ak.ok [(a25.add 2,(.int .i64 x26.1)),((a25.add 2).add 1,(.int .i64 x26.2.1)),((a25.add 2).add 2,(.int .i64 x26.2.2)),(a1.add 1,(.int .i64 x24))] h9)∧
 aK Tryz.prog (Instr.alloc 103 true (.tuple #[])) h9 fun a28 h10=>
 (ak.ok [(a25.add 2,(.int .i64 x26.1)),((a25.add 2).add 1,(.int .i64 x26.2.1)),((a25.add 2).add 2,(.int .i64 x26.2.2)),(a1.add 1,(.int .i64 x24))] h10)∧
 ae Tryz.prog (Instr.storeAt 103 (.pointer (some a28)) (.agg #[(.int .i64 x24),(.int .i64 s6.2),(.int .i64 s23.2),(.int .i64 x26.1),(.int .i64 x26.2.1),(.int .i64 x26.2.2),(.int .u32 r13),(.slice r27.ptr r27.len r27.cap)])) h10 fun _ h11=>
 (ak.ok [] h11)∧
 K3 a28 h11)∧(aK Tryz.prog (Instr.alloc 103 true (.tuple #[])) h8 fun a29 h12=>
 (ak.ok [(a25.add 2,(.int .i64 x26.1)),((a25.add 2).add 1,(.int .i64 x26.2.1)),((a25.add 2).add 2,(.int .i64 x26.2.2)),(a1.add 1,(.int .i64 x24))] h12)∧
 af Tryz.prog 98 #[(.pointer r16.1),(.int .i64 s23.2)] (.one (.sc .slc)) h12 fun r30 h13=>
 (ak.ok [(a25.add 2,(.int .i64 x26.1)),((a25.add 2).add 1,(.int .i64 x26.2.1)),((a25.add 2).add 2,(.int .i64 x26.2.2)),(a1.add 1,(.int .i64 x24))] h13)∧
 ae Tryz.prog (Instr.storeAt 103 (.pointer (some a29)) (.agg #[(.int .i64 x24),(.int .i64 s6.2),(.int .i64 s23.2),(.int .i64 x26.1),(.int .i64 x26.2.1),(.int .i64 x26.2.2),(.int .u32 r13),(.slice r30.ptr r30.len r30.cap)])) h13 fun _ h14=>
 (ak.ok [] h14)∧
 K3 a29 h14)))
 (K1 ((⟨s23.1.ptr,s23.1.len,s23.1.cap⟩:Sl),IntKind.wrap .i64 (s6.2+(1:Int))) h8)) ((⟨s6.1.ptr,s6.1.len,s6.1.cap⟩:Sl),(0:Int)) h7))
 (R (.tuple #[(.slice s6.1.ptr s6.1.len s6.1.cap),(.bool true)]) h4)) ((⟨none,0,0⟩:Sl),(0:Int)) h3
theorem qj (s_0:Option Addr) (x_1:ByteArray×Int×Int×Sl) (b_2:Sl) {R:Value→Heap→Prop} {h:Heap} (hm:kX s_0 x_1 b_2 R h):ab Tryz.prog 50 #[(.pointer s_0),(.agg #[(.string x_1.1),(.int .i64 x_1.2.1),(.int .i64 x_1.2.2.1),(.slice x_1.2.2.2.ptr x_1.2.2.2.len x_1.2.2.2.cap)]),(.slice b_2.ptr b_2.len b_2.cap)] h R:=aq ag Tryz.func50 (.two .n (.two .n (.two .n (.two (.two .n (.inn (.loop [(9,(.sc .slc)),(28,(.sc (.int .i64)))] [(6,8),(9,18),(28,100)] (.two .n (.two .n (.two (.inn (.two .n (.two .n (.two .n (.two .n (.two .n (.two .n (.inn (.loop [(9,(.sc .slc)),(72,(.sc (.int .i64)))] [(9,10),(16,18),(72,99)] (.two .n (.two .n (.two (.inn (.two .n (.two (.join [(17,(.sc .adr))] [(17,18),(75,89)] .n) .n))) .n)))))))))))) .n)))))) .n)))) hm
abbrev ur:FuncId:=51
noncomputable def vR (m_0:Int×Int×Int×Int×Int×Int×Sl×Sl) (x_1:ByteArray×Int×Int×Sl) (R:Value→Heap→Prop) (h:Heap):Prop:=
 aK Tryz.prog (Instr.box 42 (.agg #[(.int .i64 m_0.1),(.int .i64 m_0.2.1),(.int .i64 m_0.2.2.1),(.int .i64 m_0.2.2.2.1),(.int .i64 m_0.2.2.2.2.1),(.int .i64 m_0.2.2.2.2.2.1),(.slice m_0.2.2.2.2.2.2.1.ptr m_0.2.2.2.2.2.2.1.len m_0.2.2.2.2.2.2.1.cap),(.slice m_0.2.2.2.2.2.2.2.ptr m_0.2.2.2.2.2.2.2.len m_0.2.2.2.2.2.2.2.cap)])) h fun a1 h1=>
 aK Tryz.prog (Instr.box 89 (.agg #[(.string x_1.1),(.int .i64 x_1.2.1),(.int .i64 x_1.2.2.1),(.slice x_1.2.2.2.ptr x_1.2.2.2.len x_1.2.2.2.cap)])) h1 fun a2 h2=>
 aK Tryz.prog (Instr.alloc 42 true (.tuple #[])) h2 fun a3 h3=>
 ∃x4:Int×Int×Int×Int×Int×Int×Sl×Sl,ai h3 a1 0 [(.int .i64 x4.1),(.int .i64 x4.2.1),(.int .i64 x4.2.2.1),(.int .i64 x4.2.2.2.1),(.int .i64 x4.2.2.2.2.1),(.int .i64 x4.2.2.2.2.2.1),(.slice x4.2.2.2.2.2.2.1.ptr x4.2.2.2.2.2.2.1.len x4.2.2.2.2.2.2.1.cap),(.slice x4.2.2.2.2.2.2.2.ptr x4.2.2.2.2.2.2.2.len x4.2.2.2.2.2.2.2.cap)]∧
 af Tryz.prog 41 #[(.agg #[(.int .i64 x4.1),(.int .i64 x4.2.1),(.int .i64 x4.2.2.1),(.int .i64 x4.2.2.2.1),(.int .i64 x4.2.2.2.2.1),(.int .i64 x4.2.2.2.2.2.1),(.slice x4.2.2.2.2.2.2.1.ptr x4.2.2.2.2.2.2.1.len x4.2.2.2.2.2.2.1.cap),(.slice x4.2.2.2.2.2.2.2.ptr x4.2.2.2.2.2.2.2.len x4.2.2.2.2.2.2.2.cap)])] (.one (.agg [(.int .i64),(.int .i64),(.int .i64),(.int .i64),(.int .i64),(.int .i64),.slc,.slc])) h3 fun r5 h4=>
 aK Tryz.prog (Instr.alloc 42 true (.tuple #[])) h4 fun a6 h5=>
 ae Tryz.prog (Instr.storeAt 42 (.pointer (some a6)) (.agg #[(.int .i64 r5.1),(.int .i64 r5.2.1),(.int .i64 r5.2.2.1),(.int .i64 r5.2.2.2.1),(.int .i64 r5.2.2.2.2.1),(.int .i64 r5.2.2.2.2.2.1),(.slice r5.2.2.2.2.2.2.1.ptr r5.2.2.2.2.2.2.1.len r5.2.2.2.2.2.2.1.cap),(.slice r5.2.2.2.2.2.2.2.ptr r5.2.2.2.2.2.2.2.len r5.2.2.2.2.2.2.2.cap)])) h5 fun _ h6=>
 ∃x7:Int,cellOf h6 a6=some (.int .i64 x7)∧
 ae Tryz.prog (Instr.storeAt 3 (.pointer (some a6)) (.int .i64 (IntKind.wrap .i64 (x7+(1:Int))))) h6 fun _ h7=>
 ∃x8:Int,cellOf h7 (a6.add 1)=some (.int .i64 x8)∧
 ae Tryz.prog (Instr.storeAt 3 (.pointer (some (a6.add 1))) (.int .i64 (IntKind.wrap .i64 (x8+(1:Int))))) h7 fun _ h8=>
 ∃x9:Sl,cellOf h8 (a6.add 7)=some (.slice x9.ptr x9.len x9.cap)∧
 ∃x10:ByteArray×Int×Int×Sl,ai h8 a2 0 [(.string x10.1),(.int .i64 x10.2.1),(.int .i64 x10.2.2.1),(.slice x10.2.2.2.ptr x10.2.2.2.len x10.2.2.2.cap)]∧
 az Tryz.prog (Instr.buildSlice 40 1 #[(0,(.agg #[(.string x10.1),(.int .i64 x10.2.1),(.int .i64 x10.2.2.1),(.slice x10.2.2.2.ptr x10.2.2.2.len x10.2.2.2.cap)]))]) (.one (.sc .slc)) h8 fun v11 h9=>
 az Tryz.prog (Builtin.append_ #[40,40] 40 #[(.slice x9.ptr x9.len x9.cap),(.slice v11.ptr v11.len v11.cap)]) (.one (.sc .slc)) h9 fun v12 h10=>
 ae Tryz.prog (Instr.storeAt 40 (.pointer (some (a6.add 7))) (.slice v12.ptr v12.len v12.cap)) h10 fun _ h11=>
 ∃x13:Sl,cellOf h11 (a6.add 7)=some (.slice x13.ptr x13.len x13.cap)∧
 af Tryz.prog 101 #[(.slice x13.ptr x13.len x13.cap),(.func (.func 102) #[] #[])] (.many []) h11 fun _ h12=>
 ∃x15:Int×Int×Int×Int×Int×Int×Sl×Sl,ai h12 a6 0 [(.int .i64 x15.1),(.int .i64 x15.2.1),(.int .i64 x15.2.2.1),(.int .i64 x15.2.2.2.1),(.int .i64 x15.2.2.2.2.1),(.int .i64 x15.2.2.2.2.2.1),(.slice x15.2.2.2.2.2.2.1.ptr x15.2.2.2.2.2.2.1.len x15.2.2.2.2.2.2.1.cap),(.slice x15.2.2.2.2.2.2.2.ptr x15.2.2.2.2.2.2.2.len x15.2.2.2.2.2.2.2.cap)]∧
 ae Tryz.prog (Instr.storeAt 42 (.pointer (some a3)) (.agg #[(.int .i64 x15.1),(.int .i64 x15.2.1),(.int .i64 x15.2.2.1),(.int .i64 x15.2.2.2.1),(.int .i64 x15.2.2.2.2.1),(.int .i64 x15.2.2.2.2.2.1),(.slice x15.2.2.2.2.2.2.1.ptr x15.2.2.2.2.2.2.1.len x15.2.2.2.2.2.2.1.cap),(.slice x15.2.2.2.2.2.2.2.ptr x15.2.2.2.2.2.2.2.len x15.2.2.2.2.2.2.2.cap)])) h12 fun _ h13=>
 ∃res16:Int×Int×Int×Int×Int×Int×Sl×Sl,ai h13 a3 0 [(.int .i64 res16.1),(.int .i64 res16.2.1),(.int .i64 res16.2.2.1),(.int .i64 res16.2.2.2.1),(.int .i64 res16.2.2.2.2.1),(.int .i64 res16.2.2.2.2.2.1),(.slice res16.2.2.2.2.2.2.1.ptr res16.2.2.2.2.2.2.1.len res16.2.2.2.2.2.2.1.cap),(.slice res16.2.2.2.2.2.2.2.ptr res16.2.2.2.2.2.2.2.len res16.2.2.2.2.2.2.2.cap)]∧
 R (.agg #[(.int .i64 res16.1),(.int .i64 res16.2.1),(.int .i64 res16.2.2.1),(.int .i64 res16.2.2.2.1),(.int .i64 res16.2.2.2.2.1),(.int .i64 res16.2.2.2.2.2.1),(.slice res16.2.2.2.2.2.2.1.ptr res16.2.2.2.2.2.2.1.len res16.2.2.2.2.2.2.1.cap),(.slice res16.2.2.2.2.2.2.2.ptr res16.2.2.2.2.2.2.2.len res16.2.2.2.2.2.2.2.cap)]) h13
theorem Cf (m_0:Int×Int×Int×Int×Int×Int×Sl×Sl) (x_1:ByteArray×Int×Int×Sl) {R:Value→Heap→Prop} {h:Heap} (hm:vR m_0 x_1 R h):ab Tryz.prog 51 #[(.agg #[(.int .i64 m_0.1),(.int .i64 m_0.2.1),(.int .i64 m_0.2.2.1),(.int .i64 m_0.2.2.2.1),(.int .i64 m_0.2.2.2.2.1),(.int .i64 m_0.2.2.2.2.2.1),(.slice m_0.2.2.2.2.2.2.1.ptr m_0.2.2.2.2.2.2.1.len m_0.2.2.2.2.2.2.1.cap),(.slice m_0.2.2.2.2.2.2.2.ptr m_0.2.2.2.2.2.2.2.len m_0.2.2.2.2.2.2.2.cap)]),(.agg #[(.string x_1.1),(.int .i64 x_1.2.1),(.int .i64 x_1.2.2.1),(.slice x_1.2.2.2.ptr x_1.2.2.2.len x_1.2.2.2.cap)])] h R:=aq ag Tryz.func51 .n hm
abbrev gf:FuncId:=52
noncomputable def mo (slot_0:Int) (cap_1:Addr) (cap_2:Addr) (R:Value→Heap→Prop) (h:Heap):Prop:=
 ∃x1:Int,cellOf h cap_1=some (.int .i64 x1)∧
 ∃x2:Sl,cellOf h cap_2=some (.slice x2.ptr x2.len x2.cap)∧
 aO (σ:=Int×Int) (fun s3 K1 h1=>
 Br (decide (s3.2<((x2.len:Nat):Int)))
 (∃a4:Addr,(x2.ptr=some a4∧0≤s3.2∧s3.2<((x2.len:Nat):Int))∧
 ∃x5:Int×Sl,ai h1 (a4.add (s3.2.toNat*2)) 0 [(.int .i64 x5.1),(.slice x5.2.ptr x5.2.len x5.2.cap)]∧
 aK Tryz.prog (Instr.alloc 96 true (.tuple #[])) h1 fun a6 h2=>
 ae Tryz.prog (Instr.storeAt 96 (.pointer (some a6)) (.agg #[(.int .i64 x5.1),(.slice x5.2.ptr x5.2.len x5.2.cap)])) h2 fun _ h3=>
 ∃x7:Int,cellOf h3 a6=some (.int .i64 x7)∧
 Br (x7==slot_0)
 (K1 (IntKind.wrap .i64 (s3.1+(1:Int)),IntKind.wrap .i64 (s3.2+(1:Int))) h3)
 (K1 (s3.1,IntKind.wrap .i64 (s3.2+(1:Int))) h3))
 (R (.int .i64 s3.1) h1)) (x1,(0:Int)) h
theorem rT (slot_0:Int) (cap_1:Addr) (cap_2:Addr) {R:Value→Heap→Prop} {h:Heap} (hm:mo slot_0 cap_1 cap_2 R h):ab Tryz.prog 52 #[(.int .i64 slot_0),(.pointer (some cap_1)),(.pointer (some cap_2))] h R:=aq ag Tryz.func52 (.two .n (.two .n (.two (.two .n (.inn (.loop [(5,(.sc (.int .i64))),(11,(.sc (.int .i64)))] [(5,6),(7,8),(11,22)] .n))) .n))) hm
abbrev uW:FuncId:=53
noncomputable def nC (s_0:Option Addr) (slots_1:Sl) (n_2:FuncId×Array Value×Array Value) (R:Value→Heap→Prop) (h:Heap):Prop:=
 aK Tryz.prog (Instr.box 27 (.pointer s_0)) h fun a1 h1=>
 aK Tryz.prog (Instr.box 97 (.func (.func n_2.1) n_2.2.1 n_2.2.2)) h1 fun a2 h2=>
 af Tryz.prog 104 #[(.slice slots_1.ptr slots_1.len slots_1.cap),(.func (.func 105) #[] #[(.pointer (some a1)),(.pointer (some a2))])] (.one (.sc .bool)) h2 fun r3 h3=>
 R (.bool (!r3)) h3
theorem tn (s_0:Option Addr) (slots_1:Sl) (n_2:FuncId×Array Value×Array Value) {R:Value→Heap→Prop} {h:Heap} (hm:nC s_0 slots_1 n_2 R h):ab Tryz.prog 53 #[(.pointer s_0),(.slice slots_1.ptr slots_1.len slots_1.cap),(.func (.func n_2.1) n_2.2.1 n_2.2.2)] h R:=aq ag Tryz.func53 .n hm
abbrev tq:FuncId:=54
noncomputable def mq (s_0:Option Addr) (slots_1:Sl) (n_2:FuncId×Array Value×Array Value) (R:Value→Heap→Prop) (h:Heap):Prop:=
 aO (σ:=Int) (fun s1 K1 h1=>
 Br (decide (s1<((slots_1.len:Nat):Int)))
 (∃a2:Addr,(slots_1.ptr=some a2∧0≤s1∧s1<((slots_1.len:Nat):Int))∧
 ∃x3:Int,cellOf h1 (a2.add (s1.toNat*1))=some (.int .i64 x3)∧
 aZ (σ:=Int) (fun s10 h4=>
 Br (s10 !=(0:Int))
 (R (.int .i64 s10) h4)
 (K1 (IntKind.wrap .i64 (s1+(1:Int))) h4))
 (fun K2=>
 ∃a4:Addr,(s_0=some a4)∧
 (0≤x3∧x3<((64:Nat):Int))∧
 ∃x5:Option Addr,cellOf h1 ((a4.add 10).add (x3.toNat*1))=some (.pointer x5)∧
 ∃a6:Addr,(s_0=some a6)∧
 ∃x7:Int×Int×Int×Int×Int×Int×Sl×Sl,ai h1 a6 0 [(.int .i64 x7.1),(.int .i64 x7.2.1),(.int .i64 x7.2.2.1),(.int .i64 x7.2.2.2.1),(.int .i64 x7.2.2.2.2.1),(.int .i64 x7.2.2.2.2.2.1),(.slice x7.2.2.2.2.2.2.1.ptr x7.2.2.2.2.2.2.1.len x7.2.2.2.2.2.2.1.cap),(.slice x7.2.2.2.2.2.2.2.ptr x7.2.2.2.2.2.2.2.len x7.2.2.2.2.2.2.2.cap)]∧
 fI C n_2.1 (n_2.2.1.toList++[(.int .i64 x3)]++n_2.2.2.toList) (.one (.sc (.int .i64))) h1 fun r8 h2=>
 (ak.ok [(a6,(.int .i64 x7.1)),(a6.add 1,(.int .i64 x7.2.1)),(a6.add 2,(.int .i64 x7.2.2.1)),(a6.add 3,(.int .i64 x7.2.2.2.1)),(a6.add 4,(.int .i64 x7.2.2.2.2.1)),(a6.add 5,(.int .i64 x7.2.2.2.2.2.1)),(a6.add 6,(.slice x7.2.2.2.2.2.2.1.ptr x7.2.2.2.2.2.2.1.len x7.2.2.2.2.2.2.1.cap)),(a6.add 7,(.slice x7.2.2.2.2.2.2.2.ptr x7.2.2.2.2.2.2.2.len x7.2.2.2.2.2.2.2.cap)),((a4.add 10).add (x3.toNat*1),(.pointer x5))] h2)∧
 af Tryz.prog 69 #[(.pointer x5),(.agg #[(.int .i64 x7.1),(.int .i64 x7.2.1),(.int .i64 x7.2.2.1),(.int .i64 x7.2.2.2.1),(.int .i64 x7.2.2.2.2.1),(.int .i64 x7.2.2.2.2.2.1),(.slice x7.2.2.2.2.2.2.1.ptr x7.2.2.2.2.2.2.1.len x7.2.2.2.2.2.2.1.cap),(.slice x7.2.2.2.2.2.2.2.ptr x7.2.2.2.2.2.2.2.len x7.2.2.2.2.2.2.2.cap)]),(.int .i64 r8)] (.one (.sc (.int .i64))) h2 fun r9 h3=>
 (ak.ok [] h3)∧
 K2 r9 h3))
 (R (.int .i64 (0:Int)) h1)) (0:Int) h
theorem rU (s_0:Option Addr) (slots_1:Sl) (n_2:FuncId×Array Value×Array Value) {R:Value→Heap→Prop} {h:Heap} (hm:mq s_0 slots_1 n_2 R h):ab Tryz.prog 54 #[(.pointer s_0),(.slice slots_1.ptr slots_1.len slots_1.cap),(.func (.func n_2.1) n_2.2.1 n_2.2.2)] h R:=aq ag Tryz.func54 (.two .n (.two (.two .n (.inn (.loop [(12,(.sc (.int .i64)))] [(6,7),(8,10),(12,34)] (.two .n (.two .n (.two (.inn (.two .n (.two (.join [(9,(.sc (.int .i64)))] [(9,10),(16,30)] .n) .n))) .n)))))) .n)) hm
abbrev uX:FuncId:=55
noncomputable def nD (s_0:Option Addr) (n_1:Int×Int×Int×Int×Int×Int×Sl×Sl) (slots_2:Sl) (R:Value→Heap→Prop) (h:Heap):Prop:=
 aK Tryz.prog (Instr.box 42 (.agg #[(.int .i64 n_1.1),(.int .i64 n_1.2.1),(.int .i64 n_1.2.2.1),(.int .i64 n_1.2.2.2.1),(.int .i64 n_1.2.2.2.2.1),(.int .i64 n_1.2.2.2.2.2.1),(.slice n_1.2.2.2.2.2.2.1.ptr n_1.2.2.2.2.2.2.1.len n_1.2.2.2.2.2.2.1.cap),(.slice n_1.2.2.2.2.2.2.2.ptr n_1.2.2.2.2.2.2.2.len n_1.2.2.2.2.2.2.2.cap)])) h fun a1 h1=>
 ∃x2:Int×Int×Int×Int×Int×Int×Sl×Sl,ai h1 a1 0 [(.int .i64 x2.1),(.int .i64 x2.2.1),(.int .i64 x2.2.2.1),(.int .i64 x2.2.2.2.1),(.int .i64 x2.2.2.2.2.1),(.int .i64 x2.2.2.2.2.2.1),(.slice x2.2.2.2.2.2.2.1.ptr x2.2.2.2.2.2.2.1.len x2.2.2.2.2.2.2.1.cap),(.slice x2.2.2.2.2.2.2.2.ptr x2.2.2.2.2.2.2.2.len x2.2.2.2.2.2.2.2.cap)]∧
 af Tryz.prog 32 #[(.agg #[(.int .i64 x2.1),(.int .i64 x2.2.1),(.int .i64 x2.2.2.1),(.int .i64 x2.2.2.2.1),(.int .i64 x2.2.2.2.2.1),(.int .i64 x2.2.2.2.2.2.1),(.slice x2.2.2.2.2.2.2.1.ptr x2.2.2.2.2.2.2.1.len x2.2.2.2.2.2.2.1.cap),(.slice x2.2.2.2.2.2.2.2.ptr x2.2.2.2.2.2.2.2.len x2.2.2.2.2.2.2.2.cap)]),(.slice slots_2.ptr slots_2.len slots_2.cap)] (.one (.sc .slc)) h1 fun r3 h2=>
 af Tryz.prog 31 #[(.func (.func 12) #[(.pointer s_0)] #[]),(.slice r3.ptr r3.len r3.cap)] (.one (.sc (.int .i64))) h2 fun r4 h3=>
 Br (r4 !=(0:Int))
 (R (.int .i64 r4) h3)
 (∃x5:Int×Int×Int×Int×Int×Int×Sl×Sl,ai h3 a1 0 [(.int .i64 x5.1),(.int .i64 x5.2.1),(.int .i64 x5.2.2.1),(.int .i64 x5.2.2.2.1),(.int .i64 x5.2.2.2.2.1),(.int .i64 x5.2.2.2.2.2.1),(.slice x5.2.2.2.2.2.2.1.ptr x5.2.2.2.2.2.2.1.len x5.2.2.2.2.2.2.1.cap),(.slice x5.2.2.2.2.2.2.2.ptr x5.2.2.2.2.2.2.2.len x5.2.2.2.2.2.2.2.cap)]∧
 af Tryz.prog 41 #[(.agg #[(.int .i64 x5.1),(.int .i64 x5.2.1),(.int .i64 x5.2.2.1),(.int .i64 x5.2.2.2.1),(.int .i64 x5.2.2.2.2.1),(.int .i64 x5.2.2.2.2.2.1),(.slice x5.2.2.2.2.2.2.1.ptr x5.2.2.2.2.2.2.1.len x5.2.2.2.2.2.2.1.cap),(.slice x5.2.2.2.2.2.2.2.ptr x5.2.2.2.2.2.2.2.len x5.2.2.2.2.2.2.2.cap)])] (.one (.agg [(.int .i64),(.int .i64),(.int .i64),(.int .i64),(.int .i64),(.int .i64),.slc,.slc])) h3 fun r6 h4=>
 ∃a7:Addr,(s_0=some a7)∧
 ae Tryz.prog (Instr.storeAt 42 (.pointer (some a7)) (.agg #[(.int .i64 r6.1),(.int .i64 r6.2.1),(.int .i64 r6.2.2.1),(.int .i64 r6.2.2.2.1),(.int .i64 r6.2.2.2.2.1),(.int .i64 r6.2.2.2.2.2.1),(.slice r6.2.2.2.2.2.2.1.ptr r6.2.2.2.2.2.2.1.len r6.2.2.2.2.2.2.1.cap),(.slice r6.2.2.2.2.2.2.2.ptr r6.2.2.2.2.2.2.2.len r6.2.2.2.2.2.2.2.cap)])) h4 fun _ h5=>
 R (.int .i64 (0:Int)) h5)
theorem tt (s_0:Option Addr) (n_1:Int×Int×Int×Int×Int×Int×Sl×Sl) (slots_2:Sl) {R:Value→Heap→Prop} {h:Heap} (hm:nD s_0 n_1 slots_2 R h):ab Tryz.prog 55 #[(.pointer s_0),(.agg #[(.int .i64 n_1.1),(.int .i64 n_1.2.1),(.int .i64 n_1.2.2.1),(.int .i64 n_1.2.2.2.1),(.int .i64 n_1.2.2.2.2.1),(.int .i64 n_1.2.2.2.2.2.1),(.slice n_1.2.2.2.2.2.2.1.ptr n_1.2.2.2.2.2.2.1.len n_1.2.2.2.2.2.2.1.cap),(.slice n_1.2.2.2.2.2.2.2.ptr n_1.2.2.2.2.2.2.2.len n_1.2.2.2.2.2.2.2.cap)]),(.slice slots_2.ptr slots_2.len slots_2.cap)] h R:=aq ag Tryz.func55 .n hm
abbrev Cg:FuncId:=56
noncomputable def uu (b_0:Sl) (R:Value→Heap→Prop) (h:Heap):Prop:=
 aK Tryz.prog (Instr.alloc 103 true (.tuple #[])) h fun a1 h1=>
 af Tryz.prog 107 #[(.slice b_0.ptr b_0.len b_0.cap)] (.many [(.sc (.int .i64)),(.sc .slc),(.sc .bool)]) h1 fun r2 h2=>
 aZ (σ:=Unit) (fun _ h5=>
 aZ (σ:=Addr) (fun s19 h23=>
 aZ (σ:=Unit) (fun _ h28=>
 (0≤(9:Int)∧(9:Int)≤(13:Int)∧(13:Int)≤((r2.2.1.cap:Nat):Int))∧
 af Tryz.prog 108 #[(.slice (if r2.2.1.cap=(9:Int).toNat then r2.2.1.ptr else r2.2.1.ptr.map (·.add ((9:Int).toNat*1))) ((13:Int).toNat-(9:Int).toNat) (r2.2.1.cap-(9:Int).toNat))] (.one (.sc (.int .i64))) h28 fun r24 h29=>
 ae Tryz.prog (Instr.storeAt 101 (.pointer (some (s19.add 6))) (.int .u32 (IntKind.wrap .u32 r24))) h29 fun _ h30=>
 ∃x25:Int×Int×Int,ai h30 (s19.add 3) 0 [(.int .i64 x25.1),(.int .i64 x25.2.1),(.int .i64 x25.2.2)]∧
 af Tryz.prog 27 #[(.agg #[(.int .i64 x25.1),(.int .i64 x25.2.1),(.int .i64 x25.2.2)])] (.one (.sc .bool)) h30 fun r26 h31=>
 Br (!r26)
 (ae Tryz.prog (Instr.storeAt 103 (.pointer (some a1)) (.agg #[(.int .i64 (0:Int)),(.int .i64 (0:Int)),(.int .i64 (0:Int)),(.int .i64 (0:Int)),(.int .i64 (0:Int)),(.int .i64 (0:Int)),(.int .u32 (0:Int)),(.slice none 0 0)])) h31 fun _ h32=>
 ∃res27:Int×Int×Int×Int×Int×Int×Int×Sl,ai h32 a1 0 [(.int .i64 res27.1),(.int .i64 res27.2.1),(.int .i64 res27.2.2.1),(.int .i64 res27.2.2.2.1),(.int .i64 res27.2.2.2.2.1),(.int .i64 res27.2.2.2.2.2.1),(.int .u32 res27.2.2.2.2.2.2.1),(.slice res27.2.2.2.2.2.2.2.ptr res27.2.2.2.2.2.2.2.len res27.2.2.2.2.2.2.2.cap)]∧
 R (.tuple #[(.agg #[(.int .i64 res27.1),(.int .i64 res27.2.1),(.int .i64 res27.2.2.1),(.int .i64 res27.2.2.2.1),(.int .i64 res27.2.2.2.2.1),(.int .i64 res27.2.2.2.2.2.1),(.int .u32 res27.2.2.2.2.2.2.1),(.slice res27.2.2.2.2.2.2.2.ptr res27.2.2.2.2.2.2.2.len res27.2.2.2.2.2.2.2.cap)]),(.bool false)]) h32)
 (∃x28:Int,cellOf h31 ((s19.add 3).add 2)=some (.int .i64 x28)∧
 (0≤(13:Int)∧(13:Int)≤(IntKind.wrap .i64 ((13:Int)+x28))∧(IntKind.wrap .i64 ((13:Int)+x28))≤((r2.2.1.cap:Nat):Int))∧
 af Tryz.prog 109 #[(.slice (if r2.2.1.cap=(13:Int).toNat then r2.2.1.ptr else r2.2.1.ptr.map (·.add ((13:Int).toNat*1))) ((IntKind.wrap .i64 ((13:Int)+x28)).toNat-(13:Int).toNat) (r2.2.1.cap-(13:Int).toNat))] (.one (.sc .slc)) h31 fun r29 h33=>
 ae Tryz.prog (Instr.storeAt 46 (.pointer (some (s19.add 7))) (.slice r29.ptr r29.len r29.cap)) h33 fun _ h34=>
 ∃x30:Int×Int×Int×Int×Int×Int×Int×Sl,ai h34 s19 0 [(.int .i64 x30.1),(.int .i64 x30.2.1),(.int .i64 x30.2.2.1),(.int .i64 x30.2.2.2.1),(.int .i64 x30.2.2.2.2.1),(.int .i64 x30.2.2.2.2.2.1),(.int .u32 x30.2.2.2.2.2.2.1),(.slice x30.2.2.2.2.2.2.2.ptr x30.2.2.2.2.2.2.2.len x30.2.2.2.2.2.2.2.cap)]∧
 af Tryz.prog 100 #[(.agg #[(.int .i64 x30.1),(.int .i64 x30.2.1),(.int .i64 x30.2.2.1),(.int .i64 x30.2.2.2.1),(.int .i64 x30.2.2.2.2.1),(.int .i64 x30.2.2.2.2.2.1),(.int .u32 x30.2.2.2.2.2.2.1),(.slice x30.2.2.2.2.2.2.2.ptr x30.2.2.2.2.2.2.2.len x30.2.2.2.2.2.2.2.cap)])] (.one (.sc .slc)) h34 fun r31 h35=>
 af Tryz.prog 46 #[(.slice b_0.ptr b_0.len b_0.cap),(.slice r31.ptr r31.len r31.cap)] (.one (.sc .bool)) h35 fun r32 h36=>
 Br (!r32)
 (ae Tryz.prog (Instr.storeAt 103 (.pointer (some a1)) (.agg #[(.int .i64 (0:Int)),(.int .i64 (0:Int)),(.int .i64 (0:Int)),(.int .i64 (0:Int)),(.int .i64 (0:Int)),(.int .i64 (0:Int)),(.int .u32 (0:Int)),(.slice none 0 0)])) h36 fun _ h37=>
 ∃res33:Int×Int×Int×Int×Int×Int×Int×Sl,ai h37 a1 0 [(.int .i64 res33.1),(.int .i64 res33.2.1),(.int .i64 res33.2.2.1),(.int .i64 res33.2.2.2.1),(.int .i64 res33.2.2.2.2.1),(.int .i64 res33.2.2.2.2.2.1),(.int .u32 res33.2.2.2.2.2.2.1),(.slice res33.2.2.2.2.2.2.2.ptr res33.2.2.2.2.2.2.2.len res33.2.2.2.2.2.2.2.cap)]∧
 R (.tuple #[(.agg #[(.int .i64 res33.1),(.int .i64 res33.2.1),(.int .i64 res33.2.2.1),(.int .i64 res33.2.2.2.1),(.int .i64 res33.2.2.2.2.1),(.int .i64 res33.2.2.2.2.2.1),(.int .u32 res33.2.2.2.2.2.2.1),(.slice res33.2.2.2.2.2.2.2.ptr res33.2.2.2.2.2.2.2.len res33.2.2.2.2.2.2.2.cap)]),(.bool false)]) h37)
 (∃x34:Int×Int×Int×Int×Int×Int×Int×Sl,ai h36 s19 0 [(.int .i64 x34.1),(.int .i64 x34.2.1),(.int .i64 x34.2.2.1),(.int .i64 x34.2.2.2.1),(.int .i64 x34.2.2.2.2.1),(.int .i64 x34.2.2.2.2.2.1),(.int .u32 x34.2.2.2.2.2.2.1),(.slice x34.2.2.2.2.2.2.2.ptr x34.2.2.2.2.2.2.2.len x34.2.2.2.2.2.2.2.cap)]∧
 ae Tryz.prog (Instr.storeAt 103 (.pointer (some a1)) (.agg #[(.int .i64 x34.1),(.int .i64 x34.2.1),(.int .i64 x34.2.2.1),(.int .i64 x34.2.2.2.1),(.int .i64 x34.2.2.2.2.1),(.int .i64 x34.2.2.2.2.2.1),(.int .u32 x34.2.2.2.2.2.2.1),(.slice x34.2.2.2.2.2.2.2.ptr x34.2.2.2.2.2.2.2.len x34.2.2.2.2.2.2.2.cap)])) h36 fun _ h38=>
 ∃res35:Int×Int×Int×Int×Int×Int×Int×Sl,ai h38 a1 0 [(.int .i64 res35.1),(.int .i64 res35.2.1),(.int .i64 res35.2.2.1),(.int .i64 res35.2.2.2.1),(.int .i64 res35.2.2.2.2.1),(.int .i64 res35.2.2.2.2.2.1),(.int .u32 res35.2.2.2.2.2.2.1),(.slice res35.2.2.2.2.2.2.2.ptr res35.2.2.2.2.2.2.2.len res35.2.2.2.2.2.2.2.cap)]∧
 R (.tuple #[(.agg #[(.int .i64 res35.1),(.int .i64 res35.2.1),(.int .i64 res35.2.2.1),(.int .i64 res35.2.2.2.1),(.int .i64 res35.2.2.2.2.1),(.int .i64 res35.2.2.2.2.2.1),(.int .u32 res35.2.2.2.2.2.2.1),(.slice res35.2.2.2.2.2.2.2.ptr res35.2.2.2.2.2.2.2.len res35.2.2.2.2.2.2.2.cap)]),(.bool true)]) h38)))
 (fun K3=>
 (0≤(6:Int)∧(6:Int)≤(7:Int)∧(7:Int)≤((r2.2.1.cap:Nat):Int))∧
 (0≤(7:Int)∧(7:Int)≤(8:Int)∧(8:Int)≤((r2.2.1.cap:Nat):Int))∧
 (0≤(8:Int)∧(8:Int)≤(9:Int)∧(9:Int)≤((r2.2.1.cap:Nat):Int))∧
 af Tryz.prog 108 #[(.slice (if r2.2.1.cap=(6:Int).toNat then r2.2.1.ptr else r2.2.1.ptr.map (·.add ((6:Int).toNat*1))) ((7:Int).toNat-(6:Int).toNat) (r2.2.1.cap-(6:Int).toNat))] (.one (.sc (.int .i64))) h23 fun r20 h24=>
 (ak.ok [] h24)∧
 af Tryz.prog 108 #[(.slice (if r2.2.1.cap=(7:Int).toNat then r2.2.1.ptr else r2.2.1.ptr.map (·.add ((7:Int).toNat*1))) ((8:Int).toNat-(7:Int).toNat) (r2.2.1.cap-(7:Int).toNat))] (.one (.sc (.int .i64))) h24 fun r21 h25=>
 (ak.ok [] h25)∧
 af Tryz.prog 108 #[(.slice (if r2.2.1.cap=(8:Int).toNat then r2.2.1.ptr else r2.2.1.ptr.map (·.add ((8:Int).toNat*1))) ((9:Int).toNat-(8:Int).toNat) (r2.2.1.cap-(8:Int).toNat))] (.one (.sc (.int .i64))) h25 fun r22 h26=>
 (ak.ok [] h26)∧
 ae Tryz.prog (Instr.storeAt 24 (.pointer (some (s19.add 3))) (.agg #[(.int .i64 r20),(.int .i64 r21),(.int .i64 r22)])) h26 fun _ h27=>
 (ak.ok [] h27)∧
 K3 () h27))
 (fun K2=>
 (0≤(3:Int)∧(3:Int)≤((r2.2.1.cap:Nat):Int))∧
 (0≤(3:Int)∧(3:Int)≤(4:Int)∧(4:Int)≤((r2.2.1.cap:Nat):Int))∧
 (0≤(4:Int)∧(4:Int)≤(6:Int)∧(6:Int)≤((r2.2.1.cap:Nat):Int))∧
 (af Tryz.prog 108 #[(.slice r2.2.1.ptr ((3:Int).toNat) r2.2.1.cap)] (.one (.sc (.int .i64))) h5 fun r6 h6=>
 (ak.ok [] h6)∧
 (af Tryz.prog 108 #[(.slice (if r2.2.1.cap=(3:Int).toNat then r2.2.1.ptr else r2.2.1.ptr.map (·.add ((3:Int).toNat*1))) ((4:Int).toNat-(3:Int).toNat) (r2.2.1.cap-(3:Int).toNat))] (.one (.sc (.int .i64))) h6 fun r7 h7=>
 (ak.ok [] h7)∧
 (af Tryz.prog 108 #[(.slice (if r2.2.1.cap=(4:Int).toNat then r2.2.1.ptr else r2.2.1.ptr.map (·.add ((4:Int).toNat*1))) ((6:Int).toNat-(4:Int).toNat) (r2.2.1.cap-(4:Int).toNat))] (.one (.sc (.int .i64))) h7 fun r8 h8=>
 (ak.ok [] h8)∧
 aK Tryz.prog (Instr.alloc 103 true (.tuple #[])) h8 fun a9 h9=>
 (ak.ok [] h9)∧
 ae Tryz.prog (Instr.storeAt 103 (.pointer (some a9)) (.agg #[(.int .i64 r6),(.int .i64 r7),(.int .i64 r8),(.int .i64 (0:Int)),(.int .i64 (0:Int)),(.int .i64 (0:Int)),(.int .u32 (0:Int)),(.slice none 0 0)])) h9 fun _ h10=>
 (ak.ok [] h10)∧
 K2 a9 h10)∧(aK Tryz.prog (Instr.alloc 103 true (.tuple #[])) h7 fun a10 h11=>
 (ak.ok [] h11)∧
 af Tryz.prog 108 #[(.slice (if r2.2.1.cap=(4:Int).toNat then r2.2.1.ptr else r2.2.1.ptr.map (·.add ((4:Int).toNat*1))) ((6:Int).toNat-(4:Int).toNat) (r2.2.1.cap-(4:Int).toNat))] (.one (.sc (.int .i64))) h11 fun r11 h12=>
 (ak.ok [] h12)∧
 ae Tryz.prog (Instr.storeAt 103 (.pointer (some a10)) (.agg #[(.int .i64 r6),(.int .i64 r7),(.int .i64 r11),(.int .i64 (0:Int)),(.int .i64 (0:Int)),(.int .i64 (0:Int)),(.int .u32 (0:Int)),(.slice none 0 0)])) h12 fun _ h13=>
 (ak.ok [] h13)∧
 K2 a10 h13))∧(aK Tryz.prog (Instr.alloc 103 true (.tuple #[])) h6 fun a12 h14=>
 (ak.ok [] h14)∧
 af Tryz.prog 108 #[(.slice (if r2.2.1.cap=(3:Int).toNat then r2.2.1.ptr else r2.2.1.ptr.map (·.add ((3:Int).toNat*1))) ((4:Int).toNat-(3:Int).toNat) (r2.2.1.cap-(3:Int).toNat))] (.one (.sc (.int .i64))) h14 fun r13 h15=>
 (ak.ok [] h15)∧
 af Tryz.prog 108 #[(.slice (if r2.2.1.cap=(4:Int).toNat then r2.2.1.ptr else r2.2.1.ptr.map (·.add ((4:Int).toNat*1))) ((6:Int).toNat-(4:Int).toNat) (r2.2.1.cap-(4:Int).toNat))] (.one (.sc (.int .i64))) h15 fun r14 h16=>
 (ak.ok [] h16)∧
 ae Tryz.prog (Instr.storeAt 103 (.pointer (some a12)) (.agg #[(.int .i64 r6),(.int .i64 r13),(.int .i64 r14),(.int .i64 (0:Int)),(.int .i64 (0:Int)),(.int .i64 (0:Int)),(.int .u32 (0:Int)),(.slice none 0 0)])) h16 fun _ h17=>
 (ak.ok [] h17)∧
 K2 a12 h17))∧(aK Tryz.prog (Instr.alloc 103 true (.tuple #[])) h5 fun a15 h18=>
 (ak.ok [] h18)∧
 af Tryz.prog 108 #[(.slice r2.2.1.ptr ((3:Int).toNat) r2.2.1.cap)] (.one (.sc (.int .i64))) h18 fun r16 h19=>
 (ak.ok [] h19)∧
 af Tryz.prog 108 #[(.slice (if r2.2.1.cap=(3:Int).toNat then r2.2.1.ptr else r2.2.1.ptr.map (·.add ((3:Int).toNat*1))) ((4:Int).toNat-(3:Int).toNat) (r2.2.1.cap-(3:Int).toNat))] (.one (.sc (.int .i64))) h19 fun r17 h20=>
 (ak.ok [] h20)∧
 af Tryz.prog 108 #[(.slice (if r2.2.1.cap=(4:Int).toNat then r2.2.1.ptr else r2.2.1.ptr.map (·.add ((4:Int).toNat*1))) ((6:Int).toNat-(4:Int).toNat) (r2.2.1.cap-(4:Int).toNat))] (.one (.sc (.int .i64))) h20 fun r18 h21=>
 (ak.ok [] h21)∧
 ae Tryz.prog (Instr.storeAt 103 (.pointer (some a15)) (.agg #[(.int .i64 r16),(.int .i64 r17),(.int .i64 r18),(.int .i64 (0:Int)),(.int .i64 (0:Int)),(.int .i64 (0:Int)),(.int .u32 (0:Int)),(.slice none 0 0)])) h21 fun _ h22=>
 (ak.ok [] h22)∧
 K2 a15 h22)))
 (fun K1=>
 Br (!r2.2.2) (ae Tryz.prog (Instr.storeAt 103 (.pointer (some a1)) (.agg #[(.int .i64 (0:Int)),(.int .i64 (0:Int)),(.int .i64 (0:Int)),(.int .i64 (0:Int)),(.int .i64 (0:Int)),(.int .i64 (0:Int)),(.int .u32 (0:Int)),(.slice none 0 0)])) h2 fun _ h3=>
 ∃res3:Int×Int×Int×Int×Int×Int×Int×Sl,ai h3 a1 0 [(.int .i64 res3.1),(.int .i64 res3.2.1),(.int .i64 res3.2.2.1),(.int .i64 res3.2.2.2.1),(.int .i64 res3.2.2.2.2.1),(.int .i64 res3.2.2.2.2.2.1),(.int .u32 res3.2.2.2.2.2.2.1),(.slice res3.2.2.2.2.2.2.2.ptr res3.2.2.2.2.2.2.2.len res3.2.2.2.2.2.2.2.cap)]∧
 R (.tuple #[(.agg #[(.int .i64 res3.1),(.int .i64 res3.2.1),(.int .i64 res3.2.2.1),(.int .i64 res3.2.2.2.1),(.int .i64 res3.2.2.2.2.1),(.int .i64 res3.2.2.2.2.2.1),(.int .u32 res3.2.2.2.2.2.2.1),(.slice res3.2.2.2.2.2.2.2.ptr res3.2.2.2.2.2.2.2.len res3.2.2.2.2.2.2.2.cap)]),(.bool false)]) h3) (Br (r2.1 !=(1:Int))
 (ae Tryz.prog (Instr.storeAt 103 (.pointer (some a1)) (.agg #[(.int .i64 (0:Int)),(.int .i64 (0:Int)),(.int .i64 (0:Int)),(.int .i64 (0:Int)),(.int .i64 (0:Int)),(.int .i64 (0:Int)),(.int .u32 (0:Int)),(.slice none 0 0)])) h2 fun _ h4=>
 ∃res4:Int×Int×Int×Int×Int×Int×Int×Sl,ai h4 a1 0 [(.int .i64 res4.1),(.int .i64 res4.2.1),(.int .i64 res4.2.2.1),(.int .i64 res4.2.2.2.1),(.int .i64 res4.2.2.2.2.1),(.int .i64 res4.2.2.2.2.2.1),(.int .u32 res4.2.2.2.2.2.2.1),(.slice res4.2.2.2.2.2.2.2.ptr res4.2.2.2.2.2.2.2.len res4.2.2.2.2.2.2.2.cap)]∧
 R (.tuple #[(.agg #[(.int .i64 res4.1),(.int .i64 res4.2.1),(.int .i64 res4.2.2.1),(.int .i64 res4.2.2.2.1),(.int .i64 res4.2.2.2.2.1),(.int .i64 res4.2.2.2.2.2.1),(.int .u32 res4.2.2.2.2.2.2.1),(.slice res4.2.2.2.2.2.2.2.ptr res4.2.2.2.2.2.2.2.len res4.2.2.2.2.2.2.2.cap)]),(.bool false)]) h4)
 (K1 () h2)))
theorem An (b_0:Sl) {R:Value→Heap→Prop} {h:Heap} (hm:uu b_0 R h):ab Tryz.prog 56 #[(.slice b_0.ptr b_0.len b_0.cap)] h R:=aq ag Tryz.func56 (.two .n (.two .n (.two (.join [] [(3,4),(14,21)] .n) (.two (.join [(7,(.sc .adr))] [(7,8),(21,31)] .n) (.two (.join [] [(31,42)] .n) .n))))) hm
abbrev Ch:FuncId:=57
noncomputable def uv (m_0:Int×Int×Int×Int×Int×Int×Sl×Sl) (r_1:Int×Int×Int×Int×Int×Int×Int×Sl) (R:Value→Heap→Prop) (h:Heap):Prop:=
 aK Tryz.prog (Instr.box 42 (.agg #[(.int .i64 m_0.1),(.int .i64 m_0.2.1),(.int .i64 m_0.2.2.1),(.int .i64 m_0.2.2.2.1),(.int .i64 m_0.2.2.2.2.1),(.int .i64 m_0.2.2.2.2.2.1),(.slice m_0.2.2.2.2.2.2.1.ptr m_0.2.2.2.2.2.2.1.len m_0.2.2.2.2.2.2.1.cap),(.slice m_0.2.2.2.2.2.2.2.ptr m_0.2.2.2.2.2.2.2.len m_0.2.2.2.2.2.2.2.cap)])) h fun a1 h1=>
 aK Tryz.prog (Instr.box 103 (.agg #[(.int .i64 r_1.1),(.int .i64 r_1.2.1),(.int .i64 r_1.2.2.1),(.int .i64 r_1.2.2.2.1),(.int .i64 r_1.2.2.2.2.1),(.int .i64 r_1.2.2.2.2.2.1),(.int .u32 r_1.2.2.2.2.2.2.1),(.slice r_1.2.2.2.2.2.2.2.ptr r_1.2.2.2.2.2.2.2.len r_1.2.2.2.2.2.2.2.cap)])) h1 fun a2 h2=>
 aZ (σ:=Unit) (fun _ h4=>
 ∃x9:Sl,cellOf h4 (a1.add 7)=some (.slice x9.ptr x9.len x9.cap)∧
 af Tryz.prog 86 #[(.slice x9.ptr x9.len x9.cap),(.func (.func 111) #[] #[(.pointer (some a2))])] (.one (.sc .bool)) h4 fun r10 h5=>
 R (.bool r10) h5)
 (fun K1=>
 ∃x3:Int×Int×Int×Int×Int×Int×Int×Sl,ai h2 a2 0 [(.int .i64 x3.1),(.int .i64 x3.2.1),(.int .i64 x3.2.2.1),(.int .i64 x3.2.2.2.1),(.int .i64 x3.2.2.2.2.1),(.int .i64 x3.2.2.2.2.2.1),(.int .u32 x3.2.2.2.2.2.2.1),(.slice x3.2.2.2.2.2.2.2.ptr x3.2.2.2.2.2.2.2.len x3.2.2.2.2.2.2.2.cap)]∧
 af Tryz.prog 110 #[(.agg #[(.int .i64 x3.1),(.int .i64 x3.2.1),(.int .i64 x3.2.2.1),(.int .i64 x3.2.2.2.1),(.int .i64 x3.2.2.2.2.1),(.int .i64 x3.2.2.2.2.2.1),(.int .u32 x3.2.2.2.2.2.2.1),(.slice x3.2.2.2.2.2.2.2.ptr x3.2.2.2.2.2.2.2.len x3.2.2.2.2.2.2.2.cap)])] (.one (.sc .bool)) h2 fun r4 h3=>
 Br (!r4) (R (.bool false) h3) (∃x5:Int×Int×Int,ai h3 (a2.add 3) 0 [(.int .i64 x5.1),(.int .i64 x5.2.1),(.int .i64 x5.2.2)]∧
 ∃x6:Int×Int×Int,ai h3 (a1.add 2) 0 [(.int .i64 x6.1),(.int .i64 x6.2.1),(.int .i64 x6.2.2)]∧
 ∃b7:Bool,(iB Tryz.prog .neq 24 (.tmp 10) (.tmp 12) (.agg #[(.int .i64 x5.1),(.int .i64 x5.2.1),(.int .i64 x5.2.2)]) (.agg #[(.int .i64 x6.1),(.int .i64 x6.2.1),(.int .i64 x6.2.2)]) (.bool b7))∧
 Br b7
 (R (.bool false) h3)
 (K1 () h3)))
theorem Ao (m_0:Int×Int×Int×Int×Int×Int×Sl×Sl) (r_1:Int×Int×Int×Int×Int×Int×Int×Sl) {R:Value→Heap→Prop} {h:Heap} (hm:uv m_0 r_1 R h):ab Tryz.prog 57 #[(.agg #[(.int .i64 m_0.1),(.int .i64 m_0.2.1),(.int .i64 m_0.2.2.1),(.int .i64 m_0.2.2.2.1),(.int .i64 m_0.2.2.2.2.1),(.int .i64 m_0.2.2.2.2.2.1),(.slice m_0.2.2.2.2.2.2.1.ptr m_0.2.2.2.2.2.2.1.len m_0.2.2.2.2.2.2.1.cap),(.slice m_0.2.2.2.2.2.2.2.ptr m_0.2.2.2.2.2.2.2.len m_0.2.2.2.2.2.2.2.cap)]),(.agg #[(.int .i64 r_1.1),(.int .i64 r_1.2.1),(.int .i64 r_1.2.2.1),(.int .i64 r_1.2.2.2.1),(.int .i64 r_1.2.2.2.2.1),(.int .i64 r_1.2.2.2.2.2.1),(.int .u32 r_1.2.2.2.2.2.2.1),(.slice r_1.2.2.2.2.2.2.2.ptr r_1.2.2.2.2.2.2.2.len r_1.2.2.2.2.2.2.2.cap)])] h R:=aq ag Tryz.func57 (.two .n (.two (.join [] [(4,15)] .n) .n)) hm
abbrev gK:FuncId:=58
noncomputable def dY (x_0:Sl) (cmp_1:FuncId×Array Value×Array Value) (R:Value→Heap→Prop) (h:Heap):Prop:=
 af Tryz.prog 112 #[(.slice x_0.ptr x_0.len x_0.cap),(.int .i64 ((x_0.len:Nat):Int)),(.func (.func cmp_1.1) cmp_1.2.1 cmp_1.2.2)] (.many []) h fun _ h1=>
 R (.tuple #[]) h1
theorem gH (x_0:Sl) (cmp_1:FuncId×Array Value×Array Value) {R:Value→Heap→Prop} {h:Heap} (hm:dY x_0 cmp_1 R h):ab Tryz.prog 58 #[(.slice x_0.ptr x_0.len x_0.cap),(.func (.func cmp_1.1) cmp_1.2.1 cmp_1.2.2)] h R:=aq ag Tryz.func58 .n hm
abbrev cw:FuncId:=59
noncomputable def vS (a_0:Int×Int×Int×Int×Int×Int×Int×Sl) (b_1:Int×Int×Int×Int×Int×Int×Int×Sl) (R:Value→Heap→Prop) (h:Heap):Prop:=
 aK Tryz.prog (Instr.box 103 (.agg #[(.int .i64 a_0.1),(.int .i64 a_0.2.1),(.int .i64 a_0.2.2.1),(.int .i64 a_0.2.2.2.1),(.int .i64 a_0.2.2.2.2.1),(.int .i64 a_0.2.2.2.2.2.1),(.int .u32 a_0.2.2.2.2.2.2.1),(.slice a_0.2.2.2.2.2.2.2.ptr a_0.2.2.2.2.2.2.2.len a_0.2.2.2.2.2.2.2.cap)])) h fun a1 h1=>
 aK Tryz.prog (Instr.box 103 (.agg #[(.int .i64 b_1.1),(.int .i64 b_1.2.1),(.int .i64 b_1.2.2.1),(.int .i64 b_1.2.2.2.1),(.int .i64 b_1.2.2.2.2.1),(.int .i64 b_1.2.2.2.2.2.1),(.int .u32 b_1.2.2.2.2.2.2.1),(.slice b_1.2.2.2.2.2.2.2.ptr b_1.2.2.2.2.2.2.2.len b_1.2.2.2.2.2.2.2.cap)])) h1 fun a2 h2=>
 ∃x3:Int,cellOf h2 a1=some (.int .i64 x3)∧
 ∃x4:Int,cellOf h2 a2=some (.int .i64 x4)∧
 ∃x5:Int,cellOf h2 (a1.add 1)=some (.int .i64 x5)∧
 ∃x6:Int,cellOf h2 (a2.add 1)=some (.int .i64 x6)∧
 ∃x7:Int,cellOf h2 (a1.add 2)=some (.int .i64 x7)∧
 ∃x8:Int,cellOf h2 (a2.add 2)=some (.int .i64 x8)∧
 af Tryz.prog 114 #[(.int .i64 x3),(.int .i64 x4)] (.one (.sc (.int .i64))) h2 fun r9 h3=>
 (ak.ok [(a2.add 2,(.int .i64 x8)),(a1.add 2,(.int .i64 x7)),(a2.add 1,(.int .i64 x6)),(a1.add 1,(.int .i64 x5))] h3)∧
 af Tryz.prog 114 #[(.int .i64 x5),(.int .i64 x6)] (.one (.sc (.int .i64))) h3 fun r10 h4=>
 (ak.ok [(a2.add 2,(.int .i64 x8)),(a1.add 2,(.int .i64 x7))] h4)∧
 af Tryz.prog 114 #[(.int .i64 x7),(.int .i64 x8)] (.one (.sc (.int .i64))) h4 fun r11 h5=>
 (ak.ok [] h5)∧
 az Tryz.prog (Instr.buildSlice 22 3 #[(0,(.int .i64 r9)),(1,(.int .i64 r10)),(2,(.int .i64 r11))]) (.one (.sc .slc)) h5 fun v12 h6=>
 (ak.ok [] h6)∧
 af Tryz.prog 113 #[(.slice v12.ptr v12.len v12.cap)] (.one (.sc (.int .i64))) h6 fun r13 h7=>
 (ak.ok [] h7)∧
 R (.int .i64 r13) h7
theorem Ci (a_0:Int×Int×Int×Int×Int×Int×Int×Sl) (b_1:Int×Int×Int×Int×Int×Int×Int×Sl) {R:Value→Heap→Prop} {h:Heap} (hm:vS a_0 b_1 R h):ab Tryz.prog 59 #[(.agg #[(.int .i64 a_0.1),(.int .i64 a_0.2.1),(.int .i64 a_0.2.2.1),(.int .i64 a_0.2.2.2.1),(.int .i64 a_0.2.2.2.2.1),(.int .i64 a_0.2.2.2.2.2.1),(.int .u32 a_0.2.2.2.2.2.2.1),(.slice a_0.2.2.2.2.2.2.2.ptr a_0.2.2.2.2.2.2.2.len a_0.2.2.2.2.2.2.2.cap)]),(.agg #[(.int .i64 b_1.1),(.int .i64 b_1.2.1),(.int .i64 b_1.2.2.1),(.int .i64 b_1.2.2.2.1),(.int .i64 b_1.2.2.2.2.1),(.int .i64 b_1.2.2.2.2.2.1),(.int .u32 b_1.2.2.2.2.2.2.1),(.slice b_1.2.2.2.2.2.2.2.ptr b_1.2.2.2.2.2.2.2.len b_1.2.2.2.2.2.2.2.cap)])] h R:=aq ag Tryz.func59 .n hm
abbrev ir:FuncId:=60
noncomputable def eP (s_0:Sl) (eq_1:FuncId×Array Value×Array Value) (R:Value→Heap→Prop) (h:Heap):Prop:=
 Br (decide (((s_0.len:Nat):Int)<(2:Int)))
 (R (.slice s_0.ptr s_0.len s_0.cap) h)
 (aO (σ:=Int) (fun s1 K1 h1=>
 Br (decide (s1<((s_0.len:Nat):Int)))
 (∃a2:Addr,(s_0.ptr=some a2∧0≤s1∧s1<((s_0.len:Nat):Int))∧
 ∃x3:Int×Int×Int×Int×Int×Int×Int×Sl,ai h1 (a2.add (s1.toNat*8)) 0 [(.int .i64 x3.1),(.int .i64 x3.2.1),(.int .i64 x3.2.2.1),(.int .i64 x3.2.2.2.1),(.int .i64 x3.2.2.2.2.1),(.int .i64 x3.2.2.2.2.2.1),(.int .u32 x3.2.2.2.2.2.2.1),(.slice x3.2.2.2.2.2.2.2.ptr x3.2.2.2.2.2.2.2.len x3.2.2.2.2.2.2.2.cap)]∧
 ∃a4:Addr,(s_0.ptr=some a4∧0≤(IntKind.wrap .i64 (s1-(1:Int)))∧(IntKind.wrap .i64 (s1-(1:Int)))<((s_0.len:Nat):Int))∧
 ∃x5:Int×Int×Int×Int×Int×Int×Int×Sl,ai h1 (a4.add ((IntKind.wrap .i64 (s1-(1:Int))).toNat*8)) 0 [(.int .i64 x5.1),(.int .i64 x5.2.1),(.int .i64 x5.2.2.1),(.int .i64 x5.2.2.2.1),(.int .i64 x5.2.2.2.2.1),(.int .i64 x5.2.2.2.2.2.1),(.int .u32 x5.2.2.2.2.2.2.1),(.slice x5.2.2.2.2.2.2.2.ptr x5.2.2.2.2.2.2.2.len x5.2.2.2.2.2.2.2.cap)]∧
 fI C eq_1.1 (eq_1.2.1.toList++[(.agg #[(.int .i64 x3.1),(.int .i64 x3.2.1),(.int .i64 x3.2.2.1),(.int .i64 x3.2.2.2.1),(.int .i64 x3.2.2.2.2.1),(.int .i64 x3.2.2.2.2.2.1),(.int .u32 x3.2.2.2.2.2.2.1),(.slice x3.2.2.2.2.2.2.2.ptr x3.2.2.2.2.2.2.2.len x3.2.2.2.2.2.2.2.cap)]),(.agg #[(.int .i64 x5.1),(.int .i64 x5.2.1),(.int .i64 x5.2.2.1),(.int .i64 x5.2.2.2.1),(.int .i64 x5.2.2.2.2.1),(.int .i64 x5.2.2.2.2.2.1),(.int .u32 x5.2.2.2.2.2.2.1),(.slice x5.2.2.2.2.2.2.2.ptr x5.2.2.2.2.2.2.2.len x5.2.2.2.2.2.2.2.cap)])]++eq_1.2.2.toList) (.one (.sc .bool)) h1 fun r6 h2=>
 (ak.ok [] h2)∧
 Br r6
 ((0≤s1∧s1≤((s_0.len:Nat):Int))∧
 aO (σ:=Int×Int) (fun s7 K2 h3=>
 Br (decide (s7.2<(((s_0.len-s1.toNat):Nat):Int)))
 (∃a8:Addr,((if s_0.cap=s1.toNat then s_0.ptr else s_0.ptr.map (·.add (s1.toNat*8)))=some a8∧0≤s7.2∧s7.2<(((s_0.len-s1.toNat):Nat):Int))∧
 ∃x9:Int×Int×Int×Int×Int×Int×Int×Sl,ai h3 (a8.add (s7.2.toNat*8)) 0 [(.int .i64 x9.1),(.int .i64 x9.2.1),(.int .i64 x9.2.2.1),(.int .i64 x9.2.2.2.1),(.int .i64 x9.2.2.2.2.1),(.int .i64 x9.2.2.2.2.2.1),(.int .u32 x9.2.2.2.2.2.2.1),(.slice x9.2.2.2.2.2.2.2.ptr x9.2.2.2.2.2.2.2.len x9.2.2.2.2.2.2.2.cap)]∧
 ∃a10:Addr,((if s_0.cap=s1.toNat then s_0.ptr else s_0.ptr.map (·.add (s1.toNat*8)))=some a10∧0≤(IntKind.wrap .i64 (s7.2-(1:Int)))∧(IntKind.wrap .i64 (s7.2-(1:Int)))<(((s_0.len-s1.toNat):Nat):Int))∧
 ∃x11:Int×Int×Int×Int×Int×Int×Int×Sl,ai h3 (a10.add ((IntKind.wrap .i64 (s7.2-(1:Int))).toNat*8)) 0 [(.int .i64 x11.1),(.int .i64 x11.2.1),(.int .i64 x11.2.2.1),(.int .i64 x11.2.2.2.1),(.int .i64 x11.2.2.2.2.1),(.int .i64 x11.2.2.2.2.2.1),(.int .u32 x11.2.2.2.2.2.2.1),(.slice x11.2.2.2.2.2.2.2.ptr x11.2.2.2.2.2.2.2.len x11.2.2.2.2.2.2.2.cap)]∧
 fI C eq_1.1 (eq_1.2.1.toList++[(.agg #[(.int .i64 x9.1),(.int .i64 x9.2.1),(.int .i64 x9.2.2.1),(.int .i64 x9.2.2.2.1),(.int .i64 x9.2.2.2.2.1),(.int .i64 x9.2.2.2.2.2.1),(.int .u32 x9.2.2.2.2.2.2.1),(.slice x9.2.2.2.2.2.2.2.ptr x9.2.2.2.2.2.2.2.len x9.2.2.2.2.2.2.2.cap)]),(.agg #[(.int .i64 x11.1),(.int .i64 x11.2.1),(.int .i64 x11.2.2.1),(.int .i64 x11.2.2.2.1),(.int .i64 x11.2.2.2.2.1),(.int .i64 x11.2.2.2.2.2.1),(.int .u32 x11.2.2.2.2.2.2.1),(.slice x11.2.2.2.2.2.2.2.ptr x11.2.2.2.2.2.2.2.len x11.2.2.2.2.2.2.2.cap)])]++eq_1.2.2.toList) (.one (.sc .bool)) h3 fun r12 h4=>
 (ak.ok [] h4)∧
 Br (!r12)
 (∃a13:Addr,((if s_0.cap=s1.toNat then s_0.ptr else s_0.ptr.map (·.add (s1.toNat*8)))=some a13∧0≤s7.2∧s7.2<(((s_0.len-s1.toNat):Nat):Int))∧
 ∃x14:Int×Int×Int×Int×Int×Int×Int×Sl,ai h4 (a13.add (s7.2.toNat*8)) 0 [(.int .i64 x14.1),(.int .i64 x14.2.1),(.int .i64 x14.2.2.1),(.int .i64 x14.2.2.2.1),(.int .i64 x14.2.2.2.2.1),(.int .i64 x14.2.2.2.2.2.1),(.int .u32 x14.2.2.2.2.2.2.1),(.slice x14.2.2.2.2.2.2.2.ptr x14.2.2.2.2.2.2.2.len x14.2.2.2.2.2.2.2.cap)]∧
 ∃a15:Addr,(s_0.ptr=some a15∧0≤s7.1∧s7.1<((s_0.len:Nat):Int))∧
 ae Tryz.prog (Instr.storeAt 103 (.pointer (some (a15.add (s7.1.toNat*8)))) (.agg #[(.int .i64 x14.1),(.int .i64 x14.2.1),(.int .i64 x14.2.2.1),(.int .i64 x14.2.2.2.1),(.int .i64 x14.2.2.2.2.1),(.int .i64 x14.2.2.2.2.2.1),(.int .u32 x14.2.2.2.2.2.2.1),(.slice x14.2.2.2.2.2.2.2.ptr x14.2.2.2.2.2.2.2.len x14.2.2.2.2.2.2.2.cap)])) h4 fun _ h5=>
 K2 (IntKind.wrap .i64 (s7.1+(1:Int)),IntKind.wrap .i64 (s7.2+(1:Int))) h5)
 (K2 (s7.1,IntKind.wrap .i64 (s7.2+(1:Int))) h4))
 ((0≤s7.1∧s7.1≤((s_0.len:Nat):Int))∧
 ae Tryz.prog (Builtin.clear_ #[48] 0 #[(.slice (if s_0.cap=s7.1.toNat then s_0.ptr else s_0.ptr.map (·.add (s7.1.toNat*8))) (s_0.len-s7.1.toNat) (s_0.cap-s7.1.toNat))]) h3 fun _ h6=>
 (0≤s7.1∧s7.1≤((s_0.cap:Nat):Int))∧
 R (.slice s_0.ptr s7.1.toNat s_0.cap) h6)) (s1,(1:Int)) h2)
 (K1 (IntKind.wrap .i64 (s1+(1:Int))) h2))
 (R (.slice s_0.ptr s_0.len s_0.cap) h1)) (1:Int) h)
theorem ig (s_0:Sl) (eq_1:FuncId×Array Value×Array Value) {R:Value→Heap→Prop} {h:Heap} (hm:eP s_0 eq_1 R h):ab Tryz.prog 60 #[(.slice s_0.ptr s_0.len s_0.cap),(.func (.func eq_1.1) eq_1.2.1 eq_1.2.2)] h R:=aq ag Tryz.func60 (.two .n (.two .n (.two (.two .n (.inn (.loop [(5,(.sc (.int .i64)))] [(4,8),(12,65)] (.two .n (.two (.inn (.two .n (.two (.two .n (.two (.two .n (.inn (.loop [(5,(.sc (.int .i64))),(7,(.sc (.int .i64)))] [(5,6),(7,8),(32,59)] .n))) .n)) .n))) .n))))) .n))) hm
abbrev km:FuncId:=61
noncomputable def pB (a_0:Int×Int×Int×Int×Int×Int×Int×Sl) (b_1:Int×Int×Int×Int×Int×Int×Int×Sl) (R:Value→Heap→Prop) (h:Heap):Prop:=
 aK Tryz.prog (Instr.box 103 (.agg #[(.int .i64 a_0.1),(.int .i64 a_0.2.1),(.int .i64 a_0.2.2.1),(.int .i64 a_0.2.2.2.1),(.int .i64 a_0.2.2.2.2.1),(.int .i64 a_0.2.2.2.2.2.1),(.int .u32 a_0.2.2.2.2.2.2.1),(.slice a_0.2.2.2.2.2.2.2.ptr a_0.2.2.2.2.2.2.2.len a_0.2.2.2.2.2.2.2.cap)])) h fun a1 h1=>
 aK Tryz.prog (Instr.box 103 (.agg #[(.int .i64 b_1.1),(.int .i64 b_1.2.1),(.int .i64 b_1.2.2.1),(.int .i64 b_1.2.2.2.1),(.int .i64 b_1.2.2.2.2.1),(.int .i64 b_1.2.2.2.2.2.1),(.int .u32 b_1.2.2.2.2.2.2.1),(.slice b_1.2.2.2.2.2.2.2.ptr b_1.2.2.2.2.2.2.2.len b_1.2.2.2.2.2.2.2.cap)])) h1 fun a2 h2=>
 ∃x3:Int×Int×Int×Int×Int×Int×Int×Sl,ai h2 a1 0 [(.int .i64 x3.1),(.int .i64 x3.2.1),(.int .i64 x3.2.2.1),(.int .i64 x3.2.2.2.1),(.int .i64 x3.2.2.2.2.1),(.int .i64 x3.2.2.2.2.2.1),(.int .u32 x3.2.2.2.2.2.2.1),(.slice x3.2.2.2.2.2.2.2.ptr x3.2.2.2.2.2.2.2.len x3.2.2.2.2.2.2.2.cap)]∧
 ∃x4:Int×Int×Int×Int×Int×Int×Int×Sl,ai h2 a2 0 [(.int .i64 x4.1),(.int .i64 x4.2.1),(.int .i64 x4.2.2.1),(.int .i64 x4.2.2.2.1),(.int .i64 x4.2.2.2.2.1),(.int .i64 x4.2.2.2.2.2.1),(.int .u32 x4.2.2.2.2.2.2.1),(.slice x4.2.2.2.2.2.2.2.ptr x4.2.2.2.2.2.2.2.len x4.2.2.2.2.2.2.2.cap)]∧
 af Tryz.prog 59 #[(.agg #[(.int .i64 x3.1),(.int .i64 x3.2.1),(.int .i64 x3.2.2.1),(.int .i64 x3.2.2.2.1),(.int .i64 x3.2.2.2.2.1),(.int .i64 x3.2.2.2.2.2.1),(.int .u32 x3.2.2.2.2.2.2.1),(.slice x3.2.2.2.2.2.2.2.ptr x3.2.2.2.2.2.2.2.len x3.2.2.2.2.2.2.2.cap)]),(.agg #[(.int .i64 x4.1),(.int .i64 x4.2.1),(.int .i64 x4.2.2.1),(.int .i64 x4.2.2.2.1),(.int .i64 x4.2.2.2.2.1),(.int .i64 x4.2.2.2.2.2.1),(.int .u32 x4.2.2.2.2.2.2.1),(.slice x4.2.2.2.2.2.2.2.ptr x4.2.2.2.2.2.2.2.len x4.2.2.2.2.2.2.2.cap)])] (.one (.sc (.int .i64))) h2 fun r5 h3=>
 R (.bool (r5==(0:Int))) h3
theorem vT (a_0:Int×Int×Int×Int×Int×Int×Int×Sl) (b_1:Int×Int×Int×Int×Int×Int×Int×Sl) {R:Value→Heap→Prop} {h:Heap} (hm:pB a_0 b_1 R h):ab Tryz.prog 61 #[(.agg #[(.int .i64 a_0.1),(.int .i64 a_0.2.1),(.int .i64 a_0.2.2.1),(.int .i64 a_0.2.2.2.1),(.int .i64 a_0.2.2.2.2.1),(.int .i64 a_0.2.2.2.2.2.1),(.int .u32 a_0.2.2.2.2.2.2.1),(.slice a_0.2.2.2.2.2.2.2.ptr a_0.2.2.2.2.2.2.2.len a_0.2.2.2.2.2.2.2.cap)]),(.agg #[(.int .i64 b_1.1),(.int .i64 b_1.2.1),(.int .i64 b_1.2.2.1),(.int .i64 b_1.2.2.2.1),(.int .i64 b_1.2.2.2.2.1),(.int .i64 b_1.2.2.2.2.2.1),(.int .u32 b_1.2.2.2.2.2.2.1),(.slice b_1.2.2.2.2.2.2.2.ptr b_1.2.2.2.2.2.2.2.len b_1.2.2.2.2.2.2.2.cap)])] h R:=aq ag Tryz.func61 .n hm
abbrev Cj:FuncId:=62
noncomputable def uw (at_0:FuncId×Array Value×Array Value) (slots_1:Sl) (m_2:Int×Int×Int×Int×Int×Int×Sl×Sl) (object_3:Int) (block_4:Int) (R:Value→Heap→Prop) (h:Heap):Prop:=
 aK Tryz.prog (Instr.box 42 (.agg #[(.int .i64 m_2.1),(.int .i64 m_2.2.1),(.int .i64 m_2.2.2.1),(.int .i64 m_2.2.2.2.1),(.int .i64 m_2.2.2.2.2.1),(.int .i64 m_2.2.2.2.2.2.1),(.slice m_2.2.2.2.2.2.2.1.ptr m_2.2.2.2.2.2.2.1.len m_2.2.2.2.2.2.2.1.cap),(.slice m_2.2.2.2.2.2.2.2.ptr m_2.2.2.2.2.2.2.2.len m_2.2.2.2.2.2.2.2.cap)])) h fun a1 h1=>
 aO (σ:=Sl×Int) (fun s2 K1 h2=>
 Br (decide (s2.2<((slots_1.len:Nat):Int)))
 (∃a3:Addr,(slots_1.ptr=some a3∧0≤s2.2∧s2.2<((slots_1.len:Nat):Int))∧
 ∃x4:Int,cellOf h2 (a3.add (s2.2.toNat*1))=some (.int .i64 x4)∧
 aZ (σ:=Sl×Int×Int) (fun s8 h5=>
 aO (σ:=Sl×Int) (fun s9 K3 h6=>
 Br (decide (s9.2<s8.2.1))
 (∃a10:Addr,(s8.1.ptr=some a10∧0≤s9.2∧s9.2<((s8.1.len:Nat):Int))∧
 ∃x11:Int×Int×Int×Int×Int×Int×Int×Sl,ai h6 (a10.add (s9.2.toNat*8)) 0 [(.int .i64 x11.1),(.int .i64 x11.2.1),(.int .i64 x11.2.2.1),(.int .i64 x11.2.2.2.1),(.int .i64 x11.2.2.2.2.1),(.int .i64 x11.2.2.2.2.2.1),(.int .u32 x11.2.2.2.2.2.2.1),(.slice x11.2.2.2.2.2.2.2.ptr x11.2.2.2.2.2.2.2.len x11.2.2.2.2.2.2.2.cap)]∧
 aK Tryz.prog (Instr.alloc 103 true (.tuple #[])) h6 fun a12 h7=>
 ae Tryz.prog (Instr.storeAt 103 (.pointer (some a12)) (.agg #[(.int .i64 x11.1),(.int .i64 x11.2.1),(.int .i64 x11.2.2.1),(.int .i64 x11.2.2.2.1),(.int .i64 x11.2.2.2.2.1),(.int .i64 x11.2.2.2.2.2.1),(.int .u32 x11.2.2.2.2.2.2.1),(.slice x11.2.2.2.2.2.2.2.ptr x11.2.2.2.2.2.2.2.len x11.2.2.2.2.2.2.2.cap)])) h7 fun _ h8=>
 ∃x13:Int,cellOf h8 a12=some (.int .i64 x13)∧
 Br (x13==object_3) (∃x14:Int,cellOf h8 (a12.add 1)=some (.int .i64 x14)∧
 Br (x14==block_4)
 (∃x15:Int,cellOf h8 (a12.add 2)=some (.int .i64 x15)∧
 ∃x16:Sl,cellOf h8 (a12.add 7)=some (.slice x16.ptr x16.len x16.cap)∧
 az Tryz.prog (Instr.buildSlice 111 1 #[(0,(.agg #[(.int .i64 x15),(.slice x16.ptr x16.len x16.cap)]))]) (.one (.sc .slc)) h8 fun v17 h9=>
 az Tryz.prog (Builtin.append_ #[111,111] 111 #[(.slice s9.1.ptr s9.1.len s9.1.cap),(.slice v17.ptr v17.len v17.cap)]) (.one (.sc .slc)) h9 fun v18 h10=>
 K3 ((⟨v18.ptr,v18.len,v18.cap⟩:Sl),IntKind.wrap .i64 (s9.2+(1:Int))) h10)
 (K3 ((⟨s9.1.ptr,s9.1.len,s9.1.cap⟩:Sl),IntKind.wrap .i64 (s9.2+(1:Int))) h8)) (K3 ((⟨s9.1.ptr,s9.1.len,s9.1.cap⟩:Sl),IntKind.wrap .i64 (s9.2+(1:Int))) h8))
 (K1 ((⟨s9.1.ptr,s9.1.len,s9.1.cap⟩:Sl),IntKind.wrap .i64 (s2.2+(1:Int))) h6)) ((⟨s2.1.ptr,s2.1.len,s2.1.cap⟩:Sl),s8.2.2) h5)
 (fun K2=>
 ∃x5:Int×Int×Int×Int×Int×Int×Sl×Sl,ai h2 a1 0 [(.int .i64 x5.1),(.int .i64 x5.2.1),(.int .i64 x5.2.2.1),(.int .i64 x5.2.2.2.1),(.int .i64 x5.2.2.2.2.1),(.int .i64 x5.2.2.2.2.2.1),(.slice x5.2.2.2.2.2.2.1.ptr x5.2.2.2.2.2.2.1.len x5.2.2.2.2.2.2.1.cap),(.slice x5.2.2.2.2.2.2.2.ptr x5.2.2.2.2.2.2.2.len x5.2.2.2.2.2.2.2.cap)]∧
 fI C at_0.1 (at_0.2.1.toList++[(.int .i64 x4)]++at_0.2.2.toList) (.one (.sc .ptr)) h2 fun r6 h3=>
 (ak.ok [(a1,(.int .i64 x5.1)),(a1.add 1,(.int .i64 x5.2.1)),(a1.add 2,(.int .i64 x5.2.2.1)),(a1.add 3,(.int .i64 x5.2.2.2.1)),(a1.add 4,(.int .i64 x5.2.2.2.2.1)),(a1.add 5,(.int .i64 x5.2.2.2.2.2.1)),(a1.add 6,(.slice x5.2.2.2.2.2.2.1.ptr x5.2.2.2.2.2.2.1.len x5.2.2.2.2.2.2.1.cap)),(a1.add 7,(.slice x5.2.2.2.2.2.2.2.ptr x5.2.2.2.2.2.2.2.len x5.2.2.2.2.2.2.2.cap))] h3)∧
 af Tryz.prog 18 #[(.pointer r6),(.agg #[(.int .i64 x5.1),(.int .i64 x5.2.1),(.int .i64 x5.2.2.1),(.int .i64 x5.2.2.2.1),(.int .i64 x5.2.2.2.2.1),(.int .i64 x5.2.2.2.2.2.1),(.slice x5.2.2.2.2.2.2.1.ptr x5.2.2.2.2.2.2.1.len x5.2.2.2.2.2.2.1.cap),(.slice x5.2.2.2.2.2.2.2.ptr x5.2.2.2.2.2.2.2.len x5.2.2.2.2.2.2.2.cap)])] (.one (.sc .slc)) h3 fun r7 h4=>
 (ak.ok [] h4)∧
 K2 ((⟨r7.ptr,r7.len,r7.cap⟩:Sl),((r7.len:Nat):Int),(0:Int)) h4))
 (R (.slice s2.1.ptr s2.1.len s2.1.cap) h2)) ((⟨none,0,0⟩:Sl),(0:Int)) h1
theorem Ap (at_0:FuncId×Array Value×Array Value) (slots_1:Sl) (m_2:Int×Int×Int×Int×Int×Int×Sl×Sl) (object_3:Int) (block_4:Int) {R:Value→Heap→Prop} {h:Heap} (hm:uw at_0 slots_1 m_2 object_3 block_4 R h):ab Tryz.prog 62 #[(.func (.func at_0.1) at_0.2.1 at_0.2.2),(.slice slots_1.ptr slots_1.len slots_1.cap),(.agg #[(.int .i64 m_2.1),(.int .i64 m_2.2.1),(.int .i64 m_2.2.2.1),(.int .i64 m_2.2.2.2.1),(.int .i64 m_2.2.2.2.2.1),(.int .i64 m_2.2.2.2.2.2.1),(.slice m_2.2.2.2.2.2.2.1.ptr m_2.2.2.2.2.2.2.1.len m_2.2.2.2.2.2.2.1.cap),(.slice m_2.2.2.2.2.2.2.2.ptr m_2.2.2.2.2.2.2.2.len m_2.2.2.2.2.2.2.2.cap)]),(.int .i64 object_3),(.int .i64 block_4)] h R:=aq ag Tryz.func62 (.two .n (.two .n (.two (.two .n (.inn (.loop [(11,(.sc .slc)),(18,(.sc (.int .i64)))] [(11,12),(13,14),(15,16),(18,52)] (.two .n (.two .n (.two (.inn (.two .n (.two (.join [(26,(.sc .slc)),(27,(.sc (.int .i64))),(28,(.sc (.int .i64)))] [(22,29)] .n) (.inn (.loop [(11,(.sc .slc)),(28,(.sc (.int .i64)))] [(11,12),(15,16),(28,51)] .n))))) .n)))))) .n))) hm
abbrev uY:FuncId:=63
noncomputable def nE (d_0:Option Addr) (R:Value→Heap→Prop) (h:Heap):Prop:=
 Br (!(Option.isNone d_0))
 (∃a1:Addr,(d_0=some a1)∧
 ae Tryz.prog (Instr.storeAt 4 (.pointer (some (a1.add 6))) (.bool true)) h fun _ h1=>
 ∃a2:Addr,(d_0=some a2)∧
 ae Tryz.prog (Instr.storeAt 65 (.pointer (some (a2.add 2))) (.slice none 0 0)) h1 fun _ h2=>
 ∃a3:Addr,(d_0=some a3)∧
 ae Tryz.prog (Instr.storeAt 3 (.pointer (some (a3.add 3))) (.int .i64 (0:Int))) h2 fun _ h3=>
 ∃a4:Addr,(d_0=some a4)∧
 ae Tryz.prog (Instr.storeAt 65 (.pointer (some (a4.add 4))) (.slice none 0 0)) h3 fun _ h4=>
 ∃a5:Addr,(d_0=some a5)∧
 ae Tryz.prog (Instr.storeAt 4 (.pointer (some (a5.add 5))) (.bool false)) h4 fun _ h5=>
 R (.tuple #[]) h5)
 (R (.tuple #[]) h)
theorem tu (d_0:Option Addr) {R:Value→Heap→Prop} {h:Heap} (hm:nE d_0 R h):ab Tryz.prog 63 #[(.pointer d_0)] h R:=aq ag Tryz.func63 .n hm
abbrev bI:FuncId:=64
noncomputable def pC (n_0:Int) (cap_1:Addr) (R:Value→Heap→Prop) (h:Heap):Prop:=
 ∃x1:Int,cellOf h cap_1=some (.int .i64 x1)∧
 R (.bool (n_0 !=x1)) h
theorem vU (n_0:Int) (cap_1:Addr) {R:Value→Heap→Prop} {h:Heap} (hm:pC n_0 cap_1 R h):ab Tryz.prog 64 #[(.int .i64 n_0),(.pointer (some cap_1))] h R:=aq ag Tryz.func64 .n hm
abbrev mK:FuncId:=65
noncomputable def iR (s_0:Sl) (del_1:FuncId×Array Value×Array Value) (R:Value→Heap→Prop) (h:Heap):Prop:=
 af Tryz.prog 115 #[(.slice s_0.ptr s_0.len s_0.cap),(.func (.func del_1.1) del_1.2.1 del_1.2.2)] (.one (.sc (.int .i64))) h fun r1 h1=>
 Br (r1==(-1:Int))
 (R (.slice s_0.ptr s_0.len s_0.cap) h1)
 (aO (σ:=Int×Int) (fun s2 K1 h2=>
 Br (decide (s2.2<((s_0.len:Nat):Int)))
 (∃a3:Addr,(s_0.ptr=some a3∧0≤s2.2∧s2.2<((s_0.len:Nat):Int))∧
 ∃x4:Int,cellOf h2 (a3.add (s2.2.toNat*1))=some (.int .i64 x4)∧
 fI C del_1.1 (del_1.2.1.toList++[(.int .i64 x4)]++del_1.2.2.toList) (.one (.sc .bool)) h2 fun r5 h3=>
 Br (!r5)
 (∃a6:Addr,(s_0.ptr=some a6∧0≤s2.1∧s2.1<((s_0.len:Nat):Int))∧
 ae Tryz.prog (Instr.storeAt 3 (.pointer (some (a6.add (s2.1.toNat*1)))) (.int .i64 x4)) h3 fun _ h4=>
 K1 (IntKind.wrap .i64 (s2.1+(1:Int)),IntKind.wrap .i64 (s2.2+(1:Int))) h4)
 (K1 (s2.1,IntKind.wrap .i64 (s2.2+(1:Int))) h3))
 ((0≤s2.1∧s2.1≤((s_0.len:Nat):Int))∧
 ae Tryz.prog (Builtin.clear_ #[22] 0 #[(.slice (if s_0.cap=s2.1.toNat then s_0.ptr else s_0.ptr.map (·.add (s2.1.toNat*1))) (s_0.len-s2.1.toNat) (s_0.cap-s2.1.toNat))]) h2 fun _ h5=>
 (0≤s2.1∧s2.1≤((s_0.cap:Nat):Int))∧
 R (.slice s_0.ptr s2.1.toNat s_0.cap) h5)) (r1,IntKind.wrap .i64 (r1+(1:Int))) h1)
theorem mh (s_0:Sl) (del_1:FuncId×Array Value×Array Value) {R:Value→Heap→Prop} {h:Heap} (hm:iR s_0 del_1 R h):ab Tryz.prog 65 #[(.slice s_0.ptr s_0.len s_0.cap),(.func (.func del_1.1) del_1.2.1 del_1.2.2)] h R:=aq ag Tryz.func65 (.two .n (.two .n (.two .n (.two (.two .n (.inn (.loop [(5,(.sc (.int .i64))),(6,(.sc (.int .i64)))] [(5,8),(16,36)] .n))) .n)))) hm
abbrev oq:FuncId:=66
noncomputable def pD (n_0:Int) (cap_1:Addr) (R:Value→Heap→Prop) (h:Heap):Prop:=
 ∃x1:FuncId×Array Value×Array Value,cellOf h cap_1=some (.func (.func x1.1) x1.2.1 x1.2.2)∧
 fI C x1.1 (x1.2.1.toList++[(.int .i64 n_0)]++x1.2.2.toList) (.one (.sc .bool)) h fun r2 h1=>
 R (.bool (!r2)) h1
theorem vV (n_0:Int) (cap_1:Addr) {R:Value→Heap→Prop} {h:Heap} (hm:pD n_0 cap_1 R h):ab Tryz.prog 66 #[(.int .i64 n_0),(.pointer (some cap_1))] h R:=aq ag Tryz.func66 .n hm
abbrev ot:FuncId:=67
noncomputable def pE (n_0:Int) (cap_1:Addr) (R:Value→Heap→Prop) (h:Heap):Prop:=
 ∃x1:FuncId×Array Value×Array Value,cellOf h cap_1=some (.func (.func x1.1) x1.2.1 x1.2.2)∧
 fI C x1.1 (x1.2.1.toList++[(.int .i64 n_0)]++x1.2.2.toList) (.one (.sc .bool)) h fun r2 h1=>
 R (.bool (!r2)) h1
theorem vW (n_0:Int) (cap_1:Addr) {R:Value→Heap→Prop} {h:Heap} (hm:pE n_0 cap_1 R h):ab Tryz.prog 67 #[(.int .i64 n_0),(.pointer (some cap_1))] h R:=aq ag Tryz.func67 .n hm
abbrev vX:FuncId:=68
noncomputable def ou (v_0:Option Addr) (slot_1:Int) (R:Value→Heap→Prop) (h:Heap):Prop:=
 aK Tryz.prog (Instr.box 116 (.pointer v_0)) h fun a1 h1=>
 ∃x2:Option Addr,cellOf h1 a1=some (.pointer x2)∧
 ∃a3:Addr,(x2=some a3)∧
 ∃x4:Sl,cellOf h1 (a3.add 17)=some (.slice x4.ptr x4.len x4.cap)∧
 af Tryz.prog 104 #[(.slice x4.ptr x4.len x4.cap),(.func (.func 116) #[] #[(.pointer (some a1))])] (.one (.sc .bool)) h1 fun r5 h2=>
 Br r5
 (R (.bool false) h2)
 (∃x6:Option Addr,cellOf h2 a1=some (.pointer x6)∧
 ∃a7:Addr,(x6=some a7)∧
 ∃x8:Option Addr,cellOf h2 a7=some (.pointer x8)∧
 af Tryz.prog 12 #[(.pointer x8),(.int .i64 slot_1)] (.one (.sc .ptr)) h2 fun r9 h3=>
 aZ (σ:=Option Addr) (fun s11 h5=>
 ∃x12:Option Addr,cellOf h5 a1=some (.pointer x12)∧
 af Tryz.prog 118 #[(.pointer x12),(.pointer s11)] (.one (.sc .slc)) h5 fun r13 h6=>
 aO (σ:=Int) (fun s14 K2 h7=>
 Br (decide (s14<((r13.len:Nat):Int)))
 (∃a15:Addr,(r13.ptr=some a15∧0≤s14∧s14<((r13.len:Nat):Int))∧
 ∃x16:Int×Int×Int×Int×Int×Int×Int×Sl,ai h7 (a15.add (s14.toNat*8)) 0 [(.int .i64 x16.1),(.int .i64 x16.2.1),(.int .i64 x16.2.2.1),(.int .i64 x16.2.2.2.1),(.int .i64 x16.2.2.2.2.1),(.int .i64 x16.2.2.2.2.2.1),(.int .u32 x16.2.2.2.2.2.2.1),(.slice x16.2.2.2.2.2.2.2.ptr x16.2.2.2.2.2.2.2.len x16.2.2.2.2.2.2.2.cap)]∧
 aK Tryz.prog (Instr.alloc 103 true (.tuple #[])) h7 fun a17 h8=>
 ae Tryz.prog (Instr.storeAt 103 (.pointer (some a17)) (.agg #[(.int .i64 x16.1),(.int .i64 x16.2.1),(.int .i64 x16.2.2.1),(.int .i64 x16.2.2.2.1),(.int .i64 x16.2.2.2.2.1),(.int .i64 x16.2.2.2.2.2.1),(.int .u32 x16.2.2.2.2.2.2.1),(.slice x16.2.2.2.2.2.2.2.ptr x16.2.2.2.2.2.2.2.len x16.2.2.2.2.2.2.2.cap)])) h8 fun _ h9=>
 ∃x18:Option Addr,cellOf h9 a1=some (.pointer x18)∧
 ∃x19:Int×Int×Int×Int×Int×Int×Int×Sl,ai h9 a17 0 [(.int .i64 x19.1),(.int .i64 x19.2.1),(.int .i64 x19.2.2.1),(.int .i64 x19.2.2.2.1),(.int .i64 x19.2.2.2.2.1),(.int .i64 x19.2.2.2.2.2.1),(.int .u32 x19.2.2.2.2.2.2.1),(.slice x19.2.2.2.2.2.2.2.ptr x19.2.2.2.2.2.2.2.len x19.2.2.2.2.2.2.2.cap)]∧
 af Tryz.prog 119 #[(.pointer x18),(.agg #[(.int .i64 x19.1),(.int .i64 x19.2.1),(.int .i64 x19.2.2.1),(.int .i64 x19.2.2.2.1),(.int .i64 x19.2.2.2.2.1),(.int .i64 x19.2.2.2.2.2.1),(.int .u32 x19.2.2.2.2.2.2.1),(.slice x19.2.2.2.2.2.2.2.ptr x19.2.2.2.2.2.2.2.len x19.2.2.2.2.2.2.2.cap)])] (.one (.sc .bool)) h9 fun r20 h10=>
 Br (!r20)
 (R (.bool false) h10)
 (K2 (IntKind.wrap .i64 (s14+(1:Int))) h10))
 (R (.bool true) h7)) (0:Int) h6)
 (fun K1=>
 af Tryz.prog 80 #[(.pointer r9)] (.one (.sc .bool)) h3 fun r10 h4=>
 Br r10
 (K1 none h4)
 (K1 r9 h4)))
theorem uZ (v_0:Option Addr) (slot_1:Int) {R:Value→Heap→Prop} {h:Heap} (hm:ou v_0 slot_1 R h):ab Tryz.prog 68 #[(.pointer v_0),(.int .i64 slot_1)] h R:=aq ag Tryz.func68 (.two .n (.two .n (.two .n (.two (.join [(5,(.sc .ptr))] [(5,6),(20,22)] .n) (.two (.two .n (.inn (.loop [(26,(.sc (.int .i64)))] [(4,5),(7,8),(26,35)] .n))) .n))))) hm
abbrev pF:FuncId:=69
noncomputable def ri (d_0:Option Addr) (m_1:Int×Int×Int×Int×Int×Int×Sl×Sl) (n_2:Int) (R:Value→Heap→Prop) (h:Heap):Prop:=
 aK Tryz.prog (Instr.box 42 (.agg #[(.int .i64 m_1.1),(.int .i64 m_1.2.1),(.int .i64 m_1.2.2.1),(.int .i64 m_1.2.2.2.1),(.int .i64 m_1.2.2.2.2.1),(.int .i64 m_1.2.2.2.2.2.1),(.slice m_1.2.2.2.2.2.2.1.ptr m_1.2.2.2.2.2.2.1.len m_1.2.2.2.2.2.2.1.cap),(.slice m_1.2.2.2.2.2.2.2.ptr m_1.2.2.2.2.2.2.2.len m_1.2.2.2.2.2.2.2.cap)])) h fun a1 h1=>
 aZ (σ:=Unit) (fun _ h7=>
 ∃x9:Int×Int×Int×Int×Int×Int×Sl×Sl,ai h7 a1 0 [(.int .i64 x9.1),(.int .i64 x9.2.1),(.int .i64 x9.2.2.1),(.int .i64 x9.2.2.2.1),(.int .i64 x9.2.2.2.2.1),(.int .i64 x9.2.2.2.2.2.1),(.slice x9.2.2.2.2.2.2.1.ptr x9.2.2.2.2.2.2.1.len x9.2.2.2.2.2.2.1.cap),(.slice x9.2.2.2.2.2.2.2.ptr x9.2.2.2.2.2.2.2.len x9.2.2.2.2.2.2.2.cap)]∧
 af Tryz.prog 123 #[(.pointer d_0),(.agg #[(.int .i64 x9.1),(.int .i64 x9.2.1),(.int .i64 x9.2.2.1),(.int .i64 x9.2.2.2.1),(.int .i64 x9.2.2.2.2.1),(.int .i64 x9.2.2.2.2.2.1),(.slice x9.2.2.2.2.2.2.1.ptr x9.2.2.2.2.2.2.1.len x9.2.2.2.2.2.2.1.cap),(.slice x9.2.2.2.2.2.2.2.ptr x9.2.2.2.2.2.2.2.len x9.2.2.2.2.2.2.2.cap)])] (.one (.sc .slc)) h7 fun r10 h8=>
 af Tryz.prog 122 #[(.pointer d_0),(.slice r10.ptr r10.len r10.cap)] (.one (.sc (.int .i64))) h8 fun r11 h9=>
 R (.int .i64 r11) h9)
 (fun K1=>
 aZ (σ:=Bool) (fun s3 h3=>
 Br s3
 (R (.int .i64 (5:Int)) h3)
 (∃x4:Int×Int×Int×Int×Int×Int×Sl×Sl,ai h3 a1 0 [(.int .i64 x4.1),(.int .i64 x4.2.1),(.int .i64 x4.2.2.1),(.int .i64 x4.2.2.2.1),(.int .i64 x4.2.2.2.2.1),(.int .i64 x4.2.2.2.2.2.1),(.slice x4.2.2.2.2.2.2.1.ptr x4.2.2.2.2.2.2.1.len x4.2.2.2.2.2.2.1.cap),(.slice x4.2.2.2.2.2.2.2.ptr x4.2.2.2.2.2.2.2.len x4.2.2.2.2.2.2.2.cap)]∧
 af Tryz.prog 106 #[(.pointer d_0),(.agg #[(.int .i64 x4.1),(.int .i64 x4.2.1),(.int .i64 x4.2.2.1),(.int .i64 x4.2.2.2.1),(.int .i64 x4.2.2.2.2.1),(.int .i64 x4.2.2.2.2.2.1),(.slice x4.2.2.2.2.2.2.1.ptr x4.2.2.2.2.2.2.1.len x4.2.2.2.2.2.2.1.cap),(.slice x4.2.2.2.2.2.2.2.ptr x4.2.2.2.2.2.2.2.len x4.2.2.2.2.2.2.2.cap)]),(.int .i64 n_2)] (.one (.sc .bool)) h3 fun r5 h4=>
 Br (!r5)
 (R (.int .i64 (7:Int)) h4)
 (af Tryz.prog 121 #[(.pointer d_0)] (.one (.sc (.int .i64))) h4 fun r6 h5=>
 af Tryz.prog 120 #[(.pointer d_0),(.int .i64 r6),(.int .i64 n_2)] (.one (.sc .bool)) h5 fun r7 h6=>
 Br r7
 (R (.int .i64 (0:Int)) h6)
 (K1 () h6))))
 (fun K2=>
 Br (Option.isNone d_0) (K2 true h1) (af Tryz.prog 80 #[(.pointer d_0)] (.one (.sc .bool)) h1 fun r2 h2=>
 K2 r2 h2)))
theorem ux (d_0:Option Addr) (m_1:Int×Int×Int×Int×Int×Int×Sl×Sl) (n_2:Int) {R:Value→Heap→Prop} {h:Heap} (hm:ri d_0 m_1 n_2 R h):ab Tryz.prog 69 #[(.pointer d_0),(.agg #[(.int .i64 m_1.1),(.int .i64 m_1.2.1),(.int .i64 m_1.2.2.1),(.int .i64 m_1.2.2.2.1),(.int .i64 m_1.2.2.2.2.1),(.int .i64 m_1.2.2.2.2.2.1),(.slice m_1.2.2.2.2.2.2.1.ptr m_1.2.2.2.2.2.2.1.len m_1.2.2.2.2.2.2.1.cap),(.slice m_1.2.2.2.2.2.2.2.ptr m_1.2.2.2.2.2.2.2.len m_1.2.2.2.2.2.2.2.cap)]),(.int .i64 n_2)] h R:=aq ag Tryz.func69 (.two .n (.two (.join [] [(6,26)] (.inn (.two (.join [(7,(.sc .bool))] [(7,14)] .n) .n))) .n)) hm
abbrev Fp:FuncId:=70
noncomputable def ye (m_0:Int×Int×Int×Int×Int×Int×Sl×Sl) (R:Value→Heap→Prop) (h:Heap):Prop:=
 aK Tryz.prog (Instr.box 42 (.agg #[(.int .i64 m_0.1),(.int .i64 m_0.2.1),(.int .i64 m_0.2.2.1),(.int .i64 m_0.2.2.2.1),(.int .i64 m_0.2.2.2.2.1),(.int .i64 m_0.2.2.2.2.2.1),(.slice m_0.2.2.2.2.2.2.1.ptr m_0.2.2.2.2.2.2.1.len m_0.2.2.2.2.2.2.1.cap),(.slice m_0.2.2.2.2.2.2.2.ptr m_0.2.2.2.2.2.2.2.len m_0.2.2.2.2.2.2.2.cap)])) h fun a1 h1=>
 ∃x2:Int×Int×Int×Int×Int×Int×Sl×Sl,ai h1 a1 0 [(.int .i64 x2.1),(.int .i64 x2.2.1),(.int .i64 x2.2.2.1),(.int .i64 x2.2.2.2.1),(.int .i64 x2.2.2.2.2.1),(.int .i64 x2.2.2.2.2.2.1),(.slice x2.2.2.2.2.2.2.1.ptr x2.2.2.2.2.2.2.1.len x2.2.2.2.2.2.2.1.cap),(.slice x2.2.2.2.2.2.2.2.ptr x2.2.2.2.2.2.2.2.len x2.2.2.2.2.2.2.2.cap)]∧
 af Tryz.prog 42 #[(.agg #[(.int .i64 x2.1),(.int .i64 x2.2.1),(.int .i64 x2.2.2.1),(.int .i64 x2.2.2.2.1),(.int .i64 x2.2.2.2.2.1),(.int .i64 x2.2.2.2.2.2.1),(.slice x2.2.2.2.2.2.2.1.ptr x2.2.2.2.2.2.2.1.len x2.2.2.2.2.2.2.1.cap),(.slice x2.2.2.2.2.2.2.2.ptr x2.2.2.2.2.2.2.2.len x2.2.2.2.2.2.2.2.cap)])] (.one (.sc .bool)) h1 fun r3 h2=>
 Br (!r3)
 (R (.slice none 0 0) h2)
 (aZ (σ:=Sl) (fun s8 h5=>
 ∃x9:Int,cellOf h5 (a1.add 2)=some (.int .i64 x9)∧
 ∃x10:Int,cellOf h5 ((a1.add 2).add 1)=some (.int .i64 x10)∧
 ∃x11:Int,cellOf h5 ((a1.add 2).add 2)=some (.int .i64 x11)∧
 ∃x12:Int,cellOf h5 (a1.add 5)=some (.int .i64 x12)∧
 ∃x13:Sl,cellOf h5 (a1.add 6)=some (.slice x13.ptr x13.len x13.cap)∧
 az Tryz.prog (Instr.buildSlice 46 5 #[(0,(.int .u8 (IntKind.wrap .u8 x9))),(1,(.int .u8 (IntKind.wrap .u8 x10))),(2,(.int .u8 (IntKind.wrap .u8 x11))),(3,(.int .u8 (IntKind.wrap .u8 x12))),(4,(.int .u8 (IntKind.wrap .u8 ((x13.len:Nat):Int))))]) (.one (.sc .slc)) h5 fun v14 h6=>
 az Tryz.prog (Builtin.append_ #[46,46] 46 #[(.slice s8.ptr s8.len s8.cap),(.slice v14.ptr v14.len v14.cap)]) (.one (.sc .slc)) h6 fun v15 h7=>
 ∃x16:Sl,cellOf h7 (a1.add 6)=some (.slice x16.ptr x16.len x16.cap)∧
 aO (σ:=Sl×Int) (fun s17 K2 h8=>
 Br (decide (s17.2<((x16.len:Nat):Int)))
 (∃a18:Addr,(x16.ptr=some a18∧0≤s17.2∧s17.2<((x16.len:Nat):Int))∧
 ∃x19:Int,cellOf h8 (a18.add (s17.2.toNat*1))=some (.int .i64 x19)∧
 az Tryz.prog (Instr.buildSlice 46 1 #[(0,(.int .u8 (IntKind.wrap .u8 x19)))]) (.one (.sc .slc)) h8 fun v20 h9=>
 az Tryz.prog (Builtin.append_ #[46,46] 46 #[(.slice s17.1.ptr s17.1.len s17.1.cap),(.slice v20.ptr v20.len v20.cap)]) (.one (.sc .slc)) h9 fun v21 h10=>
 K2 ((⟨v21.ptr,v21.len,v21.cap⟩:Sl),IntKind.wrap .i64 (s17.2+(1:Int))) h10)
 (∃x22:Sl,cellOf h8 (a1.add 7)=some (.slice x22.ptr x22.len x22.cap)∧
 az Tryz.prog (Instr.buildSlice 46 1 #[(0,(.int .u8 (IntKind.wrap .u8 ((x22.len:Nat):Int))))]) (.one (.sc .slc)) h8 fun v23 h11=>
 az Tryz.prog (Builtin.append_ #[46,46] 46 #[(.slice s17.1.ptr s17.1.len s17.1.cap),(.slice v23.ptr v23.len v23.cap)]) (.one (.sc .slc)) h11 fun v24 h12=>
 ∃x25:Sl,cellOf h12 (a1.add 7)=some (.slice x25.ptr x25.len x25.cap)∧
 aO (σ:=Sl×Int) (fun s26 K3 h13=>
 Br (decide (s26.2<((x25.len:Nat):Int)))
 (∃a27:Addr,(x25.ptr=some a27∧0≤s26.2∧s26.2<((x25.len:Nat):Int))∧
 ∃x28:ByteArray×Int×Int×Sl,ai h13 (a27.add (s26.2.toNat*4)) 0 [(.string x28.1),(.int .i64 x28.2.1),(.int .i64 x28.2.2.1),(.slice x28.2.2.2.ptr x28.2.2.2.len x28.2.2.2.cap)]∧
 aK Tryz.prog (Instr.alloc 89 true (.tuple #[])) h13 fun a29 h14=>
 ae Tryz.prog (Instr.storeAt 89 (.pointer (some a29)) (.agg #[(.string x28.1),(.int .i64 x28.2.1),(.int .i64 x28.2.2.1),(.slice x28.2.2.2.ptr x28.2.2.2.len x28.2.2.2.cap)])) h14 fun _ h15=>
 aZ (σ:=Sl) (fun s35 h19=>
 aZ (σ:=Sl) (fun s40 h22=>
 ∃x41:Sl,cellOf h22 (a29.add 3)=some (.slice x41.ptr x41.len x41.cap)∧
 aO (σ:=Sl×Int) (fun s42 K6 h23=>
 Br (decide (s42.2<((x41.len:Nat):Int)))
 (∃a43:Addr,(x41.ptr=some a43∧0≤s42.2∧s42.2<((x41.len:Nat):Int))∧
 ∃x44:Int,cellOf h23 (a43.add (s42.2.toNat*1))=some (.int .i64 x44)∧
 az Tryz.prog (Instr.buildSlice 46 1 #[(0,(.int .u8 (IntKind.wrap .u8 x44)))]) (.one (.sc .slc)) h23 fun v45 h24=>
 az Tryz.prog (Builtin.append_ #[46,46] 46 #[(.slice s42.1.ptr s42.1.len s42.1.cap),(.slice v45.ptr v45.len v45.cap)]) (.one (.sc .slc)) h24 fun v46 h25=>
 K6 ((⟨v46.ptr,v46.len,v46.cap⟩:Sl),IntKind.wrap .i64 (s42.2+(1:Int))) h25)
 (K3 ((⟨s42.1.ptr,s42.1.len,s42.1.cap⟩:Sl),IntKind.wrap .i64 (s26.2+(1:Int))) h23)) ((⟨s40.ptr,s40.len,s40.cap⟩:Sl),(0:Int)) h22)
 (fun K5=>
 ∃x36:Int,cellOf h19 (a29.add 1)=some (.int .i64 x36)∧
 ∃x37:Int,cellOf h19 (a29.add 2)=some (.int .i64 x37)∧
 af Tryz.prog 124 #[(.slice s35.ptr s35.len s35.cap),(.int .i64 x36),(.int .i64 (3:Int))] (.one (.sc .slc)) h19 fun r38 h20=>
 (ak.ok [(a29.add 2,(.int .i64 x37))] h20)∧
 af Tryz.prog 124 #[(.slice r38.ptr r38.len r38.cap),(.int .i64 x37),(.int .i64 (2:Int))] (.one (.sc .slc)) h20 fun r39 h21=>
 (ak.ok [] h21)∧
 K5 (⟨r39.ptr,r39.len,r39.cap⟩:Sl) h21))
 (fun K4=>
 ∃x30:ByteArray,cellOf h15 a29=some (.string x30)∧
 ∃x31:ByteArray,cellOf h15 a29=some (.string x31)∧
 az Tryz.prog (Instr.buildSlice 46 1 #[(0,(.int .u8 (IntKind.wrap .u8 ((x30.size:Nat):Int))))]) (.one (.sc .slc)) h15 fun v32 h16=>
 (ak.ok [(a29,(.string x31)),(a29,(.string x30))] h16)∧
 az Tryz.prog (Builtin.append_ #[46,46] 46 #[(.slice s26.1.ptr s26.1.len s26.1.cap),(.slice v32.ptr v32.len v32.cap)]) (.one (.sc .slc)) h16 fun v33 h17=>
 (ak.ok [(a29,(.string x31)),(a29,(.string x30))] h17)∧
 az Tryz.prog (Builtin.append_ #[46,9] 46 #[(.slice v33.ptr v33.len v33.cap),(.string x31)]) (.one (.sc .slc)) h17 fun v34 h18=>
 (ak.ok [(a29,(.string x30))] h18)∧
 K4 (⟨v34.ptr,v34.len,v34.cap⟩:Sl) h18))
 (R (.slice s26.1.ptr s26.1.len s26.1.cap) h13)) ((⟨v24.ptr,v24.len,v24.cap⟩:Sl),(0:Int)) h12)) ((⟨v15.ptr,v15.len,v15.cap⟩:Sl),(0:Int)) h7)
 (fun K1=>
 ∃x4:Int,cellOf h2 a1=some (.int .i64 x4)∧
 ∃x5:Int,cellOf h2 (a1.add 1)=some (.int .i64 x5)∧
 af Tryz.prog 124 #[(.slice none 0 0),(.int .i64 x4),(.int .i64 (4:Int))] (.one (.sc .slc)) h2 fun r6 h3=>
 (ak.ok [(a1.add 1,(.int .i64 x5))] h3)∧
 af Tryz.prog 124 #[(.slice r6.ptr r6.len r6.cap),(.int .i64 x5),(.int .i64 (4:Int))] (.one (.sc .slc)) h3 fun r7 h4=>
 (ak.ok [] h4)∧
 K1 (⟨r7.ptr,r7.len,r7.cap⟩:Sl) h4))
theorem DQ (m_0:Int×Int×Int×Int×Int×Int×Sl×Sl) {R:Value→Heap→Prop} {h:Heap} (hm:ye m_0 R h):ab Tryz.prog 70 #[(.agg #[(.int .i64 m_0.1),(.int .i64 m_0.2.1),(.int .i64 m_0.2.2.1),(.int .i64 m_0.2.2.2.1),(.int .i64 m_0.2.2.2.2.1),(.int .i64 m_0.2.2.2.2.2.1),(.slice m_0.2.2.2.2.2.2.1.ptr m_0.2.2.2.2.2.2.1.len m_0.2.2.2.2.2.2.1.cap),(.slice m_0.2.2.2.2.2.2.2.ptr m_0.2.2.2.2.2.2.2.len m_0.2.2.2.2.2.2.2.cap)])] h R:=aq ag Tryz.func70 (.two .n (.two .n (.two (.join [(3,(.sc .slc))] [(3,4),(13,19)] .n) (.two .n (.two (.two .n (.inn (.loop [(3,(.sc .slc)),(44,(.sc (.int .i64)))] [(3,4),(5,6),(44,54)] .n))) (.two .n (.two (.two .n (.inn (.loop [(3,(.sc .slc)),(64,(.sc (.int .i64)))] [(3,4),(7,8),(9,10),(64,99)] (.two .n (.two .n (.two (.inn (.two .n (.two (.join [(3,(.sc .slc))] [(3,4),(68,78)] .n) (.two (.join [(3,(.sc .slc))] [(3,4),(78,85)] .n) (.two .n (.inn (.loop [(3,(.sc .slc)),(88,(.sc (.int .i64)))] [(3,4),(9,10),(88,98)] .n))))))) .n)))))) .n))))))) hm
abbrev Hd:FuncId:=71
noncomputable def Aq (seq_0:Int) (number_1:Int) (many_2:Int) (b_3:Sl) (R:Value→Heap→Prop) (h:Heap):Prop:=
 (0≤(24:Int))∧
 (0≤(16:Int))∧
 (0≤(8:Int))∧
 az Tryz.prog (Instr.buildSlice 46 7 #[(0,(.int .u8 (IntKind.wrap .u8 (Int.fdiv seq_0 (2^min (24:Int).toNat (IntKind.bits .i64)))))),(1,(.int .u8 (IntKind.wrap .u8 (Int.fdiv seq_0 (2^min (16:Int).toNat (IntKind.bits .i64)))))),(2,(.int .u8 (IntKind.wrap .u8 (Int.fdiv seq_0 (2^min (8:Int).toNat (IntKind.bits .i64)))))),(3,(.int .u8 (IntKind.wrap .u8 seq_0))),(4,(.int .u8 (IntKind.wrap .u8 number_1))),(5,(.int .u8 (IntKind.wrap .u8 many_2))),(6,(.int .u8 (IntKind.wrap .u8 ((b_3.len:Nat):Int))))]) (.one (.sc .slc)) h fun v1 h1=>
 az Tryz.prog (Builtin.append_ #[46,46] 46 #[(.slice v1.ptr v1.len v1.cap),(.slice b_3.ptr b_3.len b_3.cap)]) (.one (.sc .slc)) h1 fun v2 h2=>
 af Tryz.prog 125 #[(.int .i64 (2:Int)),(.slice v2.ptr v2.len v2.cap)] (.one (.sc .slc)) h2 fun r3 h3=>
 R (.slice r3.ptr r3.len r3.cap) h3
theorem Fq (seq_0:Int) (number_1:Int) (many_2:Int) (b_3:Sl) {R:Value→Heap→Prop} {h:Heap} (hm:Aq seq_0 number_1 many_2 b_3 R h):ab Tryz.prog 71 #[(.int .i64 seq_0),(.int .i64 number_1),(.int .i64 many_2),(.slice b_3.ptr b_3.len b_3.cap)] h R:=aq ag Tryz.func71 .n hm
abbrev kY:FuncId:=72
noncomputable def iV (d_0:Option Addr) (b_1:Sl) (R:Value→Heap→Prop) (h:Heap):Prop:=
 aZ (σ:=Unit) (fun _ h3=>
 aZ (σ:=Unit) (fun _ h8=>
 ∃a19:Addr,(d_0=some a19)∧
 ∃x20:Int,cellOf h8 (a19.add 3)=some (.int .i64 x20)∧
 ∃a21:Addr,(d_0=some a21)∧
 ae Tryz.prog (Instr.storeAt 3 (.pointer (some (a21.add 3))) (.int .i64 (IntKind.wrap .i64 (x20+(1:Int))))) h8 fun _ h9=>
 ∃a22:Addr,(d_0=some a22)∧
 ∃x23:Option Addr,cellOf h9 a22=some (.pointer x23)∧
 af Tryz.prog 127 #[(.pointer x23)] (.one (.sc .bool)) h9 fun r24 h10=>
 Br (!r24)
 (R (.int .i64 (14:Int)) h10)
 (af Tryz.prog 128 #[(.pointer d_0)] (.one (.sc (.int .i64))) h10 fun r25 h11=>
 R (.int .i64 r25) h11))
 (fun K3=>
 ∃a12:Addr,(d_0=some a12)∧
 ∃x13:Sl,cellOf h3 (a12.add 2)=some (.slice x13.ptr x13.len x13.cap)∧
 af Tryz.prog 109 #[(.slice b_1.ptr b_1.len b_1.cap)] (.one (.sc .slc)) h3 fun r14 h4=>
 (ak.ok [(a12.add 2,(.slice x13.ptr x13.len x13.cap))] h4)∧
 az Tryz.prog (Instr.buildSlice 65 1 #[(0,(.slice r14.ptr r14.len r14.cap))]) (.one (.sc .slc)) h4 fun v15 h5=>
 (ak.ok [(a12.add 2,(.slice x13.ptr x13.len x13.cap))] h5)∧
 az Tryz.prog (Builtin.append_ #[65,65] 65 #[(.slice x13.ptr x13.len x13.cap),(.slice v15.ptr v15.len v15.cap)]) (.one (.sc .slc)) h5 fun v16 h6=>
 (ak.ok [] h6)∧
 ∃a17:Addr,(d_0=some a17)∧
 ae Tryz.prog (Instr.storeAt 65 (.pointer (some (a17.add 2))) (.slice v16.ptr v16.len v16.cap)) h6 fun _ h7=>
 (ak.ok [] h7)∧
 K3 () h7))
 (fun K1=>
 Br (((b_1.len:Nat):Int) !=(64:Int))
 (R (.int .i64 (1:Int)) h)
 (aZ (σ:=Bool) (fun s3 h1=>
 Br s3
 (R (.int .i64 (5:Int)) h1)
 (∃a4:Addr,(d_0=some a4)∧
 ∃x5:Sl,cellOf h1 (a4.add 2)=some (.slice x5.ptr x5.len x5.cap)∧
 ∃a6:Addr,(d_0=some a6)∧
 ∃x7:Int,cellOf h1 (a6.add 1)=some (.int .i64 x7)∧
 Br (decide (((x5.len:Nat):Int)≥x7))
 (R (.int .i64 (7:Int)) h1)
 (∃a8:Addr,(d_0=some a8)∧
 ∃x9:Option Addr,cellOf h1 a8=some (.pointer x9)∧
 af Tryz.prog 126 #[(.pointer x9)] (.one (.sc .bool)) h1 fun r10 h2=>
 Br (!r10)
 (R (.int .i64 (14:Int)) h2)
 (K1 () h2))))
 (fun K2=>
 Br (Option.isNone d_0) (K2 true h) (∃a1:Addr,(d_0=some a1)∧
 ∃x2:Bool,cellOf h (a1.add 6)=some (.bool x2)∧
 K2 x2 h))))
theorem kD (d_0:Option Addr) (b_1:Sl) {R:Value→Heap→Prop} {h:Heap} (hm:iV d_0 b_1 R h):ab Tryz.prog 72 #[(.pointer d_0),(.slice b_1.ptr b_1.len b_1.cap)] h R:=aq ag Tryz.func72 (.two .n (.two (.join [] [(4,36)] (.inn (.two .n (.two .n (.two (.join [(9,(.sc .bool))] [(9,18)] .n) .n))))) (.two (.join [] [(36,47)] .n) .n))) hm
abbrev He:FuncId:=73
noncomputable def Ar (at_0:FuncId×Array Value×Array Value) (slots_1:Sl) (R:Value→Heap→Prop) (h:Heap):Prop:=
 af Tryz.prog 81 #[(.slice slots_1.ptr slots_1.len slots_1.cap)] (.one (.sc .slc)) h fun r1 h1=>
 af Tryz.prog 38 #[(.slice r1.ptr r1.len r1.cap)] (.many []) h1 fun _ h2=>
 af Tryz.prog 129 #[(.slice r1.ptr r1.len r1.cap)] (.one (.sc .slc)) h2 fun r3 h3=>
 aO (σ:=Int) (fun s4 K1 h4=>
 Br (decide (s4<((r3.len:Nat):Int)))
 (∃a5:Addr,(r3.ptr=some a5∧0≤s4∧s4<((r3.len:Nat):Int))∧
 ∃x6:Int,cellOf h4 (a5.add (s4.toNat*1))=some (.int .i64 x6)∧
 fI C at_0.1 (at_0.2.1.toList++[(.int .i64 x6)]++at_0.2.2.toList) (.one (.sc .ptr)) h4 fun r7 h5=>
 af Tryz.prog 130 #[(.pointer r7)] (.one (.sc (.int .i64))) h5 fun r8 h6=>
 Br (r8 !=(0:Int))
 (R (.int .i64 r8) h6)
 (K1 (IntKind.wrap .i64 (s4+(1:Int))) h6))
 (R (.int .i64 (0:Int)) h4)) (0:Int) h3
theorem Fs (at_0:FuncId×Array Value×Array Value) (slots_1:Sl) {R:Value→Heap→Prop} {h:Heap} (hm:Ar at_0 slots_1 R h):ab Tryz.prog 73 #[(.func (.func at_0.1) at_0.2.1 at_0.2.2),(.slice slots_1.ptr slots_1.len slots_1.cap)] h R:=aq ag Tryz.func73 (.two .n (.two .n (.two .n (.two (.two .n (.inn (.loop [(15,(.sc (.int .i64)))] [(4,5),(6,8),(15,27)] .n))) .n)))) hm
end Go.Proofs.YtkciobclldnoiaaGreat
