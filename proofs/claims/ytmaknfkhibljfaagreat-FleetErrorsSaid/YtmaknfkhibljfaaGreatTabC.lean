/- Part of the proofs that wellspringlaw30's laws answer true whatever the input reads, and leave it as it was; no condition. -/
import Derived.Test.YtmaknfkhibljfaaGreatTabA
set_option linter.unusedVariables false
set_option linter.unusedSimpArgs false
namespace Go.Proofs.YtmaknfkhibljfaaGreat
open Go Go.Vc Go.Proofs
set_option maxRecDepth 1000000
abbrev mani_entry_id : FuncId := 94
noncomputable def mani_entry_m (m_0 : Int × Int × Int × Int × Int × Int × Sl × Sl) (x_1 : ByteArray × Int × Int × Sl) (R : Value → Heap → Prop) (h : Heap) : Prop :=
  RunsA Tryz.prog (Instr.box 40 (.agg #[(.int .i64 m_0.1), (.int .i64 m_0.2.1), (.int .i64 m_0.2.2.1), (.int .i64 m_0.2.2.2.1), (.int .i64 m_0.2.2.2.2.1), (.int .i64 m_0.2.2.2.2.2.1), (.slice m_0.2.2.2.2.2.2.1.ptr m_0.2.2.2.2.2.2.1.len m_0.2.2.2.2.2.2.1.cap), (.slice m_0.2.2.2.2.2.2.2.ptr m_0.2.2.2.2.2.2.2.len m_0.2.2.2.2.2.2.2.cap)])) h fun a1 h1 =>
  RunsA Tryz.prog (Instr.box 133 (.agg #[(.string x_1.1), (.int .i64 x_1.2.1), (.int .i64 x_1.2.2.1), (.slice x_1.2.2.2.ptr x_1.2.2.2.len x_1.2.2.2.cap)])) h1 fun a2 h2 =>
  JoinM (σ := Unit) (fun _ h6 =>
  ∃ x13 : Sl, cellOf h6 (a2.add 3) = some (.slice x13.ptr x13.len x13.cap) ∧
  CallM Tryz.prog 76 #[(.slice x13.ptr x13.len x13.cap), (.func (.func 132) #[] #[])] (.one (.sc .bool)) h6 fun r14 h7 =>
  Br (!r14) (∃ x15 : Sl, cellOf h7 (a2.add 3) = some (.slice x15.ptr x15.len x15.cap) ∧
  ∃ x16 : Int × Int × Int, cellsAt h7 (a1.add 2) 0 [(.int .i64 x16.1), (.int .i64 x16.2.1), (.int .i64 x16.2.2)] ∧
  ∃ x17 : Int, cellOf h7 (a2.add 2) = some (.int .i64 x17) ∧
  CallM Tryz.prog 133 #[(.agg #[(.int .i64 x16.1), (.int .i64 x16.2.1), (.int .i64 x16.2.2)]), (.int .i64 x17)] (.one (.sc (.int .i64))) h7 fun r18 h8 =>
  (Held.ok [(a2.add 3, (.slice x15.ptr x15.len x15.cap))] h8) ∧
  R (.bool (((x15.len : Nat) : Int) == r18)) h8) ((Held.ok [] h7) ∧
  R (.bool false) h7))
  (fun K1 =>
  ∃ x3 : ByteArray, cellOf h2 a2 = some (.string x3) ∧
  CallM Tryz.prog 131 #[(.string x3)] (.one (.sc .bool)) h2 fun r4 h3 =>
  Br (!r4) (R (.bool false) h3) (∃ x5 : Int, cellOf h3 (a2.add 1) = some (.int .i64 x5) ∧
  ∃ x6 : Int, cellOf h3 (a1.add 1) = some (.int .i64 x6) ∧
  CallM Tryz.prog 92 #[(.int .i64 x5), (.int .i64 (0 : Int)), (.int .i64 (IntKind.wrap .i64 (x6 - (1 : Int))))] (.one (.sc .bool)) h3 fun r7 h4 =>
  Br (!r7) (R (.bool false) h4) (∃ x8 : Int, cellOf h4 (a2.add 2) = some (.int .i64 x8) ∧
  ∃ x9 : Int, cellOf h4 (a1.add 2) = some (.int .i64 x9) ∧
  ∃ x10 : Int, cellOf h4 ((a1.add 2).add 2) = some (.int .i64 x10) ∧
  CallM Tryz.prog 92 #[(.int .i64 x8), (.int .i64 (0 : Int)), (.int .i64 (IntKind.wrap .i64 ((IntKind.wrap .i64 (x9 * x10)) * (8 : Int))))] (.one (.sc .bool)) h4 fun r11 h5 =>
  Br (!r11)
  (R (.bool false) h5)
  (K1 () h5))))
theorem mani_entry_run (m_0 : Int × Int × Int × Int × Int × Int × Sl × Sl) (x_1 : ByteArray × Int × Int × Sl) {R : Value → Heap → Prop} {h : Heap} (hm : mani_entry_m m_0 x_1 R h) : Meets Tryz.prog 94 #[(.agg #[(.int .i64 m_0.1), (.int .i64 m_0.2.1), (.int .i64 m_0.2.2.1), (.int .i64 m_0.2.2.2.1), (.int .i64 m_0.2.2.2.2.1), (.int .i64 m_0.2.2.2.2.2.1), (.slice m_0.2.2.2.2.2.2.1.ptr m_0.2.2.2.2.2.2.1.len m_0.2.2.2.2.2.2.1.cap), (.slice m_0.2.2.2.2.2.2.2.ptr m_0.2.2.2.2.2.2.2.len m_0.2.2.2.2.2.2.2.cap)]), (.agg #[(.string x_1.1), (.int .i64 x_1.2.1), (.int .i64 x_1.2.2.1), (.slice x_1.2.2.2.ptr x_1.2.2.2.len x_1.2.2.2.cap)])] h R := fn_tie C_ok Tryz.func94 (.two .n (.two (.join [] [(4, 5), (6, 33)] .n) .n)) hm
abbrev slices_ContainsFunc_api_Entry_api_Entry_id : FuncId := 95
noncomputable def slices_ContainsFunc_api_Entry_api_Entry_m (s_0 : Sl) (f_1 : FuncId × Array Value × Array Value) (R : Value → Heap → Prop) (h : Heap) : Prop :=
  CallM Tryz.prog 134 #[(.slice s_0.ptr s_0.len s_0.cap), (.func (.func f_1.1) f_1.2.1 f_1.2.2)] (.one (.sc (.int .i64))) h fun r1 h1 =>
  R (.bool (decide (r1 ≥ (0 : Int)))) h1
theorem slices_ContainsFunc_api_Entry_api_Entry_run (s_0 : Sl) (f_1 : FuncId × Array Value × Array Value) {R : Value → Heap → Prop} {h : Heap} (hm : slices_ContainsFunc_api_Entry_api_Entry_m s_0 f_1 R h) : Meets Tryz.prog 95 #[(.slice s_0.ptr s_0.len s_0.cap), (.func (.func f_1.1) f_1.2.1 f_1.2.2)] h R := fn_tie C_ok Tryz.func95 .n hm
abbrev mani_May_1_id : FuncId := 96
noncomputable def mani_May_1_m (y_0 : ByteArray × Int × Int × Sl) (cap_1 : Addr) (R : Value → Heap → Prop) (h : Heap) : Prop :=
  RunsA Tryz.prog (Instr.box 133 (.agg #[(.string y_0.1), (.int .i64 y_0.2.1), (.int .i64 y_0.2.2.1), (.slice y_0.2.2.2.ptr y_0.2.2.2.len y_0.2.2.2.cap)])) h fun a1 h1 =>
  ∃ x2 : Int, cellOf h1 (a1.add 1) = some (.int .i64 x2) ∧
  ∃ x3 : Int, cellOf h1 (cap_1.add 1) = some (.int .i64 x3) ∧
  R (.bool (x2 == x3)) h1
theorem mani_May_1_run (y_0 : ByteArray × Int × Int × Sl) (cap_1 : Addr) {R : Value → Heap → Prop} {h : Heap} (hm : mani_May_1_m y_0 cap_1 R h) : Meets Tryz.prog 96 #[(.agg #[(.string y_0.1), (.int .i64 y_0.2.1), (.int .i64 y_0.2.2.1), (.slice y_0.2.2.2.ptr y_0.2.2.2.len y_0.2.2.2.cap)]), (.pointer (some cap_1))] h R := fn_tie C_ok Tryz.func96 .n hm
abbrev drive_own_id : FuncId := 97
noncomputable def drive_own_m (l_0 : Sl) (R : Value → Heap → Prop) (h : Heap) : Prop :=
  LoopM (σ := Sl × Int) (fun s1 K1 h1 =>
  Br (decide (s1.2 < ((l_0.len : Nat) : Int)))
  (∃ a2 : Addr, (l_0.ptr = some a2 ∧ 0 ≤ s1.2 ∧ s1.2 < ((l_0.len : Nat) : Int)) ∧
  ∃ x3 : Sl, cellOf h1 (a2.add (s1.2.toNat * 1)) = some (.slice x3.ptr x3.len x3.cap) ∧
  CallM Tryz.prog 118 #[(.slice x3.ptr x3.len x3.cap)] (.one (.sc .slc)) h1 fun r4 h2 =>
  RunsR Tryz.prog (Instr.buildSlice 63 1 #[(0, (.slice r4.ptr r4.len r4.cap))]) (.one (.sc .slc)) h2 fun v5 h3 =>
  RunsR Tryz.prog (Builtin.append_ #[63, 63] 63 #[(.slice s1.1.ptr s1.1.len s1.1.cap), (.slice v5.ptr v5.len v5.cap)]) (.one (.sc .slc)) h3 fun v6 h4 =>
  K1 ((⟨v6.ptr, v6.len, v6.cap⟩ : Sl), IntKind.wrap .i64 (s1.2 + (1 : Int))) h4)
  (R (.slice s1.1.ptr s1.1.len s1.1.cap) h1)) ((⟨none, 0, 0⟩ : Sl), (0 : Int)) h
theorem drive_own_run (l_0 : Sl) {R : Value → Heap → Prop} {h : Heap} (hm : drive_own_m l_0 R h) : Meets Tryz.prog 97 #[(.slice l_0.ptr l_0.len l_0.cap)] h R := fn_tie C_ok Tryz.func97 (.two .n (.two .n (.two (.two .n (.inn (.loop [(3, (.sc .slc)), (8, (.sc (.int .i64)))] [(3, 4), (5, 6), (8, 18)] .n))) .n))) hm
noncomputable def slices_IndexFunc_ss_byte_byte_m (s_0 : Sl) (f_1 : FuncId × Array Value × Array Value) (R : Value → Heap → Prop) (h : Heap) : Prop :=
  LoopM (σ := Int) (fun s1 K1 h1 =>
  Br (decide (s1 < ((s_0.len : Nat) : Int)))
  (∃ a2 : Addr, (s_0.ptr = some a2 ∧ 0 ≤ s1 ∧ s1 < ((s_0.len : Nat) : Int)) ∧
  ∃ x3 : Sl, cellOf h1 (a2.add (s1.toNat * 1)) = some (.slice x3.ptr x3.len x3.cap) ∧
  DynM C f_1.1 (f_1.2.1.toList ++ [(.slice x3.ptr x3.len x3.cap)] ++ f_1.2.2.toList) (.one (.sc .bool)) h1 fun r4 h2 =>
  Br r4
  (R (.int .i64 s1) h2)
  (K1 (IntKind.wrap .i64 (s1 + (1 : Int))) h2))
  (R (.int .i64 (-1 : Int)) h1)) (0 : Int) h
theorem slices_IndexFunc_ss_byte_byte_run (s_0 : Sl) (f_1 : FuncId × Array Value × Array Value) {R : Value → Heap → Prop} {h : Heap} (hm : slices_IndexFunc_ss_byte_byte_m s_0 f_1 R h) : Meets Tryz.prog 98 #[(.slice s_0.ptr s_0.len s_0.cap), (.func (.func f_1.1) f_1.2.1 f_1.2.2)] h R := fn_tie C_ok Tryz.func98 (.two .n (.two (.two .n (.inn (.loop [(8, (.sc (.int .i64)))] [(4, 6), (8, 19)] .n))) .n)) hm
abbrev slices_Clone_int_int_id : FuncId := 99
noncomputable def slices_Clone_int_int_m (s_0 : Sl) (R : Value → Heap → Prop) (h : Heap) : Prop :=
  Br (Option.isNone s_0.ptr)
  (R (.slice none 0 0) h)
  (RunsR Tryz.prog (Instr.buildSlice 22 0 #[]) (.one (.sc .slc)) h fun v1 h1 =>
  RunsR Tryz.prog (Builtin.append_ #[22, 22] 22 #[(.slice v1.ptr v1.len v1.cap), (.slice s_0.ptr s_0.len s_0.cap)]) (.one (.sc .slc)) h1 fun v2 h2 =>
  R (.slice v2.ptr v2.len v2.cap) h2)
theorem slices_Clone_int_int_run (s_0 : Sl) {R : Value → Heap → Prop} {h : Heap} (hm : slices_Clone_int_int_m s_0 R h) : Meets Tryz.prog 99 #[(.slice s_0.ptr s_0.len s_0.cap)] h R := fn_tie C_ok Tryz.func99 .n hm
abbrev slices_Clone_api_Entry_api_Entry_id : FuncId := 100
noncomputable def slices_Clone_api_Entry_api_Entry_m (s_0 : Sl) (R : Value → Heap → Prop) (h : Heap) : Prop :=
  Br (Option.isNone s_0.ptr)
  (R (.slice none 0 0) h)
  (RunsR Tryz.prog (Instr.buildSlice 38 0 #[]) (.one (.sc .slc)) h fun v1 h1 =>
  RunsR Tryz.prog (Builtin.append_ #[38, 38] 38 #[(.slice v1.ptr v1.len v1.cap), (.slice s_0.ptr s_0.len s_0.cap)]) (.one (.sc .slc)) h1 fun v2 h2 =>
  R (.slice v2.ptr v2.len v2.cap) h2)
theorem slices_Clone_api_Entry_api_Entry_run (s_0 : Sl) {R : Value → Heap → Prop} {h : Heap} (hm : slices_Clone_api_Entry_api_Entry_m s_0 R h) : Meets Tryz.prog 100 #[(.slice s_0.ptr s_0.len s_0.cap)] h R := fn_tie C_ok Tryz.func100 .n hm
abbrev wellspringref01_May_id : FuncId := 101
noncomputable def wellspringref01_May_m (p_0 : Int × Int × Int) (R : Value → Heap → Prop) (h : Heap) : Prop :=
  RunsA Tryz.prog (Instr.box 37 (.agg #[(.int .i64 p_0.1), (.int .i64 p_0.2.1), (.int .i64 p_0.2.2)])) h fun a1 h1 =>
  ∃ x2 : Int, cellOf h1 a1 = some (.int .i64 x2) ∧
  Br (decide (x2 ≥ (1 : Int))) (∃ x3 : Int, cellOf h1 a1 = some (.int .i64 x3) ∧
  Br (decide (x3 ≤ (16 : Int))) (∃ x4 : Int, cellOf h1 (a1.add 1) = some (.int .i64 x4) ∧
  Br (decide (x4 ≥ (1 : Int))) (∃ x5 : Int, cellOf h1 (a1.add 1) = some (.int .i64 x5) ∧
  Br (decide (x5 ≤ (4 : Int))) (∃ x6 : Int, cellOf h1 (a1.add 2) = some (.int .i64 x6) ∧
  Br (decide (x6 ≥ (1 : Int))) (∃ x7 : Int, cellOf h1 (a1.add 2) = some (.int .i64 x7) ∧
  R (.bool (decide (x7 ≤ (24 : Int)))) h1) (R (.bool false) h1)) (R (.bool false) h1)) (R (.bool false) h1)) (R (.bool false) h1)) (R (.bool false) h1)
theorem wellspringref01_May_run (p_0 : Int × Int × Int) {R : Value → Heap → Prop} {h : Heap} (hm : wellspringref01_May_m p_0 R h) : Meets Tryz.prog 101 #[(.agg #[(.int .i64 p_0.1), (.int .i64 p_0.2.1), (.int .i64 p_0.2.2)])] h R := fn_tie C_ok Tryz.func101 .n hm
abbrev wellspringref15_Split_id : FuncId := 102
noncomputable def wellspringref15_Split_m (m_0 : Int × Int × Int × Int × Int × Int × Sl × Sl) (R : Value → Heap → Prop) (h : Heap) : Prop :=
  RunsA Tryz.prog (Instr.box 40 (.agg #[(.int .i64 m_0.1), (.int .i64 m_0.2.1), (.int .i64 m_0.2.2.1), (.int .i64 m_0.2.2.2.1), (.int .i64 m_0.2.2.2.2.1), (.int .i64 m_0.2.2.2.2.2.1), (.slice m_0.2.2.2.2.2.2.1.ptr m_0.2.2.2.2.2.2.1.len m_0.2.2.2.2.2.2.1.cap), (.slice m_0.2.2.2.2.2.2.2.ptr m_0.2.2.2.2.2.2.2.len m_0.2.2.2.2.2.2.2.cap)])) h fun a1 h1 =>
  ∃ x2 : Int × Int × Int × Int × Int × Int × Sl × Sl, cellsAt h1 a1 0 [(.int .i64 x2.1), (.int .i64 x2.2.1), (.int .i64 x2.2.2.1), (.int .i64 x2.2.2.2.1), (.int .i64 x2.2.2.2.2.1), (.int .i64 x2.2.2.2.2.2.1), (.slice x2.2.2.2.2.2.2.1.ptr x2.2.2.2.2.2.2.1.len x2.2.2.2.2.2.2.1.cap), (.slice x2.2.2.2.2.2.2.2.ptr x2.2.2.2.2.2.2.2.len x2.2.2.2.2.2.2.2.cap)] ∧
  CallM Tryz.prog 135 #[(.agg #[(.int .i64 x2.1), (.int .i64 x2.2.1), (.int .i64 x2.2.2.1), (.int .i64 x2.2.2.2.1), (.int .i64 x2.2.2.2.2.1), (.int .i64 x2.2.2.2.2.2.1), (.slice x2.2.2.2.2.2.2.1.ptr x2.2.2.2.2.2.2.1.len x2.2.2.2.2.2.2.1.cap), (.slice x2.2.2.2.2.2.2.2.ptr x2.2.2.2.2.2.2.2.len x2.2.2.2.2.2.2.2.cap)])] (.one (.sc .slc)) h1 fun r3 h2 =>
  ((48 : Int) ≠ 0) ∧
  LoopM (σ := Sl × Int) (fun s4 K1 h3 =>
  Br (decide (s4.2 < (IntKind.wrap .i64 (Int.tdiv (IntKind.wrap .i64 ((IntKind.wrap .i64 (((r3.len : Nat) : Int) + (48 : Int))) - (1 : Int))) (48 : Int)))))
  ((0 ≤ (IntKind.wrap .i64 (s4.2 * (48 : Int))) ∧ (IntKind.wrap .i64 (s4.2 * (48 : Int))) ≤ (if ((r3.len : Nat) : Int) < (IntKind.wrap .i64 ((IntKind.wrap .i64 (s4.2 + (1 : Int))) * (48 : Int))) then ((r3.len : Nat) : Int) else IntKind.wrap .i64 ((IntKind.wrap .i64 (s4.2 + (1 : Int))) * (48 : Int))) ∧ (if ((r3.len : Nat) : Int) < (IntKind.wrap .i64 ((IntKind.wrap .i64 (s4.2 + (1 : Int))) * (48 : Int))) then ((r3.len : Nat) : Int) else IntKind.wrap .i64 ((IntKind.wrap .i64 (s4.2 + (1 : Int))) * (48 : Int))) ≤ ((r3.cap : Nat) : Int)) ∧
  ∃ x5 : Int, cellOf h3 a1 = some (.int .i64 x5) ∧
  CallM Tryz.prog 137 #[(.slice none 0 0), (.int .i64 x5), (.int .i64 (4 : Int))] (.one (.sc .slc)) h3 fun r6 h4 =>
  RunsR Tryz.prog (Instr.buildSlice 90 3 #[(0, (.int .u8 (IntKind.wrap .u8 s4.2))), (1, (.int .u8 (IntKind.wrap .u8 (IntKind.wrap .i64 (Int.tdiv (IntKind.wrap .i64 ((IntKind.wrap .i64 (((r3.len : Nat) : Int) + (48 : Int))) - (1 : Int))) (48 : Int)))))), (2, (.int .u8 (IntKind.wrap .u8 ((((if ((r3.len : Nat) : Int) < (IntKind.wrap .i64 ((IntKind.wrap .i64 (s4.2 + (1 : Int))) * (48 : Int))) then ((r3.len : Nat) : Int) else IntKind.wrap .i64 ((IntKind.wrap .i64 (s4.2 + (1 : Int))) * (48 : Int))).toNat - (IntKind.wrap .i64 (s4.2 * (48 : Int))).toNat) : Nat) : Int))))]) (.one (.sc .slc)) h4 fun v7 h5 =>
  RunsR Tryz.prog (Builtin.append_ #[90, 90] 90 #[(.slice r6.ptr r6.len r6.cap), (.slice v7.ptr v7.len v7.cap)]) (.one (.sc .slc)) h5 fun v8 h6 =>
  RunsR Tryz.prog (Builtin.append_ #[90, 90] 90 #[(.slice v8.ptr v8.len v8.cap), (.slice (if r3.cap = (IntKind.wrap .i64 (s4.2 * (48 : Int))).toNat then r3.ptr else r3.ptr.map (·.add ((IntKind.wrap .i64 (s4.2 * (48 : Int))).toNat * 1))) ((if ((r3.len : Nat) : Int) < (IntKind.wrap .i64 ((IntKind.wrap .i64 (s4.2 + (1 : Int))) * (48 : Int))) then ((r3.len : Nat) : Int) else IntKind.wrap .i64 ((IntKind.wrap .i64 (s4.2 + (1 : Int))) * (48 : Int))).toNat - (IntKind.wrap .i64 (s4.2 * (48 : Int))).toNat) (r3.cap - (IntKind.wrap .i64 (s4.2 * (48 : Int))).toNat))]) (.one (.sc .slc)) h6 fun v9 h7 =>
  CallM Tryz.prog 136 #[(.int .i64 (2 : Int)), (.slice v9.ptr v9.len v9.cap)] (.one (.sc .slc)) h7 fun r10 h8 =>
  RunsR Tryz.prog (Instr.buildSlice 63 1 #[(0, (.slice r10.ptr r10.len r10.cap))]) (.one (.sc .slc)) h8 fun v11 h9 =>
  RunsR Tryz.prog (Builtin.append_ #[63, 63] 63 #[(.slice s4.1.ptr s4.1.len s4.1.cap), (.slice v11.ptr v11.len v11.cap)]) (.one (.sc .slc)) h9 fun v12 h10 =>
  K1 ((⟨v12.ptr, v12.len, v12.cap⟩ : Sl), IntKind.wrap .i64 (s4.2 + (1 : Int))) h10)
  (R (.slice s4.1.ptr s4.1.len s4.1.cap) h3)) ((⟨none, 0, 0⟩ : Sl), (0 : Int)) h2
theorem wellspringref15_Split_run (m_0 : Int × Int × Int × Int × Int × Int × Sl × Sl) {R : Value → Heap → Prop} {h : Heap} (hm : wellspringref15_Split_m m_0 R h) : Meets Tryz.prog 102 #[(.agg #[(.int .i64 m_0.1), (.int .i64 m_0.2.1), (.int .i64 m_0.2.2.1), (.int .i64 m_0.2.2.2.1), (.int .i64 m_0.2.2.2.2.1), (.int .i64 m_0.2.2.2.2.2.1), (.slice m_0.2.2.2.2.2.2.1.ptr m_0.2.2.2.2.2.2.1.len m_0.2.2.2.2.2.2.1.cap), (.slice m_0.2.2.2.2.2.2.2.ptr m_0.2.2.2.2.2.2.2.len m_0.2.2.2.2.2.2.2.cap)])] h R := fn_tie C_ok Tryz.func102 (.two .n (.two .n (.two .n (.two .n (.two (.two .n (.inn (.loop [(5, (.sc .slc)), (6, (.sc (.int .i64)))] [(5, 8), (15, 48)] .n))) .n))))) hm
abbrev wellspringref29_Store_lay_id : FuncId := 103
noncomputable def wellspringref29_Store_lay_m (s_0 : Option Addr) (l_1 : Sl) (R : Value → Heap → Prop) (h : Heap) : Prop :=
  RunsA Tryz.prog (Instr.alloc 175 true (.tuple #[])) h fun a1 h1 =>
  LoopM (σ := Int) (fun s2 K1 h2 =>
  Br (decide (s2 < ((l_1.len : Nat) : Int)))
  (∃ a3 : Addr, (l_1.ptr = some a3 ∧ 0 ≤ s2 ∧ s2 < ((l_1.len : Nat) : Int)) ∧
  ∃ x4 : Int × Sl, cellsAt h2 (a3.add (s2.toNat * 2)) 0 [(.int .i64 x4.1), (.slice x4.2.ptr x4.2.len x4.2.cap)] ∧
  RunsA Tryz.prog (Instr.alloc 147 true (.tuple #[])) h2 fun a5 h3 =>
  Runs Tryz.prog (Instr.storeAt 147 (.pointer (some a5)) (.agg #[(.int .i64 x4.1), (.slice x4.2.ptr x4.2.len x4.2.cap)])) h3 fun _ h4 =>
  ∃ x6 : Int, cellOf h4 a5 = some (.int .i64 x6) ∧
  ∃ a7 : Addr, (s_0 = some a7) ∧
  (0 ≤ x6 ∧ x6 < ((64 : Nat) : Int)) ∧
  ∃ x8 : Option Addr, cellOf h4 ((a7.add 10).add (x6.toNat * 1)) = some (.pointer x8) ∧
  ∃ x9 : Sl, cellOf h4 (a5.add 1) = some (.slice x9.ptr x9.len x9.cap) ∧
  CallM Tryz.prog 138 #[(.pointer x8), (.slice x9.ptr x9.len x9.cap)] (.one (.sc (.int .i64))) h4 fun r10 h5 =>
  (Held.ok [(a5, (.int .i64 x6))] h5) ∧
  Br (r10 != (0 : Int))
  (R (.int .i64 r10) h5)
  (∃ x11 : Int, cellOf h5 a5 = some (.int .i64 x11) ∧
  (0 ≤ x11 ∧ x11 < ((64 : Nat) : Int)) ∧
  Runs Tryz.prog (Instr.storeAt 4 (.pointer (some (a1.add (x11.toNat * 1)))) (.bool true)) h5 fun _ h6 =>
  K1 (IntKind.wrap .i64 (s2 + (1 : Int))) h6))
  (LoopM (σ := Int) (fun s12 K2 h7 =>
  Br (decide (s12 < (64 : Int)))
  ((0 ≤ s12 ∧ s12 < ((64 : Nat) : Int)) ∧
  ∃ x13 : Bool, cellOf h7 (a1.add (s12.toNat * 1)) = some (.bool x13) ∧
  Br (!x13)
  (K2 (IntKind.wrap .i64 (s12 + (1 : Int))) h7)
  (∃ a14 : Addr, (s_0 = some a14) ∧
  (0 ≤ s12 ∧ s12 < ((64 : Nat) : Int)) ∧
  ∃ x15 : Option Addr, cellOf h7 ((a14.add 10).add (s12.toNat * 1)) = some (.pointer x15) ∧
  CallM Tryz.prog 139 #[(.pointer x15)] (.one (.sc (.int .i64))) h7 fun r16 h8 =>
  Br (r16 != (0 : Int))
  (R (.int .i64 r16) h8)
  (K2 (IntKind.wrap .i64 (s12 + (1 : Int))) h8)))
  (R (.int .i64 (0 : Int)) h7)) (0 : Int) h2)) (0 : Int) h1
theorem wellspringref29_Store_lay_run (s_0 : Option Addr) (l_1 : Sl) {R : Value → Heap → Prop} {h : Heap} (hm : wellspringref29_Store_lay_m s_0 l_1 R h) : Meets Tryz.prog 103 #[(.pointer s_0), (.slice l_1.ptr l_1.len l_1.cap)] h R := fn_tie C_ok Tryz.func103 (.two .n (.two .n (.two (.two .n (.inn (.loop [(13, (.sc (.int .i64)))] [(4, 5), (7, 9), (13, 34)] .n))) (.two (.two .n (.inn (.loop [(34, (.sc (.int .i64)))] [(4, 5), (9, 11), (34, 52)] .n))) .n)))) hm
abbrev mani_number_id : FuncId := 116
noncomputable def mani_number_m (to_0 : Sl) (n_1 : Int) (size_2 : Int) (R : Value → Heap → Prop) (h : Heap) : Prop :=
  LoopM (σ := Sl × Int) (fun s1 K1 h1 =>
  Br (decide (s1.2 ≥ (0 : Int)))
  ((0 ≤ (IntKind.wrap .i64 ((8 : Int) * s1.2))) ∧
  RunsR Tryz.prog (Instr.buildSlice 90 1 #[(0, (.int .u8 (IntKind.wrap .u8 (Int.fdiv n_1 (2 ^ min (IntKind.wrap .i64 ((8 : Int) * s1.2)).toNat (IntKind.bits .i64))))))]) (.one (.sc .slc)) h1 fun v2 h2 =>
  RunsR Tryz.prog (Builtin.append_ #[90, 90] 90 #[(.slice s1.1.ptr s1.1.len s1.1.cap), (.slice v2.ptr v2.len v2.cap)]) (.one (.sc .slc)) h2 fun v3 h3 =>
  K1 ((⟨v3.ptr, v3.len, v3.cap⟩ : Sl), IntKind.wrap .i64 (s1.2 - (1 : Int))) h3)
  (R (.slice s1.1.ptr s1.1.len s1.1.cap) h1)) ((⟨to_0.ptr, to_0.len, to_0.cap⟩ : Sl), IntKind.wrap .i64 (size_2 - (1 : Int))) h
theorem mani_number_run (to_0 : Sl) (n_1 : Int) (size_2 : Int) {R : Value → Heap → Prop} {h : Heap} (hm : mani_number_m to_0 n_1 size_2 R h) : Meets Tryz.prog 116 #[(.slice to_0.ptr to_0.len to_0.cap), (.int .i64 n_1), (.int .i64 size_2)] h R := fn_tie C_ok Tryz.func116 (.two .n (.two (.two .n (.inn (.loop [(0, (.sc .slc)), (7, (.sc (.int .i64)))] [(0, 1), (7, 8), (10, 22)] .n))) .n)) hm
abbrev cell_Put_id : FuncId := 117
noncomputable def cell_Put_m (kind_0 : Int) (body_1 : Sl) (R : Value → Heap → Prop) (h : Heap) : Prop :=
  JoinM (σ := Unit) (fun _ h1 =>
  RunsR Tryz.prog (Instr.makeSlice 90 (.int .i64 (64 : Int)) (.int .i64 (64 : Int))) (.one (.sc .slc)) h1 fun v2 h2 =>
  RunsR Tryz.prog (Instr.buildSlice 90 4 #[(0, (.int .u8 (87 : Int))), (1, (.int .u8 (115 : Int))), (2, (.int .u8 (1 : Int))), (3, (.int .u8 (IntKind.wrap .u8 kind_0)))]) (.one (.sc .slc)) h2 fun v3 h3 =>
  RunsR Tryz.prog (Builtin.copy_ #[90, 90] 3 #[(.slice v2.ptr v2.len v2.cap), (.slice v3.ptr v3.len v3.cap)]) (.one (.sc (.int .i64))) h3 fun _ h4 =>
  (0 ≤ (4 : Int) ∧ (4 : Int) ≤ ((v2.len : Nat) : Int)) ∧
  RunsR Tryz.prog (Builtin.copy_ #[90, 90] 3 #[(.slice (if v2.cap = (4 : Int).toNat then v2.ptr else v2.ptr.map (·.add ((4 : Int).toNat * 1))) (v2.len - (4 : Int).toNat) (v2.cap - (4 : Int).toNat)), (.slice body_1.ptr body_1.len body_1.cap)]) (.one (.sc (.int .i64))) h4 fun _ h5 =>
  (0 ≤ (59 : Int) ∧ (59 : Int) ≤ ((v2.cap : Nat) : Int)) ∧
  CallM Tryz.prog 146 #[(.slice v2.ptr ((59 : Int).toNat) v2.cap)] (.one (.sc (.int .u32))) h5 fun r6 h6 =>
  LoopM (σ := Int) (fun s7 K2 h7 =>
  Br (decide (s7 < (4 : Int)))
  ((0 ≤ (IntKind.wrap .i64 ((8 : Int) * s7))) ∧
  ∃ a8 : Addr, (v2.ptr = some a8 ∧ 0 ≤ (IntKind.wrap .i64 ((59 : Int) + s7)) ∧ (IntKind.wrap .i64 ((59 : Int) + s7)) < ((v2.len : Nat) : Int)) ∧
  Runs Tryz.prog (Instr.storeAt 5 (.pointer (some (a8.add ((IntKind.wrap .i64 ((59 : Int) + s7)).toNat * 1)))) (.int .u8 (IntKind.wrap .u8 (Int.fdiv r6 (2 ^ min (IntKind.wrap .i64 ((8 : Int) * s7)).toNat (IntKind.bits .u32)))))) h7 fun _ h8 =>
  K2 (IntKind.wrap .i64 (s7 + (1 : Int))) h8)
  (∃ a9 : Addr, (v2.ptr = some a9 ∧ 0 ≤ (63 : Int) ∧ (63 : Int) < ((v2.len : Nat) : Int)) ∧
  Runs Tryz.prog (Instr.storeAt 5 (.pointer (some (a9.add ((63 : Int).toNat * 1)))) (.int .u8 (165 : Int))) h7 fun _ h9 =>
  R (.slice v2.ptr v2.len v2.cap) h9)) (0 : Int) h6)
  (fun K1 =>
  Br (decide (kind_0 < (1 : Int))) (R (.slice none 0 0) h) (Br (decide (kind_0 > (255 : Int))) (R (.slice none 0 0) h) (Br (decide (((body_1.len : Nat) : Int) > (55 : Int)))
  (R (.slice none 0 0) h)
  (K1 () h))))
theorem cell_Put_run (kind_0 : Int) (body_1 : Sl) {R : Value → Heap → Prop} {h : Heap} (hm : cell_Put_m kind_0 body_1 R h) : Meets Tryz.prog 117 #[(.int .i64 kind_0), (.slice body_1.ptr body_1.len body_1.cap)] h R := fn_tie C_ok Tryz.func117 (.two .n (.two (.join [] [(4, 5), (8, 19)] .n) (.two .n (.two .n (.two .n (.two .n (.two (.two .n (.inn (.loop [(32, (.sc (.int .i64)))] [(7, 8), (32, 45)] .n))) .n))))))) hm
abbrev bytes_Clone_id : FuncId := 118
noncomputable def bytes_Clone_m (b_0 : Sl) (R : Value → Heap → Prop) (h : Heap) : Prop :=
  Br (Option.isNone b_0.ptr)
  (R (.slice none 0 0) h)
  (RunsR Tryz.prog (Instr.buildSlice 90 0 #[]) (.one (.sc .slc)) h fun v1 h1 =>
  RunsR Tryz.prog (Builtin.append_ #[90, 90] 90 #[(.slice v1.ptr v1.len v1.cap), (.slice b_0.ptr b_0.len b_0.cap)]) (.one (.sc .slc)) h1 fun v2 h2 =>
  R (.slice v2.ptr v2.len v2.cap) h2)
theorem bytes_Clone_run (b_0 : Sl) {R : Value → Heap → Prop} {h : Heap} (hm : bytes_Clone_m b_0 R h) : Meets Tryz.prog 118 #[(.slice b_0.ptr b_0.len b_0.cap)] h R := fn_tie C_ok Tryz.func118 .n hm
abbrev drive_Drive_went_id : FuncId := 119
noncomputable def drive_Drive_went_m (d_0 : Option Addr) (R : Value → Heap → Prop) (h : Heap) : Prop :=
  ∃ a1 : Addr, (d_0 = some a1) ∧
  Runs Tryz.prog (Instr.storeAt 63 (.pointer (some (a1.add 4))) (.slice none 0 0)) h fun _ h1 =>
  ∃ a2 : Addr, (d_0 = some a2) ∧
  Runs Tryz.prog (Instr.storeAt 4 (.pointer (some (a2.add 5))) (.bool false)) h1 fun _ h2 =>
  R (.int .i64 (0 : Int)) h2
theorem drive_Drive_went_run (d_0 : Option Addr) {R : Value → Heap → Prop} {h : Heap} (hm : drive_Drive_went_m d_0 R h) : Meets Tryz.prog 119 #[(.pointer d_0)] h R := fn_tie C_ok Tryz.func119 .n hm
abbrev slices_Compact_int_int_id : FuncId := 120
abbrev drive_Drive_Sync_id : FuncId := 121
noncomputable def drive_Drive_Sync_m (d_0 : Option Addr) (R : Value → Heap → Prop) (h : Heap) : Prop :=
  JoinM (σ := Unit) (fun _ h1 =>
  ∃ a4 : Addr, (d_0 = some a4) ∧
  ∃ x5 : Option Addr, cellOf h1 a4 = some (.pointer x5) ∧
  CallM Tryz.prog 18 #[(.pointer x5)] (.one (.sc .bool)) h1 fun r6 h2 =>
  Br (!r6)
  (R (.int .i64 (14 : Int)) h2)
  (∃ a7 : Addr, (d_0 = some a7) ∧
  Runs Tryz.prog (Instr.storeAt 3 (.pointer (some (a7.add 3))) (.int .i64 (0 : Int))) h2 fun _ h3 =>
  CallM Tryz.prog 119 #[(.pointer d_0)] (.one (.sc (.int .i64))) h3 fun r8 h4 =>
  R (.int .i64 r8) h4))
  (fun K1 =>
  Br (Option.isNone d_0) (R (.int .i64 (5 : Int)) h) (∃ a1 : Addr, (d_0 = some a1) ∧
  ∃ x2 : Bool, cellOf h (a1.add 6) = some (.bool x2) ∧
  Br x2
  (R (.int .i64 (5 : Int)) h)
  (K1 () h)))
theorem drive_Drive_Sync_run (d_0 : Option Addr) {R : Value → Heap → Prop} {h : Heap} (hm : drive_Drive_Sync_m d_0 R h) : Meets Tryz.prog 121 #[(.pointer d_0)] h R := fn_tie C_ok Tryz.func121 (.two .n (.two (.join [] [(2, 11)] .n) .n)) hm
abbrev wellspringkeep_Rows_byte_id : FuncId := 130
noncomputable def wellspringkeep_Rows_byte_m (a_0 : Sl) (b_1 : Sl) (R : Value → Heap → Prop) (h : Heap) : Prop :=
  Br (((a_0.len : Nat) : Int) != ((b_1.len : Nat) : Int))
  (R (.bool false) h)
  (LoopM (σ := Int) (fun s1 K1 h1 =>
  Br (decide (s1 < ((a_0.len : Nat) : Int)))
  (∃ a2 : Addr, (a_0.ptr = some a2 ∧ 0 ≤ s1 ∧ s1 < ((a_0.len : Nat) : Int)) ∧
  ∃ x3 : Sl, cellOf h1 (a2.add (s1.toNat * 1)) = some (.slice x3.ptr x3.len x3.cap) ∧
  ∃ a4 : Addr, (b_1.ptr = some a4 ∧ 0 ≤ s1 ∧ s1 < ((b_1.len : Nat) : Int)) ∧
  ∃ x5 : Sl, cellOf h1 (a4.add (s1.toNat * 1)) = some (.slice x5.ptr x5.len x5.cap) ∧
  CallM Tryz.prog 87 #[(.slice x3.ptr x3.len x3.cap), (.slice x5.ptr x5.len x5.cap)] (.one (.sc .bool)) h1 fun r6 h2 =>
  (Held.ok [] h2) ∧
  Br (!r6)
  (R (.bool false) h2)
  (K1 (IntKind.wrap .i64 (s1 + (1 : Int))) h2))
  (R (.bool true) h1)) (0 : Int) h)
theorem wellspringkeep_Rows_byte_run (a_0 : Sl) (b_1 : Sl) {R : Value → Heap → Prop} {h : Heap} (hm : wellspringkeep_Rows_byte_m a_0 b_1 R h) : Meets Tryz.prog 130 #[(.slice a_0.ptr a_0.len a_0.cap), (.slice b_1.ptr b_1.len b_1.cap)] h R := fn_tie C_ok Tryz.func130 (.two .n (.two .n (.two (.two .n (.inn (.loop [(13, (.sc (.int .i64)))] [(4, 6), (13, 27)] .n))) .n))) hm
abbrev mani_Name_id : FuncId := 131
noncomputable def mani_Name_m (s_0 : ByteArray) (R : Value → Heap → Prop) (h : Heap) : Prop :=
  RunsR Tryz.prog (convert 9 90 (.string s_0)) (.one (.sc .slc)) h fun v1 h1 =>
  LoopM (σ := Int) (fun s2 K1 h2 =>
  Br (decide (s2 < ((v1.len : Nat) : Int)))
  (∃ a3 : Addr, (v1.ptr = some a3 ∧ 0 ≤ s2 ∧ s2 < ((v1.len : Nat) : Int)) ∧
  ∃ x4 : Int, cellOf h2 (a3.add (s2.toNat * 1)) = some (.int .u8 x4) ∧
  Br (decide (x4 < (97 : Int))) (Br (decide (x4 < (48 : Int))) (Br (x4 != (45 : Int))
  (R (.bool false) h2)
  (K1 (IntKind.wrap .i64 (s2 + (1 : Int))) h2)) (Br (decide (x4 > (57 : Int))) (Br (x4 != (45 : Int))
  (R (.bool false) h2)
  (K1 (IntKind.wrap .i64 (s2 + (1 : Int))) h2)) (K1 (IntKind.wrap .i64 (s2 + (1 : Int))) h2))) (Br (decide (x4 > (122 : Int))) (Br (decide (x4 < (48 : Int))) (Br (x4 != (45 : Int))
  (R (.bool false) h2)
  (K1 (IntKind.wrap .i64 (s2 + (1 : Int))) h2)) (Br (decide (x4 > (57 : Int))) (Br (x4 != (45 : Int))
  (R (.bool false) h2)
  (K1 (IntKind.wrap .i64 (s2 + (1 : Int))) h2)) (K1 (IntKind.wrap .i64 (s2 + (1 : Int))) h2))) (K1 (IntKind.wrap .i64 (s2 + (1 : Int))) h2)))
  (Br (decide (((s_0.size : Nat) : Int) ≥ (1 : Int))) (R (.bool (decide (((s_0.size : Nat) : Int) ≤ (12 : Int)))) h2) (R (.bool false) h2))) (0 : Int) h1
theorem mani_Name_run (s_0 : ByteArray) {R : Value → Heap → Prop} {h : Heap} (hm : mani_Name_m s_0 R h) : Meets Tryz.prog 131 #[(.string s_0)] h R := fn_tie C_ok Tryz.func131 (.two .n (.two (.two .n (.inn (.loop [(8, (.sc (.int .i64)))] [(2, 3), (4, 5), (8, 31)] .n))) .n)) hm
abbrev mani_entry_1_id : FuncId := 132
noncomputable def mani_entry_1_m (n_0 : Int) (R : Value → Heap → Prop) (h : Heap) : Prop :=
  CallM Tryz.prog 92 #[(.int .i64 n_0), (.int .i64 (0 : Int)), (.int .i64 (15 : Int))] (.one (.sc .bool)) h fun r1 h1 =>
  R (.bool (!r1)) h1
theorem mani_entry_1_run (n_0 : Int) {R : Value → Heap → Prop} {h : Heap} (hm : mani_entry_1_m n_0 R h) : Meets Tryz.prog 132 #[(.int .i64 n_0)] h R := fn_tie C_ok Tryz.func132 .n hm
abbrev chunk_Count_id : FuncId := 133
noncomputable def chunk_Count_m (p_0 : Int × Int × Int) (n_1 : Int) (R : Value → Heap → Prop) (h : Heap) : Prop :=
  RunsA Tryz.prog (Instr.box 37 (.agg #[(.int .i64 p_0.1), (.int .i64 p_0.2.1), (.int .i64 p_0.2.2)])) h fun a1 h1 =>
  JoinM (σ := Unit) (fun _ h3 =>
  ∃ x5 : Int × Int × Int, cellsAt h3 a1 0 [(.int .i64 x5.1), (.int .i64 x5.2.1), (.int .i64 x5.2.2)] ∧
  CallM Tryz.prog 163 #[(.agg #[(.int .i64 x5.1), (.int .i64 x5.2.1), (.int .i64 x5.2.2)])] (.one (.sc (.int .i64))) h3 fun r6 h4 =>
  (r6 ≠ 0) ∧
  R (.int .i64 (IntKind.wrap .i64 ((IntKind.wrap .i64 (Int.tdiv (IntKind.wrap .i64 (n_1 - (1 : Int))) r6)) + (1 : Int)))) h4)
  (fun K1 =>
  ∃ x2 : Int × Int × Int, cellsAt h1 a1 0 [(.int .i64 x2.1), (.int .i64 x2.2.1), (.int .i64 x2.2.2)] ∧
  CallM Tryz.prog 58 #[(.agg #[(.int .i64 x2.1), (.int .i64 x2.2.1), (.int .i64 x2.2.2)])] (.one (.sc .bool)) h1 fun r3 h2 =>
  Br (!r3) (R (.int .i64 (0 : Int)) h2) (Br (decide (n_1 ≤ (0 : Int)))
  (R (.int .i64 (0 : Int)) h2)
  (K1 () h2)))
theorem chunk_Count_run (p_0 : Int × Int × Int) (n_1 : Int) {R : Value → Heap → Prop} {h : Heap} (hm : chunk_Count_m p_0 n_1 R h) : Meets Tryz.prog 133 #[(.agg #[(.int .i64 p_0.1), (.int .i64 p_0.2.1), (.int .i64 p_0.2.2)]), (.int .i64 n_1)] h R := fn_tie C_ok Tryz.func133 (.two .n (.two (.join [] [(4, 12)] .n) .n)) hm
noncomputable def slices_IndexFunc_api_Entry_api_Entry_m (s_0 : Sl) (f_1 : FuncId × Array Value × Array Value) (R : Value → Heap → Prop) (h : Heap) : Prop :=
  LoopM (σ := Int) (fun s1 K1 h1 =>
  Br (decide (s1 < ((s_0.len : Nat) : Int)))
  (∃ a2 : Addr, (s_0.ptr = some a2 ∧ 0 ≤ s1 ∧ s1 < ((s_0.len : Nat) : Int)) ∧
  ∃ x3 : ByteArray × Int × Int × Sl, cellsAt h1 (a2.add (s1.toNat * 4)) 0 [(.string x3.1), (.int .i64 x3.2.1), (.int .i64 x3.2.2.1), (.slice x3.2.2.2.ptr x3.2.2.2.len x3.2.2.2.cap)] ∧
  DynM C f_1.1 (f_1.2.1.toList ++ [(.agg #[(.string x3.1), (.int .i64 x3.2.1), (.int .i64 x3.2.2.1), (.slice x3.2.2.2.ptr x3.2.2.2.len x3.2.2.2.cap)])] ++ f_1.2.2.toList) (.one (.sc .bool)) h1 fun r4 h2 =>
  Br r4
  (R (.int .i64 s1) h2)
  (K1 (IntKind.wrap .i64 (s1 + (1 : Int))) h2))
  (R (.int .i64 (-1 : Int)) h1)) (0 : Int) h
theorem slices_IndexFunc_api_Entry_api_Entry_run (s_0 : Sl) (f_1 : FuncId × Array Value × Array Value) {R : Value → Heap → Prop} {h : Heap} (hm : slices_IndexFunc_api_Entry_api_Entry_m s_0 f_1 R h) : Meets Tryz.prog 134 #[(.slice s_0.ptr s_0.len s_0.cap), (.func (.func f_1.1) f_1.2.1 f_1.2.2)] h R := fn_tie C_ok Tryz.func134 (.two .n (.two (.two .n (.inn (.loop [(8, (.sc (.int .i64)))] [(4, 6), (8, 19)] .n))) .n)) hm
abbrev wellspringref15_Pack_id : FuncId := 135
noncomputable def wellspringref15_Pack_m (m_0 : Int × Int × Int × Int × Int × Int × Sl × Sl) (R : Value → Heap → Prop) (h : Heap) : Prop :=
  RunsA Tryz.prog (Instr.box 40 (.agg #[(.int .i64 m_0.1), (.int .i64 m_0.2.1), (.int .i64 m_0.2.2.1), (.int .i64 m_0.2.2.2.1), (.int .i64 m_0.2.2.2.2.1), (.int .i64 m_0.2.2.2.2.2.1), (.slice m_0.2.2.2.2.2.2.1.ptr m_0.2.2.2.2.2.2.1.len m_0.2.2.2.2.2.2.1.cap), (.slice m_0.2.2.2.2.2.2.2.ptr m_0.2.2.2.2.2.2.2.len m_0.2.2.2.2.2.2.2.cap)])) h fun a1 h1 =>
  ∃ x2 : Int × Int × Int × Int × Int × Int × Sl × Sl, cellsAt h1 a1 0 [(.int .i64 x2.1), (.int .i64 x2.2.1), (.int .i64 x2.2.2.1), (.int .i64 x2.2.2.2.1), (.int .i64 x2.2.2.2.2.1), (.int .i64 x2.2.2.2.2.2.1), (.slice x2.2.2.2.2.2.2.1.ptr x2.2.2.2.2.2.2.1.len x2.2.2.2.2.2.2.1.cap), (.slice x2.2.2.2.2.2.2.2.ptr x2.2.2.2.2.2.2.2.len x2.2.2.2.2.2.2.2.cap)] ∧
  CallM Tryz.prog 164 #[(.agg #[(.int .i64 x2.1), (.int .i64 x2.2.1), (.int .i64 x2.2.2.1), (.int .i64 x2.2.2.2.1), (.int .i64 x2.2.2.2.2.1), (.int .i64 x2.2.2.2.2.2.1), (.slice x2.2.2.2.2.2.2.1.ptr x2.2.2.2.2.2.2.1.len x2.2.2.2.2.2.2.1.cap), (.slice x2.2.2.2.2.2.2.2.ptr x2.2.2.2.2.2.2.2.len x2.2.2.2.2.2.2.2.cap)])] (.one (.sc .bool)) h1 fun r3 h2 =>
  Br (!r3)
  (R (.slice none 0 0) h2)
  (JoinM (σ := Sl) (fun s8 h5 =>
  ∃ x9 : Int, cellOf h5 (a1.add 2) = some (.int .i64 x9) ∧
  ∃ x10 : Int, cellOf h5 ((a1.add 2).add 1) = some (.int .i64 x10) ∧
  ∃ x11 : Int, cellOf h5 ((a1.add 2).add 2) = some (.int .i64 x11) ∧
  ∃ x12 : Int, cellOf h5 (a1.add 5) = some (.int .i64 x12) ∧
  ∃ x13 : Sl, cellOf h5 (a1.add 6) = some (.slice x13.ptr x13.len x13.cap) ∧
  RunsR Tryz.prog (Instr.buildSlice 90 5 #[(0, (.int .u8 (IntKind.wrap .u8 x9))), (1, (.int .u8 (IntKind.wrap .u8 x10))), (2, (.int .u8 (IntKind.wrap .u8 x11))), (3, (.int .u8 (IntKind.wrap .u8 x12))), (4, (.int .u8 (IntKind.wrap .u8 ((x13.len : Nat) : Int))))]) (.one (.sc .slc)) h5 fun v14 h6 =>
  RunsR Tryz.prog (Builtin.append_ #[90, 90] 90 #[(.slice s8.ptr s8.len s8.cap), (.slice v14.ptr v14.len v14.cap)]) (.one (.sc .slc)) h6 fun v15 h7 =>
  ∃ x16 : Sl, cellOf h7 (a1.add 6) = some (.slice x16.ptr x16.len x16.cap) ∧
  LoopM (σ := Sl × Int) (fun s17 K2 h8 =>
  Br (decide (s17.2 < ((x16.len : Nat) : Int)))
  (∃ a18 : Addr, (x16.ptr = some a18 ∧ 0 ≤ s17.2 ∧ s17.2 < ((x16.len : Nat) : Int)) ∧
  ∃ x19 : Int, cellOf h8 (a18.add (s17.2.toNat * 1)) = some (.int .i64 x19) ∧
  RunsR Tryz.prog (Instr.buildSlice 90 1 #[(0, (.int .u8 (IntKind.wrap .u8 x19)))]) (.one (.sc .slc)) h8 fun v20 h9 =>
  RunsR Tryz.prog (Builtin.append_ #[90, 90] 90 #[(.slice s17.1.ptr s17.1.len s17.1.cap), (.slice v20.ptr v20.len v20.cap)]) (.one (.sc .slc)) h9 fun v21 h10 =>
  K2 ((⟨v21.ptr, v21.len, v21.cap⟩ : Sl), IntKind.wrap .i64 (s17.2 + (1 : Int))) h10)
  (∃ x22 : Sl, cellOf h8 (a1.add 7) = some (.slice x22.ptr x22.len x22.cap) ∧
  RunsR Tryz.prog (Instr.buildSlice 90 1 #[(0, (.int .u8 (IntKind.wrap .u8 ((x22.len : Nat) : Int))))]) (.one (.sc .slc)) h8 fun v23 h11 =>
  RunsR Tryz.prog (Builtin.append_ #[90, 90] 90 #[(.slice s17.1.ptr s17.1.len s17.1.cap), (.slice v23.ptr v23.len v23.cap)]) (.one (.sc .slc)) h11 fun v24 h12 =>
  ∃ x25 : Sl, cellOf h12 (a1.add 7) = some (.slice x25.ptr x25.len x25.cap) ∧
  LoopM (σ := Sl × Int) (fun s26 K3 h13 =>
  Br (decide (s26.2 < ((x25.len : Nat) : Int)))
  (∃ a27 : Addr, (x25.ptr = some a27 ∧ 0 ≤ s26.2 ∧ s26.2 < ((x25.len : Nat) : Int)) ∧
  ∃ x28 : ByteArray × Int × Int × Sl, cellsAt h13 (a27.add (s26.2.toNat * 4)) 0 [(.string x28.1), (.int .i64 x28.2.1), (.int .i64 x28.2.2.1), (.slice x28.2.2.2.ptr x28.2.2.2.len x28.2.2.2.cap)] ∧
  RunsA Tryz.prog (Instr.alloc 133 true (.tuple #[])) h13 fun a29 h14 =>
  Runs Tryz.prog (Instr.storeAt 133 (.pointer (some a29)) (.agg #[(.string x28.1), (.int .i64 x28.2.1), (.int .i64 x28.2.2.1), (.slice x28.2.2.2.ptr x28.2.2.2.len x28.2.2.2.cap)])) h14 fun _ h15 =>
  JoinM (σ := Sl) (fun s35 h19 =>
  JoinM (σ := Sl) (fun s40 h22 =>
  ∃ x41 : Sl, cellOf h22 (a29.add 3) = some (.slice x41.ptr x41.len x41.cap) ∧
  LoopM (σ := Sl × Int) (fun s42 K6 h23 =>
  Br (decide (s42.2 < ((x41.len : Nat) : Int)))
  (∃ a43 : Addr, (x41.ptr = some a43 ∧ 0 ≤ s42.2 ∧ s42.2 < ((x41.len : Nat) : Int)) ∧
  ∃ x44 : Int, cellOf h23 (a43.add (s42.2.toNat * 1)) = some (.int .i64 x44) ∧
  RunsR Tryz.prog (Instr.buildSlice 90 1 #[(0, (.int .u8 (IntKind.wrap .u8 x44)))]) (.one (.sc .slc)) h23 fun v45 h24 =>
  RunsR Tryz.prog (Builtin.append_ #[90, 90] 90 #[(.slice s42.1.ptr s42.1.len s42.1.cap), (.slice v45.ptr v45.len v45.cap)]) (.one (.sc .slc)) h24 fun v46 h25 =>
  K6 ((⟨v46.ptr, v46.len, v46.cap⟩ : Sl), IntKind.wrap .i64 (s42.2 + (1 : Int))) h25)
  (K3 ((⟨s42.1.ptr, s42.1.len, s42.1.cap⟩ : Sl), IntKind.wrap .i64 (s26.2 + (1 : Int))) h23)) ((⟨s40.ptr, s40.len, s40.cap⟩ : Sl), (0 : Int)) h22)
  (fun K5 =>
  ∃ x36 : Int, cellOf h19 (a29.add 1) = some (.int .i64 x36) ∧
  ∃ x37 : Int, cellOf h19 (a29.add 2) = some (.int .i64 x37) ∧
  CallM Tryz.prog 137 #[(.slice s35.ptr s35.len s35.cap), (.int .i64 x36), (.int .i64 (3 : Int))] (.one (.sc .slc)) h19 fun r38 h20 =>
  (Held.ok [(a29.add 2, (.int .i64 x37))] h20) ∧
  CallM Tryz.prog 137 #[(.slice r38.ptr r38.len r38.cap), (.int .i64 x37), (.int .i64 (2 : Int))] (.one (.sc .slc)) h20 fun r39 h21 =>
  (Held.ok [] h21) ∧
  K5 (⟨r39.ptr, r39.len, r39.cap⟩ : Sl) h21))
  (fun K4 =>
  ∃ x30 : ByteArray, cellOf h15 a29 = some (.string x30) ∧
  ∃ x31 : ByteArray, cellOf h15 a29 = some (.string x31) ∧
  RunsR Tryz.prog (Instr.buildSlice 90 1 #[(0, (.int .u8 (IntKind.wrap .u8 ((x30.size : Nat) : Int))))]) (.one (.sc .slc)) h15 fun v32 h16 =>
  (Held.ok [(a29, (.string x31)), (a29, (.string x30))] h16) ∧
  RunsR Tryz.prog (Builtin.append_ #[90, 90] 90 #[(.slice s26.1.ptr s26.1.len s26.1.cap), (.slice v32.ptr v32.len v32.cap)]) (.one (.sc .slc)) h16 fun v33 h17 =>
  (Held.ok [(a29, (.string x31)), (a29, (.string x30))] h17) ∧
  RunsR Tryz.prog (Builtin.append_ #[90, 9] 90 #[(.slice v33.ptr v33.len v33.cap), (.string x31)]) (.one (.sc .slc)) h17 fun v34 h18 =>
  (Held.ok [(a29, (.string x30))] h18) ∧
  K4 (⟨v34.ptr, v34.len, v34.cap⟩ : Sl) h18))
  (R (.slice s26.1.ptr s26.1.len s26.1.cap) h13)) ((⟨v24.ptr, v24.len, v24.cap⟩ : Sl), (0 : Int)) h12)) ((⟨v15.ptr, v15.len, v15.cap⟩ : Sl), (0 : Int)) h7)
  (fun K1 =>
  ∃ x4 : Int, cellOf h2 a1 = some (.int .i64 x4) ∧
  ∃ x5 : Int, cellOf h2 (a1.add 1) = some (.int .i64 x5) ∧
  CallM Tryz.prog 137 #[(.slice none 0 0), (.int .i64 x4), (.int .i64 (4 : Int))] (.one (.sc .slc)) h2 fun r6 h3 =>
  (Held.ok [(a1.add 1, (.int .i64 x5))] h3) ∧
  CallM Tryz.prog 137 #[(.slice r6.ptr r6.len r6.cap), (.int .i64 x5), (.int .i64 (4 : Int))] (.one (.sc .slc)) h3 fun r7 h4 =>
  (Held.ok [] h4) ∧
  K1 (⟨r7.ptr, r7.len, r7.cap⟩ : Sl) h4))
theorem wellspringref15_Pack_run (m_0 : Int × Int × Int × Int × Int × Int × Sl × Sl) {R : Value → Heap → Prop} {h : Heap} (hm : wellspringref15_Pack_m m_0 R h) : Meets Tryz.prog 135 #[(.agg #[(.int .i64 m_0.1), (.int .i64 m_0.2.1), (.int .i64 m_0.2.2.1), (.int .i64 m_0.2.2.2.1), (.int .i64 m_0.2.2.2.2.1), (.int .i64 m_0.2.2.2.2.2.1), (.slice m_0.2.2.2.2.2.2.1.ptr m_0.2.2.2.2.2.2.1.len m_0.2.2.2.2.2.2.1.cap), (.slice m_0.2.2.2.2.2.2.2.ptr m_0.2.2.2.2.2.2.2.len m_0.2.2.2.2.2.2.2.cap)])] h R := fn_tie C_ok Tryz.func135 (.two .n (.two .n (.two (.join [(3, (.sc .slc))] [(3, 4), (13, 19)] .n) (.two .n (.two (.two .n (.inn (.loop [(3, (.sc .slc)), (44, (.sc (.int .i64)))] [(3, 4), (5, 6), (44, 54)] .n))) (.two .n (.two (.two .n (.inn (.loop [(3, (.sc .slc)), (64, (.sc (.int .i64)))] [(3, 4), (7, 8), (9, 10), (64, 99)] (.two .n (.two .n (.two (.inn (.two .n (.two (.join [(3, (.sc .slc))] [(3, 4), (68, 78)] .n) (.two (.join [(3, (.sc .slc))] [(3, 4), (78, 85)] .n) (.two .n (.inn (.loop [(3, (.sc .slc)), (88, (.sc (.int .i64)))] [(3, 4), (9, 10), (88, 98)] .n))))))) .n)))))) .n))))))) hm
abbrev wellspringref15_PutCell_id : FuncId := 136
noncomputable def wellspringref15_PutCell_m (kind_0 : Int) (body_1 : Sl) (R : Value → Heap → Prop) (h : Heap) : Prop :=
  JoinM (σ := Unit) (fun _ h1 =>
  RunsR Tryz.prog (Instr.buildSlice 90 4 #[(0, (.int .u8 (87 : Int))), (1, (.int .u8 (115 : Int))), (2, (.int .u8 (1 : Int))), (3, (.int .u8 (IntKind.wrap .u8 kind_0)))]) (.one (.sc .slc)) h1 fun v2 h2 =>
  RunsR Tryz.prog (Builtin.append_ #[90, 90] 90 #[(.slice v2.ptr v2.len v2.cap), (.slice body_1.ptr body_1.len body_1.cap)]) (.one (.sc .slc)) h2 fun v3 h3 =>
  LoopM (σ := Sl) (fun s4 K2 h4 =>
  Br (decide (((s4.len : Nat) : Int) < (59 : Int)))
  (RunsR Tryz.prog (Instr.buildSlice 90 1 #[(0, (.int .u8 (0 : Int)))]) (.one (.sc .slc)) h4 fun v5 h5 =>
  RunsR Tryz.prog (Builtin.append_ #[90, 90] 90 #[(.slice s4.ptr s4.len s4.cap), (.slice v5.ptr v5.len v5.cap)]) (.one (.sc .slc)) h5 fun v6 h6 =>
  K2 (⟨v6.ptr, v6.len, v6.cap⟩ : Sl) h6)
  (CallM Tryz.prog 165 #[(.slice s4.ptr s4.len s4.cap)] (.one (.sc (.int .u32))) h4 fun r7 h7 =>
  (0 ≤ (8 : Int)) ∧
  (0 ≤ (16 : Int)) ∧
  (0 ≤ (24 : Int)) ∧
  RunsR Tryz.prog (Instr.buildSlice 90 5 #[(0, (.int .u8 (IntKind.wrap .u8 r7))), (1, (.int .u8 (IntKind.wrap .u8 (Int.fdiv r7 (2 ^ min (8 : Int).toNat (IntKind.bits .u32)))))), (2, (.int .u8 (IntKind.wrap .u8 (Int.fdiv r7 (2 ^ min (16 : Int).toNat (IntKind.bits .u32)))))), (3, (.int .u8 (IntKind.wrap .u8 (Int.fdiv r7 (2 ^ min (24 : Int).toNat (IntKind.bits .u32)))))), (4, (.int .u8 (165 : Int)))]) (.one (.sc .slc)) h7 fun v8 h8 =>
  RunsR Tryz.prog (Builtin.append_ #[90, 90] 90 #[(.slice s4.ptr s4.len s4.cap), (.slice v8.ptr v8.len v8.cap)]) (.one (.sc .slc)) h8 fun v9 h9 =>
  R (.slice v9.ptr v9.len v9.cap) h9)) (⟨v3.ptr, v3.len, v3.cap⟩ : Sl) h3)
  (fun K1 =>
  Br (decide (kind_0 < (1 : Int))) (R (.slice none 0 0) h) (Br (decide (kind_0 > (255 : Int))) (R (.slice none 0 0) h) (Br (decide (((body_1.len : Nat) : Int) > (55 : Int)))
  (R (.slice none 0 0) h)
  (K1 () h))))
theorem wellspringref15_PutCell_run (kind_0 : Int) (body_1 : Sl) {R : Value → Heap → Prop} {h : Heap} (hm : wellspringref15_PutCell_m kind_0 body_1 R h) : Meets Tryz.prog 136 #[(.int .i64 kind_0), (.slice body_1.ptr body_1.len body_1.cap)] h R := fn_tie C_ok Tryz.func136 (.two .n (.two (.join [] [(4, 5), (7, 18)] .n) (.two .n (.two (.inn (.loop [(5, (.sc .slc))] [(5, 6), (23, 29)] .n)) .n)))) hm
abbrev wellspringref15_high_id : FuncId := 137
noncomputable def wellspringref15_high_m (b_0 : Sl) (v_1 : Int) (n_2 : Int) (R : Value → Heap → Prop) (h : Heap) : Prop :=
  LoopM (σ := Sl × Int) (fun s1 K1 h1 =>
  Br (decide (s1.2 ≥ (0 : Int)))
  ((0 ≤ (IntKind.wrap .i64 ((8 : Int) * s1.2))) ∧
  RunsR Tryz.prog (Instr.buildSlice 90 1 #[(0, (.int .u8 (IntKind.wrap .u8 (Int.fdiv v_1 (2 ^ min (IntKind.wrap .i64 ((8 : Int) * s1.2)).toNat (IntKind.bits .i64))))))]) (.one (.sc .slc)) h1 fun v2 h2 =>
  RunsR Tryz.prog (Builtin.append_ #[90, 90] 90 #[(.slice s1.1.ptr s1.1.len s1.1.cap), (.slice v2.ptr v2.len v2.cap)]) (.one (.sc .slc)) h2 fun v3 h3 =>
  K1 ((⟨v3.ptr, v3.len, v3.cap⟩ : Sl), IntKind.wrap .i64 (s1.2 - (1 : Int))) h3)
  (R (.slice s1.1.ptr s1.1.len s1.1.cap) h1)) ((⟨b_0.ptr, b_0.len, b_0.cap⟩ : Sl), IntKind.wrap .i64 (n_2 - (1 : Int))) h
theorem wellspringref15_high_run (b_0 : Sl) (v_1 : Int) (n_2 : Int) {R : Value → Heap → Prop} {h : Heap} (hm : wellspringref15_high_m b_0 v_1 n_2 R h) : Meets Tryz.prog 137 #[(.slice b_0.ptr b_0.len b_0.cap), (.int .i64 v_1), (.int .i64 n_2)] h R := fn_tie C_ok Tryz.func137 (.two .n (.two (.two .n (.inn (.loop [(0, (.sc .slc)), (7, (.sc (.int .i64)))] [(0, 1), (7, 8), (10, 22)] .n))) .n)) hm
abbrev wellspringref21_Drive_Append_id : FuncId := 138
noncomputable def wellspringref21_Drive_Append_m (d_0 : Option Addr) (b_1 : Sl) (R : Value → Heap → Prop) (h : Heap) : Prop :=
  Br (((b_1.len : Nat) : Int) != (64 : Int))
  (R (.int .i64 (1 : Int)) h)
  (∃ a1 : Addr, (d_0 = some a1) ∧
  ∃ x2 : Bool, cellOf h (a1.add 6) = some (.bool x2) ∧
  Br x2
  (R (.int .i64 (5 : Int)) h)
  (∃ a3 : Addr, (d_0 = some a3) ∧
  ∃ x4 : Sl, cellOf h (a3.add 2) = some (.slice x4.ptr x4.len x4.cap) ∧
  ∃ a5 : Addr, (d_0 = some a5) ∧
  ∃ x6 : Int, cellOf h a5 = some (.int .i64 x6) ∧
  Br (((x4.len : Nat) : Int) == x6)
  (R (.int .i64 (7 : Int)) h)
  (∃ a7 : Addr, (d_0 = some a7) ∧
  ∃ x8 : Option Addr, cellOf h (a7.add 1) = some (.pointer x8) ∧
  ∃ a9 : Addr, (x8 = some a9) ∧
  ∃ x10 : Bool, cellOf h a9 = some (.bool x10) ∧
  ∃ a11 : Addr, (d_0 = some a11) ∧
  ∃ x12 : Option Addr, cellOf h (a11.add 1) = some (.pointer x12) ∧
  CallM Tryz.prog 166 #[(.pointer x12)] (.one (.sc .bool)) h fun r13 h1 =>
  JoinM (σ := Unit) (fun _ h7 =>
  Br (!r13)
  (R (.int .i64 (14 : Int)) h7)
  (∃ a24 : Addr, (d_0 = some a24) ∧
  Runs Tryz.prog (Instr.storeAt 4 (.pointer (some (a24.add 4))) (.bool false)) h7 fun _ h8 =>
  ∃ a25 : Addr, (d_0 = some a25) ∧
  Runs Tryz.prog (Instr.storeAt 63 (.pointer (some (a25.add 5))) (.slice none 0 0)) h8 fun _ h9 =>
  R (.int .i64 (0 : Int)) h9))
  (fun K1 =>
  Br (!x10)
  (∃ a14 : Addr, (d_0 = some a14) ∧
  ∃ x15 : Sl, cellOf h1 (a14.add 2) = some (.slice x15.ptr x15.len x15.cap) ∧
  ∃ a16 : Addr, (d_0 = some a16) ∧
  ∃ x17 : Int, cellOf h1 (a16.add 3) = some (.int .i64 x17) ∧
  RunsR Tryz.prog (Builtin.append_ #[90, 90] 90 #[(.slice none 0 0), (.slice b_1.ptr b_1.len b_1.cap)]) (.one (.sc .slc)) h1 fun v18 h2 =>
  (Held.ok [(a16.add 3, (.int .i64 x17)), (a14.add 2, (.slice x15.ptr x15.len x15.cap))] h2) ∧
  RunsR Tryz.prog (Instr.buildSlice 63 1 #[(0, (.slice v18.ptr v18.len v18.cap))]) (.one (.sc .slc)) h2 fun v19 h3 =>
  (Held.ok [(a16.add 3, (.int .i64 x17)), (a14.add 2, (.slice x15.ptr x15.len x15.cap))] h3) ∧
  RunsR Tryz.prog (Builtin.append_ #[63, 63] 63 #[(.slice x15.ptr x15.len x15.cap), (.slice v19.ptr v19.len v19.cap)]) (.one (.sc .slc)) h3 fun v20 h4 =>
  (Held.ok [(a16.add 3, (.int .i64 x17))] h4) ∧
  ∃ a21 : Addr, (d_0 = some a21) ∧
  Runs Tryz.prog (Instr.storeAt 63 (.pointer (some (a21.add 2))) (.slice v20.ptr v20.len v20.cap)) h4 fun _ h5 =>
  (Held.ok [] h5) ∧
  ∃ a22 : Addr, (d_0 = some a22) ∧
  Runs Tryz.prog (Instr.storeAt 3 (.pointer (some (a22.add 3))) (.int .i64 (IntKind.wrap .i64 (x17 + (1 : Int))))) h5 fun _ h6 =>
  (Held.ok [] h6) ∧
  K1 () h6)
  (K1 () h1)))))
theorem wellspringref21_Drive_Append_run (d_0 : Option Addr) (b_1 : Sl) {R : Value → Heap → Prop} {h : Heap} (hm : wellspringref21_Drive_Append_m d_0 b_1 R h) : Meets Tryz.prog 138 #[(.pointer d_0), (.slice b_1.ptr b_1.len b_1.cap)] h R := fn_tie C_ok Tryz.func138 (.two .n (.two .n (.two .n (.two .n (.two (.join [] [(40, 60)] .n) .n))))) hm
abbrev wellspringref21_Drive_Sync_id : FuncId := 139
noncomputable def wellspringref21_Drive_Sync_m (d_0 : Option Addr) (R : Value → Heap → Prop) (h : Heap) : Prop :=
  ∃ a1 : Addr, (d_0 = some a1) ∧
  ∃ x2 : Bool, cellOf h (a1.add 6) = some (.bool x2) ∧
  Br x2
  (R (.int .i64 (5 : Int)) h)
  (∃ a3 : Addr, (d_0 = some a3) ∧
  ∃ x4 : Option Addr, cellOf h (a3.add 1) = some (.pointer x4) ∧
  CallM Tryz.prog 166 #[(.pointer x4)] (.one (.sc .bool)) h fun r5 h1 =>
  Br (!r5)
  (R (.int .i64 (14 : Int)) h1)
  (∃ a6 : Addr, (d_0 = some a6) ∧
  Runs Tryz.prog (Instr.storeAt 3 (.pointer (some (a6.add 3))) (.int .i64 (0 : Int))) h1 fun _ h2 =>
  ∃ a7 : Addr, (d_0 = some a7) ∧
  Runs Tryz.prog (Instr.storeAt 4 (.pointer (some (a7.add 4))) (.bool false)) h2 fun _ h3 =>
  ∃ a8 : Addr, (d_0 = some a8) ∧
  Runs Tryz.prog (Instr.storeAt 63 (.pointer (some (a8.add 5))) (.slice none 0 0)) h3 fun _ h4 =>
  R (.int .i64 (0 : Int)) h4))
theorem wellspringref21_Drive_Sync_run (d_0 : Option Addr) {R : Value → Heap → Prop} {h : Heap} (hm : wellspringref21_Drive_Sync_m d_0 R h) : Meets Tryz.prog 139 #[(.pointer d_0)] h R := fn_tie C_ok Tryz.func139 .n hm
end Go.Proofs.YtmaknfkhibljfaaGreat
