/- Part of the proofs that wellspringlaw14's laws answer true whatever the input reads, and leave it as it was; no condition. -/
import Derived.Test.YtkcplnfomahleaaGreatDoorTabA
set_option linter.unusedVariables false
set_option linter.unusedSimpArgs false
namespace Go.Proofs.YtkcplnfomahleaaGreatDoor
open Go Go.Vc Go.Proofs
set_option maxRecDepth 1000000
abbrev decode_right_id : FuncId := 34
noncomputable def decode_right_m (p_0 : Int × Int × Int) (x_1 : Int × Sl) (R : Value → Heap → Prop) (h : Heap) : Prop :=
  RunsA Tryz.prog (Instr.box 25 (.agg #[(.int .i64 p_0.1), (.int .i64 p_0.2.1), (.int .i64 p_0.2.2)])) h fun a1 h1 =>
  RunsA Tryz.prog (Instr.box 35 (.agg #[(.int .i64 x_1.1), (.slice x_1.2.ptr x_1.2.len x_1.2.cap)])) h1 fun a2 h2 =>
  ∃ x3 : Int, cellOf h2 a2 = some (.int .i64 x3) ∧
  Br (decide (x3 ≥ (0 : Int))) (∃ x4 : Int, cellOf h2 a2 = some (.int .i64 x4) ∧
  Br (decide (x4 ≤ (65535 : Int))) (∃ x5 : Sl, cellOf h2 (a2.add 1) = some (.slice x5.ptr x5.len x5.cap) ∧
  ∃ x6 : Int, cellOf h2 (a1.add 2) = some (.int .i64 x6) ∧
  R (.bool (((x5.len : Nat) : Int) == x6)) h2) (R (.bool false) h2)) (R (.bool false) h2)
theorem decode_right_run (p_0 : Int × Int × Int) (x_1 : Int × Sl) {R : Value → Heap → Prop} {h : Heap} (hm : decode_right_m p_0 x_1 R h) : Meets Tryz.prog 34 #[(.agg #[(.int .i64 p_0.1), (.int .i64 p_0.2.1), (.int .i64 p_0.2.2)]), (.agg #[(.int .i64 x_1.1), (.slice x_1.2.ptr x_1.2.len x_1.2.cap)])] h R := fn_tie C_ok Tryz.func34 .n hm
abbrev decode_ids_id : FuncId := 35
noncomputable def decode_ids_m (l_0 : Sl) (R : Value → Heap → Prop) (h : Heap) : Prop :=
  LoopM (σ := Sl × Int) (fun s1 K1 h1 =>
  Br (decide (s1.2 < ((l_0.len : Nat) : Int)))
  (∃ a2 : Addr, (l_0.ptr = some a2 ∧ 0 ≤ s1.2 ∧ s1.2 < ((l_0.len : Nat) : Int)) ∧
  ∃ x3 : Int × Sl, cellsAt h1 (a2.add (s1.2.toNat * 2)) 0 [(.int .i64 x3.1), (.slice x3.2.ptr x3.2.len x3.2.cap)] ∧
  RunsA Tryz.prog (Instr.alloc 35 true (.tuple #[])) h1 fun a4 h2 =>
  Runs Tryz.prog (Instr.storeAt 35 (.pointer (some a4)) (.agg #[(.int .i64 x3.1), (.slice x3.2.ptr x3.2.len x3.2.cap)])) h2 fun _ h3 =>
  ∃ x5 : Int, cellOf h3 a4 = some (.int .i64 x5) ∧
  RunsR Tryz.prog (Instr.buildSlice 41 1 #[(0, (.int .i64 x5))]) (.one (.sc .slc)) h3 fun v6 h4 =>
  RunsR Tryz.prog (Builtin.append_ #[41, 41] 41 #[(.slice s1.1.ptr s1.1.len s1.1.cap), (.slice v6.ptr v6.len v6.cap)]) (.one (.sc .slc)) h4 fun v7 h5 =>
  K1 ((⟨v7.ptr, v7.len, v7.cap⟩ : Sl), IntKind.wrap .i64 (s1.2 + (1 : Int))) h5)
  (R (.slice s1.1.ptr s1.1.len s1.1.cap) h1)) ((⟨none, 0, 0⟩ : Sl), (0 : Int)) h
theorem decode_ids_run (l_0 : Sl) {R : Value → Heap → Prop} {h : Heap} (hm : decode_ids_m l_0 R h) : Meets Tryz.prog 35 #[(.slice l_0.ptr l_0.len l_0.cap)] h R := fn_tie C_ok Tryz.func35 (.two .n (.two .n (.two (.two .n (.inn (.loop [(3, (.sc .slc)), (8, (.sc (.int .i64)))] [(3, 4), (5, 6), (8, 18)] .n))) .n))) hm
abbrev decode_mid_id : FuncId := 36
noncomputable def decode_mid_m (p_0 : Int × Int × Int) (seed_1 : Int) (l_2 : Sl) (R : Value → Heap → Prop) (h : Heap) : Prop :=
  RunsA Tryz.prog (Instr.box 25 (.agg #[(.int .i64 p_0.1), (.int .i64 p_0.2.1), (.int .i64 p_0.2.2)])) h fun a1 h1 =>
  LoopM (σ := Sl × Int) (fun s2 K1 h2 =>
  Br (decide (s2.2 < ((l_2.len : Nat) : Int)))
  (∃ a3 : Addr, (l_2.ptr = some a3 ∧ 0 ≤ s2.2 ∧ s2.2 < ((l_2.len : Nat) : Int)) ∧
  ∃ x4 : Int × Sl, cellsAt h2 (a3.add (s2.2.toNat * 2)) 0 [(.int .i64 x4.1), (.slice x4.2.ptr x4.2.len x4.2.cap)] ∧
  RunsA Tryz.prog (Instr.alloc 35 true (.tuple #[])) h2 fun a5 h3 =>
  Runs Tryz.prog (Instr.storeAt 35 (.pointer (some a5)) (.agg #[(.int .i64 x4.1), (.slice x4.2.ptr x4.2.len x4.2.cap)])) h3 fun _ h4 =>
  ∃ x6 : Int × Int × Int, cellsAt h4 a1 0 [(.int .i64 x6.1), (.int .i64 x6.2.1), (.int .i64 x6.2.2)] ∧
  ∃ x7 : Int, cellOf h4 a5 = some (.int .i64 x7) ∧
  ∃ x8 : Sl, cellOf h4 (a5.add 1) = some (.slice x8.ptr x8.len x8.cap) ∧
  CallM Tryz.prog 37 #[(.agg #[(.int .i64 x6.1), (.int .i64 x6.2.1), (.int .i64 x6.2.2)]), (.int .u32 seed_1), (.int .i64 x7)] (.one (.sc .slc)) h4 fun r9 h5 =>
  (Held.ok [(a5.add 1, (.slice x8.ptr x8.len x8.cap))] h5) ∧
  RunsR Tryz.prog (Instr.buildSlice 88 1 #[(0, (.agg #[(.slice r9.ptr r9.len r9.cap), (.slice x8.ptr x8.len x8.cap)]))]) (.one (.sc .slc)) h5 fun v10 h6 =>
  (Held.ok [(a5.add 1, (.slice x8.ptr x8.len x8.cap))] h6) ∧
  RunsR Tryz.prog (Builtin.append_ #[88, 88] 88 #[(.slice s2.1.ptr s2.1.len s2.1.cap), (.slice v10.ptr v10.len v10.cap)]) (.one (.sc .slc)) h6 fun v11 h7 =>
  (Held.ok [(a5.add 1, (.slice x8.ptr x8.len x8.cap))] h7) ∧
  K1 ((⟨v11.ptr, v11.len, v11.cap⟩ : Sl), IntKind.wrap .i64 (s2.2 + (1 : Int))) h7)
  (JoinM (σ := Option Addr) (fun s15 h10 =>
  ∃ x16 : Int × Int × Int, cellsAt h10 a1 0 [(.int .i64 x16.1), (.int .i64 x16.2.1), (.int .i64 x16.2.2)] ∧
  CallM Tryz.prog 28 #[(.agg #[(.int .i64 x16.1), (.int .i64 x16.2.1), (.int .i64 x16.2.2)])] (.one (.sc (.int .i64))) h10 fun r17 h11 =>
  CallM Tryz.prog 50 #[(.int .i64 r17), (.slice s2.1.ptr s2.1.len s2.1.cap)] (.many [(.sc .slc), (.sc .slc), (.sc .slc), (.sc (.int .i64))]) h11 fun r18 h12 =>
  Br (r18.2.2.2 != (0 : Int))
  (R (.tuple #[(.slice none 0 0), (.int .i64 (10 : Int))]) h12)
  (∃ a19 : Addr, (s15 = some a19) ∧
  Runs Tryz.prog (Instr.storeAt 70 (.pointer (some (a19.add 4))) (.slice r18.2.1.ptr r18.2.1.len r18.2.1.cap)) h12 fun _ h13 =>
  ∃ a20 : Addr, (s15 = some a20) ∧
  Runs Tryz.prog (Instr.storeAt 88 (.pointer (some (a20.add 5))) (.slice r18.2.2.1.ptr r18.2.2.1.len r18.2.2.1.cap)) h13 fun _ h14 =>
  CallM Tryz.prog 51 #[(.pointer s15), (.slice r18.1.ptr r18.1.len r18.1.cap)] (.many []) h14 fun _ h15 =>
  CallM Tryz.prog 52 #[(.pointer s15)] (.many []) h15 fun _ h16 =>
  CallM Tryz.prog 53 #[(.pointer s15)] (.many []) h16 fun _ h17 =>
  CallM Tryz.prog 54 #[(.pointer s15)] (.many [(.sc .slc), (.sc .slc)]) h17 fun r24 h18 =>
  ∃ a25 : Addr, (s15 = some a25) ∧
  ∃ x26 : Sl, cellOf h18 ((a25.add 6).add 1) = some (.slice x26.ptr x26.len x26.cap) ∧
  Br (((x26.len : Nat) : Int) == (0 : Int))
  (LoopM (σ := Int) (fun s27 K3 h19 =>
  Br (decide (s27 < ((r24.2.len : Nat) : Int)))
  (∃ a28 : Addr, (r24.2.ptr = some a28 ∧ 0 ≤ s27 ∧ s27 < ((r24.2.len : Nat) : Int)) ∧
  ∃ x29 : Sl, cellOf h19 (a28.add (s27.toNat * 1)) = some (.slice x29.ptr x29.len x29.cap) ∧
  CallM Tryz.prog 55 #[(.slice x29.ptr x29.len x29.cap), (.string str_0_)] (.one (.sc .slc)) h19 fun r30 h20 =>
  Br (decide (((r30.len : Nat) : Int) > (0 : Int)))
  (R (.tuple #[(.slice none 0 0), (.int .i64 (10 : Int))]) h20)
  (K3 (IntKind.wrap .i64 (s27 + (1 : Int))) h20))
  (CallM Tryz.prog 56 #[(.pointer s15), (.slice none 0 0)] (.many []) h19 fun _ h21 =>
  ∃ a32 : Addr, (s15 = some a32) ∧
  ∃ x33 : Sl, cellOf h21 (a32.add 4) = some (.slice x33.ptr x33.len x33.cap) ∧
  R (.tuple #[(.slice x33.ptr x33.len x33.cap), (.int .i64 (0 : Int))]) h21)) (0 : Int) h18)
  (∃ a34 : Addr, (s15 = some a34) ∧
  ∃ x35 : Option Addr, cellOf h18 a34 = some (.pointer x35) ∧
  CallM Tryz.prog 38 #[(.pointer x35), (.slice r24.1.ptr r24.1.len r24.1.cap), (.slice r24.2.ptr r24.2.len r24.2.cap)] (.many [(.sc .slc), (.sc (.int .i64))]) h18 fun r36 h22 =>
  Br (r36.2 != (0 : Int))
  (R (.tuple #[(.slice none 0 0), (.int .i64 (10 : Int))]) h22)
  (CallM Tryz.prog 56 #[(.pointer s15), (.slice r36.1.ptr r36.1.len r36.1.cap)] (.many []) h22 fun _ h23 =>
  ∃ a38 : Addr, (s15 = some a38) ∧
  ∃ x39 : Sl, cellOf h23 (a38.add 4) = some (.slice x39.ptr x39.len x39.cap) ∧
  R (.tuple #[(.slice x39.ptr x39.len x39.cap), (.int .i64 (0 : Int))]) h23))))
  (fun K2 =>
  ∃ x12 : Int × Int × Int, cellsAt h2 a1 0 [(.int .i64 x12.1), (.int .i64 x12.2.1), (.int .i64 x12.2.2)] ∧
  CallM Tryz.prog 39 #[] (.one (.sc .ptr)) h2 fun r13 h8 =>
  (Held.ok [(a1, (.int .i64 x12.1)), (a1.add 1, (.int .i64 x12.2.1)), (a1.add 2, (.int .i64 x12.2.2))] h8) ∧
  RunsA Tryz.prog (Instr.box 96 (.agg #[(.pointer r13), (.int .i64 x12.1), (.int .i64 x12.2.1), (.int .i64 x12.2.2), (.slice none 0 0), (.slice none 0 0), (.slice none 0 0), (.slice none 0 0), (.slice none 0 0), (.slice none 0 0), (.slice none 0 0)])) h8 fun a14 h9 =>
  (Held.ok [(a1, (.int .i64 x12.1)), (a1.add 1, (.int .i64 x12.2.1)), (a1.add 2, (.int .i64 x12.2.2))] h9) ∧
  K2 (some a14) h9))) ((⟨none, 0, 0⟩ : Sl), (0 : Int)) h1
theorem decode_mid_run (p_0 : Int × Int × Int) (seed_1 : Int) (l_2 : Sl) {R : Value → Heap → Prop} {h : Heap} (hm : decode_mid_m p_0 seed_1 l_2 R h) : Meets Tryz.prog 36 #[(.agg #[(.int .i64 p_0.1), (.int .i64 p_0.2.1), (.int .i64 p_0.2.2)]), (.int .u32 seed_1), (.slice l_2.ptr l_2.len l_2.cap)] h R := fn_tie C_ok Tryz.func36 (.two .n (.fwd (.two .n (.two (.two .n (.inn (.loop [(8, (.sc .slc)), (23, (.sc (.int .i64)))] [(8, 9), (10, 11), (23, 39)] .n))) (.two (.join [(11, (.sc .ptr))] [(11, 12), (39, 43)] .n) .n))) [(0, [.n]), (1, [(.two (.two .n (.inn (.loop [(95, (.sc (.int .i64)))] [(20, 21), (95, 104)] .n))) .n)]), (2, [.n])])) hm
abbrev lt_Cols_id : FuncId := 37
noncomputable def lt_Cols_m (p_0 : Int × Int × Int) (seed_1 : Int) (id_2 : Int) (R : Value → Heap → Prop) (h : Heap) : Prop :=
  RunsA Tryz.prog (Instr.box 25 (.agg #[(.int .i64 p_0.1), (.int .i64 p_0.2.1), (.int .i64 p_0.2.2)])) h fun a1 h1 =>
  JoinM (σ := Unit) (fun _ h3 =>
  ∃ x5 : Int × Int × Int, cellsAt h3 a1 0 [(.int .i64 x5.1), (.int .i64 x5.2.1), (.int .i64 x5.2.2)] ∧
  CallM Tryz.prog 28 #[(.agg #[(.int .i64 x5.1), (.int .i64 x5.2.1), (.int .i64 x5.2.2)])] (.one (.sc (.int .i64))) h3 fun r6 h4 =>
  CallM Tryz.prog 57 #[(.int .u32 (IntKind.wrap .u32 ((BitVec.ofInt (IntKind.bits .u32) seed_1 ^^^ (BitVec.ofInt (IntKind.bits .u32) (IntKind.wrap .u32 ((IntKind.wrap .u32 id_2) * (2654435761 : Int))))).toNat : Nat)))] (.one (.sc .ptr)) h4 fun r7 h5 =>
  CallM Tryz.prog 58 #[(.pointer r7)] (.one (.sc (.int .u32))) h5 fun _ h6 =>
  CallM Tryz.prog 60 #[(.int .i64 r6)] (.one (.sc .slc)) h6 fun r9 h7 =>
  CallM Tryz.prog 59 #[(.slice r9.ptr r9.len r9.cap), (.pointer r7)] (.one (.sc (.int .i64))) h7 fun r10 h8 =>
  CallM Tryz.prog 61 #[(.pointer r7), (.int .i64 r6), (.int .i64 r10)] (.one (.sc .slc)) h8 fun r11 h9 =>
  R (.slice r11.ptr r11.len r11.cap) h9)
  (fun K1 =>
  ∃ x2 : Int × Int × Int, cellsAt h1 a1 0 [(.int .i64 x2.1), (.int .i64 x2.2.1), (.int .i64 x2.2.2)] ∧
  CallM Tryz.prog 25 #[(.agg #[(.int .i64 x2.1), (.int .i64 x2.2.1), (.int .i64 x2.2.2)])] (.one (.sc .bool)) h1 fun r3 h2 =>
  Br (!r3) (R (.slice none 0 0) h2) (Br (decide (id_2 < (0 : Int))) (R (.slice none 0 0) h2) (Br (decide (id_2 > (65535 : Int)))
  (R (.slice none 0 0) h2)
  (K1 () h2))))
theorem lt_Cols_run (p_0 : Int × Int × Int) (seed_1 : Int) (id_2 : Int) {R : Value → Heap → Prop} {h : Heap} (hm : lt_Cols_m p_0 seed_1 id_2 R h) : Meets Tryz.prog 37 #[(.agg #[(.int .i64 p_0.1), (.int .i64 p_0.2.1), (.int .i64 p_0.2.2)]), (.int .u32 seed_1), (.int .i64 id_2)] h R := fn_tie C_ok Tryz.func37 (.two .n (.two (.join [] [(6, 7), (10, 21)] .n) .n)) hm
abbrev mat_Solve_id : FuncId := 38
noncomputable def mat_Solve_m (f_0 : Option Addr) (a_1 : Sl) (b_2 : Sl) (R : Value → Heap → Prop) (h : Heap) : Prop :=
  JoinM (σ := Unit) (fun _ h3 =>
  CallM Tryz.prog 63 #[(.slice a_1.ptr a_1.len a_1.cap)] (.one (.sc (.int .i64))) h3 fun r4 h4 =>
  CallM Tryz.prog 64 #[(.slice a_1.ptr a_1.len a_1.cap)] (.one (.sc .slc)) h4 fun r5 h5 =>
  LoopM (σ := Int) (fun s6 K2 h6 =>
  Br (decide (s6 < ((r5.len : Nat) : Int)))
  (∃ a7 : Addr, (r5.ptr = some a7 ∧ 0 ≤ s6 ∧ s6 < ((r5.len : Nat) : Int)) ∧
  ∃ x8 : Sl, cellOf h6 (a7.add (s6.toNat * 1)) = some (.slice x8.ptr x8.len x8.cap) ∧
  ∃ a9 : Addr, (b_2.ptr = some a9 ∧ 0 ≤ s6 ∧ s6 < ((b_2.len : Nat) : Int)) ∧
  ∃ x10 : Sl, cellOf h6 (a9.add (s6.toNat * 1)) = some (.slice x10.ptr x10.len x10.cap) ∧
  RunsR Tryz.prog (Builtin.append_ #[23, 23] 23 #[(.slice x8.ptr x8.len x8.cap), (.slice x10.ptr x10.len x10.cap)]) (.one (.sc .slc)) h6 fun v11 h7 =>
  (Held.ok [] h7) ∧
  ∃ a12 : Addr, (r5.ptr = some a12 ∧ 0 ≤ s6 ∧ s6 < ((r5.len : Nat) : Int)) ∧
  Runs Tryz.prog (Instr.storeAt 23 (.pointer (some (a12.add (s6.toNat * 1)))) (.slice v11.ptr v11.len v11.cap)) h7 fun _ h8 =>
  (Held.ok [] h8) ∧
  K2 (IntKind.wrap .i64 (s6 + (1 : Int))) h8)
  (CallM Tryz.prog 66 #[(.pointer f_0)] (.one (.sc .ptr)) h6 fun r13 h9 =>
  CallM Tryz.prog 65 #[(.pointer r13), (.slice r5.ptr r5.len r5.cap), (.int .i64 r4)] (.one (.sc (.int .i64))) h9 fun r14 h10 =>
  Br (decide (r14 < r4))
  (R (.tuple #[(.slice none 0 0), (.int .i64 (9 : Int))]) h10)
  ((0 ≤ r14 ∧ r14 ≤ ((r5.len : Nat) : Int)) ∧
  LoopM (σ := Int) (fun s15 K3 h11 =>
  Br (decide (s15 < (((r5.len - r14.toNat) : Nat) : Int)))
  (∃ a16 : Addr, ((if r5.cap = r14.toNat then r5.ptr else r5.ptr.map (·.add (r14.toNat * 1))) = some a16 ∧ 0 ≤ s15 ∧ s15 < (((r5.len - r14.toNat) : Nat) : Int)) ∧
  ∃ x17 : Sl, cellOf h11 (a16.add (s15.toNat * 1)) = some (.slice x17.ptr x17.len x17.cap) ∧
  CallM Tryz.prog 67 #[(.slice x17.ptr x17.len x17.cap)] (.one (.sc (.int .i64))) h11 fun r18 h12 =>
  Br (decide (r18 ≥ (0 : Int)))
  (R (.tuple #[(.slice none 0 0), (.int .i64 (10 : Int))]) h12)
  (K3 (IntKind.wrap .i64 (s15 + (1 : Int))) h12))
  ((0 ≤ r14 ∧ r14 ≤ ((r5.cap : Nat) : Int)) ∧
  LoopM (σ := Sl × Int) (fun s19 K4 h13 =>
  Br (decide (s19.2 < ((r14.toNat : Nat) : Int)))
  (∃ a20 : Addr, (r5.ptr = some a20 ∧ 0 ≤ s19.2 ∧ s19.2 < ((r14.toNat : Nat) : Int)) ∧
  ∃ x21 : Sl, cellOf h13 (a20.add (s19.2.toNat * 1)) = some (.slice x21.ptr x21.len x21.cap) ∧
  (0 ≤ r4 ∧ r4 ≤ ((x21.len : Nat) : Int)) ∧
  CallM Tryz.prog 47 #[(.slice (if x21.cap = r4.toNat then x21.ptr else x21.ptr.map (·.add (r4.toNat * 1))) (x21.len - r4.toNat) (x21.cap - r4.toNat))] (.one (.sc .slc)) h13 fun r22 h14 =>
  RunsR Tryz.prog (Instr.buildSlice 70 1 #[(0, (.slice r22.ptr r22.len r22.cap))]) (.one (.sc .slc)) h14 fun v23 h15 =>
  RunsR Tryz.prog (Builtin.append_ #[70, 70] 70 #[(.slice s19.1.ptr s19.1.len s19.1.cap), (.slice v23.ptr v23.len v23.cap)]) (.one (.sc .slc)) h15 fun v24 h16 =>
  K4 ((⟨v24.ptr, v24.len, v24.cap⟩ : Sl), IntKind.wrap .i64 (s19.2 + (1 : Int))) h16)
  (R (.tuple #[(.slice s19.1.ptr s19.1.len s19.1.cap), (.int .i64 (0 : Int))]) h13)) ((⟨none, 0, 0⟩ : Sl), (0 : Int)) h11)) (0 : Int) h10))) (0 : Int) h5)
  (fun K1 =>
  CallM Tryz.prog 62 #[(.slice a_1.ptr a_1.len a_1.cap)] (.one (.sc .bool)) h fun r1 h1 =>
  Br (!r1) (R (.tuple #[(.slice none 0 0), (.int .i64 (1 : Int))]) h1) (CallM Tryz.prog 62 #[(.slice b_2.ptr b_2.len b_2.cap)] (.one (.sc .bool)) h1 fun r2 h2 =>
  Br (!r2) (R (.tuple #[(.slice none 0 0), (.int .i64 (1 : Int))]) h2) (Br (((a_1.len : Nat) : Int) != ((b_2.len : Nat) : Int)) (R (.tuple #[(.slice none 0 0), (.int .i64 (1 : Int))]) h2) (Br (((a_1.len : Nat) : Int) == (0 : Int))
  (R (.tuple #[(.slice none 0 0), (.int .i64 (1 : Int))]) h2)
  (K1 () h2)))))
theorem mat_Solve_run (f_0 : Option Addr) (a_1 : Sl) (b_2 : Sl) {R : Value → Heap → Prop} {h : Heap} (hm : mat_Solve_m f_0 a_1 b_2 R h) : Meets Tryz.prog 38 #[(.pointer f_0), (.slice a_1.ptr a_1.len a_1.cap), (.slice b_2.ptr b_2.len b_2.cap)] h R := fn_tie C_ok Tryz.func38 (.two .n (.two (.join [] [(6, 8), (17, 37)] .n) (.two .n (.two .n (.two (.two .n (.inn (.loop [(43, (.sc (.int .i64)))] [(10, 11), (43, 59)] .n))) (.two .n (.two .n (.two (.two .n (.inn (.loop [(71, (.sc (.int .i64)))] [(6, 8), (13, 14), (71, 79)] .n))) (.two .n (.two (.two .n (.inn (.loop [(14, (.sc .slc)), (83, (.sc (.int .i64)))] [(14, 15), (16, 17), (83, 95)] .n))) .n)))))))))) hm
abbrev gf_New_id : FuncId := 39
noncomputable def gf_New_m  (R : Value → Heap → Prop) (h : Heap) : Prop :=
  CallM Tryz.prog 68 #[] (.one (.arr (.int .u8))) h fun r1 h1 =>
  RunsA Tryz.prog (Instr.alloc 117 true (.tuple #[])) h1 fun a2 h2 =>
  Runs Tryz.prog (Instr.storeAt 117 (.pointer (some a2)) (.agg (r1.map (Sc.enc (.int .u8))).toArray)) h2 fun _ h3 =>
  ∃ x3 : List (Int), (x3.length = 255 ∧ cellsAt h3 a2 0 (x3.map (Sc.enc (.int .u8)))) ∧
  ∃ x4 : List (Int), (x4.length = 255 ∧ cellsAt h3 a2 0 (x4.map (Sc.enc (.int .u8)))) ∧
  CallM Tryz.prog 69 #[(.agg (x4.map (Sc.enc (.int .u8))).toArray)] (.one (.arr (.int .i64))) h3 fun r5 h4 =>
  (Held.ok (cellList a2 0 (x3.map (Sc.enc (.int .u8))) []) h4) ∧
  ∃ v6 : Value, (AlwaysV Tryz.prog (Instr.build 122 #[(0, (.agg (x3.map (Sc.enc (.int .u8))).toArray)), (1, (.agg (r5.map (Sc.enc (.int .i64))).toArray))]) v6) ∧
  RunsA Tryz.prog (Instr.box 122 v6) h4 fun a7 h5 =>
  (Held.ok (cellList a2 0 (x3.map (Sc.enc (.int .u8))) []) h5) ∧
  R (.pointer (some a7)) h5
theorem gf_New_run  {R : Value → Heap → Prop} {h : Heap} (hm : gf_New_m  R h) : Meets Tryz.prog 39 #[] h R := fn_tie C_ok Tryz.func39 .n hm
abbrev system_Matrix_id : FuncId := 40
noncomputable def system_Matrix_m (p_0 : Int × Int × Int) (seed_1 : Int) (ids_2 : Sl) (R : Value → Heap → Prop) (h : Heap) : Prop :=
  RunsA Tryz.prog (Instr.box 25 (.agg #[(.int .i64 p_0.1), (.int .i64 p_0.2.1), (.int .i64 p_0.2.2)])) h fun a1 h1 =>
  ∃ x2 : Int × Int × Int, cellsAt h1 a1 0 [(.int .i64 x2.1), (.int .i64 x2.2.1), (.int .i64 x2.2.2)] ∧
  CallM Tryz.prog 70 #[(.agg #[(.int .i64 x2.1), (.int .i64 x2.2.1), (.int .i64 x2.2.2)])] (.one (.sc .slc)) h1 fun r3 h2 =>
  LoopM (σ := Sl × Int) (fun s4 K1 h3 =>
  Br (decide (s4.2 < ((ids_2.len : Nat) : Int)))
  (∃ a5 : Addr, (ids_2.ptr = some a5 ∧ 0 ≤ s4.2 ∧ s4.2 < ((ids_2.len : Nat) : Int)) ∧
  ∃ x6 : Int, cellOf h3 (a5.add (s4.2.toNat * 1)) = some (.int .i64 x6) ∧
  ∃ x7 : Int × Int × Int, cellsAt h3 a1 0 [(.int .i64 x7.1), (.int .i64 x7.2.1), (.int .i64 x7.2.2)] ∧
  CallM Tryz.prog 71 #[(.agg #[(.int .i64 x7.1), (.int .i64 x7.2.1), (.int .i64 x7.2.2)]), (.int .u32 seed_1), (.int .i64 x6)] (.one (.sc .slc)) h3 fun r8 h4 =>
  Br (!(Option.isNone r8.ptr))
  (RunsR Tryz.prog (Instr.buildSlice 70 1 #[(0, (.slice r8.ptr r8.len r8.cap))]) (.one (.sc .slc)) h4 fun v9 h5 =>
  RunsR Tryz.prog (Builtin.append_ #[70, 70] 70 #[(.slice s4.1.ptr s4.1.len s4.1.cap), (.slice v9.ptr v9.len v9.cap)]) (.one (.sc .slc)) h5 fun v10 h6 =>
  K1 ((⟨v10.ptr, v10.len, v10.cap⟩ : Sl), IntKind.wrap .i64 (s4.2 + (1 : Int))) h6)
  (K1 ((⟨s4.1.ptr, s4.1.len, s4.1.cap⟩ : Sl), IntKind.wrap .i64 (s4.2 + (1 : Int))) h4))
  (R (.slice s4.1.ptr s4.1.len s4.1.cap) h3)) ((⟨r3.ptr, r3.len, r3.cap⟩ : Sl), (0 : Int)) h2
theorem system_Matrix_run (p_0 : Int × Int × Int) (seed_1 : Int) (ids_2 : Sl) {R : Value → Heap → Prop} {h : Heap} (hm : system_Matrix_m p_0 seed_1 ids_2 R h) : Meets Tryz.prog 40 #[(.agg #[(.int .i64 p_0.1), (.int .i64 p_0.2.1), (.int .i64 p_0.2.2)]), (.int .u32 seed_1), (.slice ids_2.ptr ids_2.len ids_2.cap)] h R := fn_tie C_ok Tryz.func40 (.two .n (.two .n (.two (.two .n (.inn (.loop [(7, (.sc .slc)), (15, (.sc (.int .i64)))] [(7, 8), (9, 11), (15, 30)] .n))) .n))) hm
abbrev wellspringref01_May_id : FuncId := 41
noncomputable def wellspringref01_May_m (p_0 : Int × Int × Int) (R : Value → Heap → Prop) (h : Heap) : Prop :=
  RunsA Tryz.prog (Instr.box 25 (.agg #[(.int .i64 p_0.1), (.int .i64 p_0.2.1), (.int .i64 p_0.2.2)])) h fun a1 h1 =>
  ∃ x2 : Int, cellOf h1 a1 = some (.int .i64 x2) ∧
  Br (decide (x2 ≥ (1 : Int))) (∃ x3 : Int, cellOf h1 a1 = some (.int .i64 x3) ∧
  Br (decide (x3 ≤ (16 : Int))) (∃ x4 : Int, cellOf h1 (a1.add 1) = some (.int .i64 x4) ∧
  Br (decide (x4 ≥ (1 : Int))) (∃ x5 : Int, cellOf h1 (a1.add 1) = some (.int .i64 x5) ∧
  Br (decide (x5 ≤ (4 : Int))) (∃ x6 : Int, cellOf h1 (a1.add 2) = some (.int .i64 x6) ∧
  Br (decide (x6 ≥ (1 : Int))) (∃ x7 : Int, cellOf h1 (a1.add 2) = some (.int .i64 x7) ∧
  R (.bool (decide (x7 ≤ (24 : Int)))) h1) (R (.bool false) h1)) (R (.bool false) h1)) (R (.bool false) h1)) (R (.bool false) h1)) (R (.bool false) h1)
theorem wellspringref01_May_run (p_0 : Int × Int × Int) {R : Value → Heap → Prop} {h : Heap} (hm : wellspringref01_May_m p_0 R h) : Meets Tryz.prog 41 #[(.agg #[(.int .i64 p_0.1), (.int .i64 p_0.2.1), (.int .i64 p_0.2.2)])] h R := fn_tie C_ok Tryz.func41 .n hm
abbrev wellspringref01_MayID_id : FuncId := 42
noncomputable def wellspringref01_MayID_m (id_0 : Int) (R : Value → Heap → Prop) (h : Heap) : Prop :=
  Br (decide (id_0 ≥ (0 : Int))) (R (.bool (decide (id_0 ≤ (65535 : Int)))) h) (R (.bool false) h)
theorem wellspringref01_MayID_run (id_0 : Int) {R : Value → Heap → Prop} {h : Heap} (hm : wellspringref01_MayID_m id_0 R h) : Meets Tryz.prog 42 #[(.int .i64 id_0)] h R := fn_tie C_ok Tryz.func42 .n hm
abbrev wellspringref01_Solve_id : FuncId := 43
noncomputable def wellspringref01_Solve_m (a_0 : Sl) (b_1 : Sl) (R : Value → Heap → Prop) (h : Heap) : Prop :=
  JoinM (σ := Unit) (fun _ h3 =>
  ∃ a4 : Addr, (a_0.ptr = some a4 ∧ 0 ≤ (0 : Int) ∧ (0 : Int) < ((a_0.len : Nat) : Int)) ∧
  ∃ x5 : Sl, cellOf h3 (a4.add ((0 : Int).toNat * 1)) = some (.slice x5.ptr x5.len x5.cap) ∧
  CallM Tryz.prog 73 #[(.slice a_0.ptr a_0.len a_0.cap)] (.one (.sc (.int .i64))) h3 fun r6 h4 =>
  Br (decide (r6 < ((x5.len : Nat) : Int)))
  (R (.tuple #[(.slice none 0 0), (.int .i64 (9 : Int))]) h4)
  (LoopM (σ := Sl × Sl × Int) (fun s7 K2 h5 =>
  Br (decide (s7.2.2 < ((a_0.len : Nat) : Int)))
  (∃ a8 : Addr, (a_0.ptr = some a8 ∧ 0 ≤ s7.2.2 ∧ s7.2.2 < ((a_0.len : Nat) : Int)) ∧
  ∃ x9 : Sl, cellOf h5 (a8.add (s7.2.2.toNat * 1)) = some (.slice x9.ptr x9.len x9.cap) ∧
  ∃ a10 : Addr, (b_1.ptr = some a10 ∧ 0 ≤ s7.2.2 ∧ s7.2.2 < ((b_1.len : Nat) : Int)) ∧
  ∃ x11 : Sl, cellOf h5 (a10.add (s7.2.2.toNat * 1)) = some (.slice x11.ptr x11.len x11.cap) ∧
  RunsR Tryz.prog (Builtin.append_ #[23, 23] 23 #[(.slice none 0 0), (.slice x9.ptr x9.len x9.cap)]) (.one (.sc .slc)) h5 fun v12 h6 =>
  (Held.ok [(a10.add (s7.2.2.toNat * 1), (.slice x11.ptr x11.len x11.cap))] h6) ∧
  RunsR Tryz.prog (Instr.buildSlice 70 1 #[(0, (.slice v12.ptr v12.len v12.cap))]) (.one (.sc .slc)) h6 fun v13 h7 =>
  (Held.ok [(a10.add (s7.2.2.toNat * 1), (.slice x11.ptr x11.len x11.cap))] h7) ∧
  RunsR Tryz.prog (Builtin.append_ #[70, 70] 70 #[(.slice s7.1.ptr s7.1.len s7.1.cap), (.slice v13.ptr v13.len v13.cap)]) (.one (.sc .slc)) h7 fun v14 h8 =>
  (Held.ok [(a10.add (s7.2.2.toNat * 1), (.slice x11.ptr x11.len x11.cap))] h8) ∧
  RunsR Tryz.prog (Builtin.append_ #[23, 23] 23 #[(.slice none 0 0), (.slice x11.ptr x11.len x11.cap)]) (.one (.sc .slc)) h8 fun v15 h9 =>
  (Held.ok [] h9) ∧
  RunsR Tryz.prog (Instr.buildSlice 70 1 #[(0, (.slice v15.ptr v15.len v15.cap))]) (.one (.sc .slc)) h9 fun v16 h10 =>
  (Held.ok [] h10) ∧
  RunsR Tryz.prog (Builtin.append_ #[70, 70] 70 #[(.slice s7.2.1.ptr s7.2.1.len s7.2.1.cap), (.slice v16.ptr v16.len v16.cap)]) (.one (.sc .slc)) h10 fun v17 h11 =>
  (Held.ok [] h11) ∧
  K2 ((⟨v14.ptr, v14.len, v14.cap⟩ : Sl), (⟨v17.ptr, v17.len, v17.cap⟩ : Sl), IntKind.wrap .i64 (s7.2.2 + (1 : Int))) h11)
  (LoopM (σ := Int) (fun s18 K3 h12 =>
  Br (decide (s18 < ((x5.len : Nat) : Int)))
  (LoopM (σ := Int) (fun s19 K4 h13 =>
  ∃ a20 : Addr, (s7.1.ptr = some a20 ∧ 0 ≤ s19 ∧ s19 < ((s7.1.len : Nat) : Int)) ∧
  ∃ x21 : Sl, cellOf h13 (a20.add (s19.toNat * 1)) = some (.slice x21.ptr x21.len x21.cap) ∧
  ∃ a22 : Addr, (x21.ptr = some a22 ∧ 0 ≤ s18 ∧ s18 < ((x21.len : Nat) : Int)) ∧
  ∃ x23 : Int, cellOf h13 (a22.add (s18.toNat * 1)) = some (.int .u8 x23) ∧
  Br (x23 == (0 : Int))
  (K4 (IntKind.wrap .i64 (s19 + (1 : Int))) h13)
  (JoinM (σ := Unit) (fun _ h18 =>
  ∃ a37 : Addr, (s7.1.ptr = some a37 ∧ 0 ≤ s18 ∧ s18 < ((s7.1.len : Nat) : Int)) ∧
  ∃ x38 : Sl, cellOf h18 (a37.add (s18.toNat * 1)) = some (.slice x38.ptr x38.len x38.cap) ∧
  ∃ a39 : Addr, (x38.ptr = some a39 ∧ 0 ≤ s18 ∧ s18 < ((x38.len : Nat) : Int)) ∧
  ∃ x40 : Int, cellOf h18 (a39.add (s18.toNat * 1)) = some (.int .u8 x40) ∧
  CallM Tryz.prog 74 #[(.int .u8 x40)] (.one (.sc (.int .u8))) h18 fun r41 h19 =>
  JoinM (σ := Unit) (fun _ h24 =>
  LoopM (σ := Int) (fun s51 K7 h25 =>
  Br (decide (s51 < ((s7.1.len : Nat) : Int)))
  (∃ a52 : Addr, (s7.1.ptr = some a52 ∧ 0 ≤ s51 ∧ s51 < ((s7.1.len : Nat) : Int)) ∧
  ∃ x53 : Sl, cellOf h25 (a52.add (s51.toNat * 1)) = some (.slice x53.ptr x53.len x53.cap) ∧
  ∃ a54 : Addr, (x53.ptr = some a54 ∧ 0 ≤ s18 ∧ s18 < ((x53.len : Nat) : Int)) ∧
  ∃ x55 : Int, cellOf h25 (a54.add (s18.toNat * 1)) = some (.int .u8 x55) ∧
  JoinM (σ := Bool) (fun s56 h26 =>
  Br s56
  (∃ a57 : Addr, (s7.1.ptr = some a57 ∧ 0 ≤ s18 ∧ s18 < ((s7.1.len : Nat) : Int)) ∧
  ∃ x58 : Sl, cellOf h26 (a57.add (s18.toNat * 1)) = some (.slice x58.ptr x58.len x58.cap) ∧
  ∃ a59 : Addr, (s7.1.ptr = some a59 ∧ 0 ≤ s51 ∧ s51 < ((s7.1.len : Nat) : Int)) ∧
  ∃ x60 : Sl, cellOf h26 (a59.add (s51.toNat * 1)) = some (.slice x60.ptr x60.len x60.cap) ∧
  ∃ a61 : Addr, (s7.2.1.ptr = some a61 ∧ 0 ≤ s18 ∧ s18 < ((s7.2.1.len : Nat) : Int)) ∧
  ∃ x62 : Sl, cellOf h26 (a61.add (s18.toNat * 1)) = some (.slice x62.ptr x62.len x62.cap) ∧
  ∃ a63 : Addr, (s7.2.1.ptr = some a63 ∧ 0 ≤ s51 ∧ s51 < ((s7.2.1.len : Nat) : Int)) ∧
  ∃ x64 : Sl, cellOf h26 (a63.add (s51.toNat * 1)) = some (.slice x64.ptr x64.len x64.cap) ∧
  CallM Tryz.prog 76 #[(.int .u8 x55), (.slice x58.ptr x58.len x58.cap), (.slice x60.ptr x60.len x60.cap)] (.one (.sc .slc)) h26 fun r65 h27 =>
  (Held.ok [(a63.add (s51.toNat * 1), (.slice x64.ptr x64.len x64.cap)), (a61.add (s18.toNat * 1), (.slice x62.ptr x62.len x62.cap))] h27) ∧
  CallM Tryz.prog 76 #[(.int .u8 x55), (.slice x62.ptr x62.len x62.cap), (.slice x64.ptr x64.len x64.cap)] (.one (.sc .slc)) h27 fun r66 h28 =>
  (Held.ok [] h28) ∧
  ∃ a67 : Addr, (s7.1.ptr = some a67 ∧ 0 ≤ s51 ∧ s51 < ((s7.1.len : Nat) : Int)) ∧
  Runs Tryz.prog (Instr.storeAt 23 (.pointer (some (a67.add (s51.toNat * 1)))) (.slice r65.ptr r65.len r65.cap)) h28 fun _ h29 =>
  (Held.ok [] h29) ∧
  ∃ a68 : Addr, (s7.2.1.ptr = some a68 ∧ 0 ≤ s51 ∧ s51 < ((s7.2.1.len : Nat) : Int)) ∧
  Runs Tryz.prog (Instr.storeAt 23 (.pointer (some (a68.add (s51.toNat * 1)))) (.slice r66.ptr r66.len r66.cap)) h29 fun _ h30 =>
  (Held.ok [] h30) ∧
  K7 (IntKind.wrap .i64 (s51 + (1 : Int))) h30)
  (K7 (IntKind.wrap .i64 (s51 + (1 : Int))) h26))
  (fun K8 =>
  Br (s51 != s18) (K8 (x55 != (0 : Int)) h25) (K8 false h25)))
  (K3 (IntKind.wrap .i64 (s18 + (1 : Int))) h25)) (0 : Int) h24)
  (fun K6 =>
  ∃ a42 : Addr, (s7.1.ptr = some a42 ∧ 0 ≤ s18 ∧ s18 < ((s7.1.len : Nat) : Int)) ∧
  ∃ x43 : Sl, cellOf h19 (a42.add (s18.toNat * 1)) = some (.slice x43.ptr x43.len x43.cap) ∧
  ∃ a44 : Addr, (s7.2.1.ptr = some a44 ∧ 0 ≤ s18 ∧ s18 < ((s7.2.1.len : Nat) : Int)) ∧
  ∃ x45 : Sl, cellOf h19 (a44.add (s18.toNat * 1)) = some (.slice x45.ptr x45.len x45.cap) ∧
  CallM Tryz.prog 75 #[(.int .u8 r41), (.slice x43.ptr x43.len x43.cap)] (.one (.sc .slc)) h19 fun r46 h20 =>
  (Held.ok [(a44.add (s18.toNat * 1), (.slice x45.ptr x45.len x45.cap))] h20) ∧
  CallM Tryz.prog 75 #[(.int .u8 r41), (.slice x45.ptr x45.len x45.cap)] (.one (.sc .slc)) h20 fun r47 h21 =>
  (Held.ok [] h21) ∧
  ∃ a48 : Addr, (s7.1.ptr = some a48 ∧ 0 ≤ s18 ∧ s18 < ((s7.1.len : Nat) : Int)) ∧
  Runs Tryz.prog (Instr.storeAt 23 (.pointer (some (a48.add (s18.toNat * 1)))) (.slice r46.ptr r46.len r46.cap)) h21 fun _ h22 =>
  (Held.ok [] h22) ∧
  ∃ a49 : Addr, (s7.2.1.ptr = some a49 ∧ 0 ≤ s18 ∧ s18 < ((s7.2.1.len : Nat) : Int)) ∧
  Runs Tryz.prog (Instr.storeAt 23 (.pointer (some (a49.add (s18.toNat * 1)))) (.slice r47.ptr r47.len r47.cap)) h22 fun _ h23 =>
  (Held.ok [] h23) ∧
  K6 () h23))
  (fun K5 =>
  ∃ a24 : Addr, (s7.1.ptr = some a24 ∧ 0 ≤ s18 ∧ s18 < ((s7.1.len : Nat) : Int)) ∧
  ∃ x25 : Sl, cellOf h13 (a24.add (s18.toNat * 1)) = some (.slice x25.ptr x25.len x25.cap) ∧
  ∃ a26 : Addr, (s7.1.ptr = some a26 ∧ 0 ≤ s19 ∧ s19 < ((s7.1.len : Nat) : Int)) ∧
  ∃ x27 : Sl, cellOf h13 (a26.add (s19.toNat * 1)) = some (.slice x27.ptr x27.len x27.cap) ∧
  ∃ a28 : Addr, (s7.2.1.ptr = some a28 ∧ 0 ≤ s18 ∧ s18 < ((s7.2.1.len : Nat) : Int)) ∧
  ∃ x29 : Sl, cellOf h13 (a28.add (s18.toNat * 1)) = some (.slice x29.ptr x29.len x29.cap) ∧
  ∃ a30 : Addr, (s7.2.1.ptr = some a30 ∧ 0 ≤ s19 ∧ s19 < ((s7.2.1.len : Nat) : Int)) ∧
  ∃ x31 : Sl, cellOf h13 (a30.add (s19.toNat * 1)) = some (.slice x31.ptr x31.len x31.cap) ∧
  ∃ a32 : Addr, (s7.1.ptr = some a32 ∧ 0 ≤ s19 ∧ s19 < ((s7.1.len : Nat) : Int)) ∧
  Runs Tryz.prog (Instr.storeAt 23 (.pointer (some (a32.add (s19.toNat * 1)))) (.slice x25.ptr x25.len x25.cap)) h13 fun _ h14 =>
  (Held.ok [] h14) ∧
  ∃ a33 : Addr, (s7.1.ptr = some a33 ∧ 0 ≤ s18 ∧ s18 < ((s7.1.len : Nat) : Int)) ∧
  Runs Tryz.prog (Instr.storeAt 23 (.pointer (some (a33.add (s18.toNat * 1)))) (.slice x27.ptr x27.len x27.cap)) h14 fun _ h15 =>
  (Held.ok [] h15) ∧
  ∃ a34 : Addr, (s7.2.1.ptr = some a34 ∧ 0 ≤ s19 ∧ s19 < ((s7.2.1.len : Nat) : Int)) ∧
  Runs Tryz.prog (Instr.storeAt 23 (.pointer (some (a34.add (s19.toNat * 1)))) (.slice x29.ptr x29.len x29.cap)) h15 fun _ h16 =>
  (Held.ok [] h16) ∧
  ∃ a35 : Addr, (s7.2.1.ptr = some a35 ∧ 0 ≤ s18 ∧ s18 < ((s7.2.1.len : Nat) : Int)) ∧
  Runs Tryz.prog (Instr.storeAt 23 (.pointer (some (a35.add (s18.toNat * 1)))) (.slice x31.ptr x31.len x31.cap)) h16 fun _ h17 =>
  (Held.ok [] h17) ∧
  K5 () h17))) s18 h12)
  (LoopM (σ := Int) (fun s69 K9 h31 =>
  Br (decide (s69 < ((s7.2.1.len : Nat) : Int)))
  (∃ a70 : Addr, (s7.2.1.ptr = some a70 ∧ 0 ≤ s69 ∧ s69 < ((s7.2.1.len : Nat) : Int)) ∧
  ∃ x71 : Sl, cellOf h31 (a70.add (s69.toNat * 1)) = some (.slice x71.ptr x71.len x71.cap) ∧
  CallM Tryz.prog 77 #[(.slice x71.ptr x71.len x71.cap)] (.one (.sc (.int .i64))) h31 fun r72 h32 =>
  Br (decide (r72 ≥ (0 : Int)))
  (R (.tuple #[(.slice none 0 0), (.int .i64 (10 : Int))]) h32)
  (K9 (IntKind.wrap .i64 (s69 + (1 : Int))) h32))
  ((0 ≤ ((x5.len : Nat) : Int) ∧ ((x5.len : Nat) : Int) ≤ ((s7.2.1.cap : Nat) : Int)) ∧
  R (.tuple #[(.slice s7.2.1.ptr (((x5.len : Nat) : Int).toNat) s7.2.1.cap), (.int .i64 (0 : Int))]) h31)) ((x5.len : Nat) : Int) h12)) (0 : Int) h5)) ((⟨none, 0, 0⟩ : Sl), (⟨none, 0, 0⟩ : Sl), (0 : Int)) h4))
  (fun K1 =>
  CallM Tryz.prog 72 #[(.slice a_0.ptr a_0.len a_0.cap)] (.one (.sc .bool)) h fun r1 h1 =>
  Br (!r1) (R (.tuple #[(.slice none 0 0), (.int .i64 (1 : Int))]) h1) (CallM Tryz.prog 72 #[(.slice b_1.ptr b_1.len b_1.cap)] (.one (.sc .bool)) h1 fun r2 h2 =>
  Br (!r2) (R (.tuple #[(.slice none 0 0), (.int .i64 (1 : Int))]) h2) (Br (((a_0.len : Nat) : Int) != ((b_1.len : Nat) : Int)) (R (.tuple #[(.slice none 0 0), (.int .i64 (1 : Int))]) h2) (Br (((a_0.len : Nat) : Int) == (0 : Int))
  (R (.tuple #[(.slice none 0 0), (.int .i64 (1 : Int))]) h2)
  (K1 () h2)))))
theorem wellspringref01_Solve_run (a_0 : Sl) (b_1 : Sl) {R : Value → Heap → Prop} {h : Heap} (hm : wellspringref01_Solve_m a_0 b_1 R h) : Meets Tryz.prog 43 #[(.slice a_0.ptr a_0.len a_0.cap), (.slice b_1.ptr b_1.len b_1.cap)] h R := fn_tie C_ok Tryz.func43 (.two .n (.two (.join [] [(4, 6), (16, 36)] .n) (.two .n (.two .n (.two .n (.two (.two .n (.inn (.loop [(7, (.sc .slc)), (8, (.sc .slc)), (46, (.sc (.int .i64)))] [(7, 10), (46, 66)] .n))) (.two (.two .n (.inn (.loop [(10, (.sc (.int .i64)))] [(10, 15), (66, 182)] (.two .n (.two (.inn (.two .n (.two (.inn (.loop [(11, (.sc (.int .i64)))] [(11, 12), (72, 82)] .n)) (.two (.join [] [(82, 110)] .n) (.two .n (.two (.join [] [(118, 136)] .n) (.two .n (.inn (.loop [(138, (.sc (.int .i64)))] [(13, 15), (138, 182)] (.two .n (.two .n (.two (.inn (.two .n (.two .n (.two (.join [(154, (.sc .bool))] [(148, 155)] .n) .n)))) .n)))))))))))) .n))))) (.two (.two .n (.inn (.loop [(15, (.sc (.int .i64)))] [(4, 6), (15, 16), (183, 195)] .n))) .n)))))))) hm
abbrev wellspringref01_Matrix_id : FuncId := 44
noncomputable def wellspringref01_Matrix_m (p_0 : Int × Int × Int) (seed_1 : Int) (ids_2 : Sl) (R : Value → Heap → Prop) (h : Heap) : Prop :=
  RunsA Tryz.prog (Instr.box 25 (.agg #[(.int .i64 p_0.1), (.int .i64 p_0.2.1), (.int .i64 p_0.2.2)])) h fun a1 h1 =>
  ∃ x2 : Int × Int × Int, cellsAt h1 a1 0 [(.int .i64 x2.1), (.int .i64 x2.2.1), (.int .i64 x2.2.2)] ∧
  CallM Tryz.prog 41 #[(.agg #[(.int .i64 x2.1), (.int .i64 x2.2.1), (.int .i64 x2.2.2)])] (.one (.sc .bool)) h1 fun r3 h2 =>
  Br (!r3)
  (R (.slice none 0 0) h2)
  (∃ x4 : Int × Int × Int, cellsAt h2 a1 0 [(.int .i64 x4.1), (.int .i64 x4.2.1), (.int .i64 x4.2.2)] ∧
  CallM Tryz.prog 78 #[(.agg #[(.int .i64 x4.1), (.int .i64 x4.2.1), (.int .i64 x4.2.2)])] (.one (.sc .slc)) h2 fun r5 h3 =>
  LoopM (σ := Sl × Int) (fun s6 K1 h4 =>
  Br (decide (s6.2 < ((ids_2.len : Nat) : Int)))
  (∃ a7 : Addr, (ids_2.ptr = some a7 ∧ 0 ≤ s6.2 ∧ s6.2 < ((ids_2.len : Nat) : Int)) ∧
  ∃ x8 : Int, cellOf h4 (a7.add (s6.2.toNat * 1)) = some (.int .i64 x8) ∧
  CallM Tryz.prog 42 #[(.int .i64 x8)] (.one (.sc .bool)) h4 fun r9 h5 =>
  Br r9
  (∃ x10 : Int × Int × Int, cellsAt h5 a1 0 [(.int .i64 x10.1), (.int .i64 x10.2.1), (.int .i64 x10.2.2)] ∧
  CallM Tryz.prog 79 #[(.agg #[(.int .i64 x10.1), (.int .i64 x10.2.1), (.int .i64 x10.2.2)]), (.int .u32 seed_1), (.int .i64 x8)] (.one (.sc .slc)) h5 fun r11 h6 =>
  RunsR Tryz.prog (Instr.buildSlice 70 1 #[(0, (.slice r11.ptr r11.len r11.cap))]) (.one (.sc .slc)) h6 fun v12 h7 =>
  RunsR Tryz.prog (Builtin.append_ #[70, 70] 70 #[(.slice s6.1.ptr s6.1.len s6.1.cap), (.slice v12.ptr v12.len v12.cap)]) (.one (.sc .slc)) h7 fun v13 h8 =>
  K1 ((⟨v13.ptr, v13.len, v13.cap⟩ : Sl), IntKind.wrap .i64 (s6.2 + (1 : Int))) h8)
  (K1 ((⟨s6.1.ptr, s6.1.len, s6.1.cap⟩ : Sl), IntKind.wrap .i64 (s6.2 + (1 : Int))) h5))
  (R (.slice s6.1.ptr s6.1.len s6.1.cap) h4)) ((⟨r5.ptr, r5.len, r5.cap⟩ : Sl), (0 : Int)) h3)
theorem wellspringref01_Matrix_run (p_0 : Int × Int × Int) (seed_1 : Int) (ids_2 : Sl) {R : Value → Heap → Prop} {h : Heap} (hm : wellspringref01_Matrix_m p_0 seed_1 ids_2 R h) : Meets Tryz.prog 44 #[(.agg #[(.int .i64 p_0.1), (.int .i64 p_0.2.1), (.int .i64 p_0.2.2)]), (.int .u32 seed_1), (.slice ids_2.ptr ids_2.len ids_2.cap)] h R := fn_tie C_ok Tryz.func44 (.two .n (.two .n (.two .n (.two (.two .n (.inn (.loop [(7, (.sc .slc)), (17, (.sc (.int .i64)))] [(7, 8), (9, 10), (17, 31)] .n))) .n)))) hm
abbrev wellspringref11_Add_id : FuncId := 45
noncomputable def wellspringref11_Add_m (p_0 : Int × Int × Int) (mid_1 : Sl) (at_2 : Sl) (R : Value → Heap → Prop) (h : Heap) : Prop :=
  RunsA Tryz.prog (Instr.box 25 (.agg #[(.int .i64 p_0.1), (.int .i64 p_0.2.1), (.int .i64 p_0.2.2)])) h fun a1 h1 =>
  ∃ x2 : Int, cellOf h1 (a1.add 2) = some (.int .i64 x2) ∧
  RunsR Tryz.prog (Instr.makeSlice 23 (.int .i64 x2) (.int .i64 x2)) (.one (.sc .slc)) h1 fun v3 h2 =>
  LoopM (σ := Sl × Int) (fun s4 K1 h3 =>
  Br (decide (s4.2 < ((at_2.len : Nat) : Int)))
  (∃ a5 : Addr, (at_2.ptr = some a5 ∧ 0 ≤ s4.2 ∧ s4.2 < ((at_2.len : Nat) : Int)) ∧
  ∃ x6 : Int, cellOf h3 (a5.add (s4.2.toNat * 1)) = some (.int .i64 x6) ∧
  ∃ a7 : Addr, (mid_1.ptr = some a7 ∧ 0 ≤ x6 ∧ x6 < ((mid_1.len : Nat) : Int)) ∧
  ∃ x8 : Sl, cellOf h3 (a7.add (x6.toNat * 1)) = some (.slice x8.ptr x8.len x8.cap) ∧
  CallM Tryz.prog 80 #[(.slice x8.ptr x8.len x8.cap), (.slice s4.1.ptr s4.1.len s4.1.cap)] (.one (.sc .slc)) h3 fun r9 h4 =>
  K1 ((⟨r9.ptr, r9.len, r9.cap⟩ : Sl), IntKind.wrap .i64 (s4.2 + (1 : Int))) h4)
  (R (.slice s4.1.ptr s4.1.len s4.1.cap) h3)) ((⟨v3.ptr, v3.len, v3.cap⟩ : Sl), (0 : Int)) h2
theorem wellspringref11_Add_run (p_0 : Int × Int × Int) (mid_1 : Sl) (at_2 : Sl) {R : Value → Heap → Prop} {h : Heap} (hm : wellspringref11_Add_m p_0 mid_1 at_2 R h) : Meets Tryz.prog 45 #[(.agg #[(.int .i64 p_0.1), (.int .i64 p_0.2.1), (.int .i64 p_0.2.2)]), (.slice mid_1.ptr mid_1.len mid_1.cap), (.slice at_2.ptr at_2.len at_2.cap)] h R := fn_tie C_ok Tryz.func45 (.two .n (.two .n (.two (.two .n (.inn (.loop [(7, (.sc .slc)), (15, (.sc (.int .i64)))] [(7, 8), (9, 10), (15, 26)] .n))) .n))) hm
abbrev wellspringref01_At_id : FuncId := 46
noncomputable def wellspringref01_At_m (p_0 : Int × Int × Int) (seed_1 : Int) (id_2 : Int) (R : Value → Heap → Prop) (h : Heap) : Prop :=
  RunsA Tryz.prog (Instr.box 25 (.agg #[(.int .i64 p_0.1), (.int .i64 p_0.2.1), (.int .i64 p_0.2.2)])) h fun a1 h1 =>
  JoinM (σ := Unit) (fun _ h4 =>
  RunsA Tryz.prog (Instr.box 132 (.agg #[(.int .u64 (IntKind.wrap .u64 (IntKind.wrap .u32 ((BitVec.ofInt (IntKind.bits .u32) seed_1 ^^^ (BitVec.ofInt (IntKind.bits .u32) (IntKind.wrap .u32 ((IntKind.wrap .u32 id_2) * (2654435761 : Int))))).toNat : Nat))))])) h4 fun a6 h5 =>
  CallM Tryz.prog 81 #[(.pointer (some a6))] (.one (.sc (.int .u32))) h5 fun _ h6 =>
  ∃ x8 : Int × Int × Int, cellsAt h6 a1 0 [(.int .i64 x8.1), (.int .i64 x8.2.1), (.int .i64 x8.2.2)] ∧
  CallM Tryz.prog 84 #[(.agg #[(.int .i64 x8.1), (.int .i64 x8.2.1), (.int .i64 x8.2.2)])] (.one (.sc (.int .i64))) h6 fun r9 h7 =>
  CallM Tryz.prog 83 #[(.int .i64 r9)] (.one (.sc .slc)) h7 fun r10 h8 =>
  CallM Tryz.prog 82 #[(.slice r10.ptr r10.len r10.cap), (.pointer (some a6))] (.one (.sc (.int .i64))) h8 fun r11 h9 =>
  ∃ x12 : Int × Int × Int, cellsAt h9 a1 0 [(.int .i64 x12.1), (.int .i64 x12.2.1), (.int .i64 x12.2.2)] ∧
  CallM Tryz.prog 84 #[(.agg #[(.int .i64 x12.1), (.int .i64 x12.2.1), (.int .i64 x12.2.2)])] (.one (.sc (.int .i64))) h9 fun r13 h10 =>
  CallM Tryz.prog 85 #[(.pointer (some a6)), (.int .i64 r13), (.int .i64 r11)] (.one (.sc .slc)) h10 fun r14 h11 =>
  R (.slice r14.ptr r14.len r14.cap) h11)
  (fun K1 =>
  ∃ x2 : Int × Int × Int, cellsAt h1 a1 0 [(.int .i64 x2.1), (.int .i64 x2.2.1), (.int .i64 x2.2.2)] ∧
  CallM Tryz.prog 41 #[(.agg #[(.int .i64 x2.1), (.int .i64 x2.2.1), (.int .i64 x2.2.2)])] (.one (.sc .bool)) h1 fun r3 h2 =>
  Br (!r3) (R (.slice none 0 0) h2) (CallM Tryz.prog 42 #[(.int .i64 id_2)] (.one (.sc .bool)) h2 fun r4 h3 =>
  Br (!r4)
  (R (.slice none 0 0) h3)
  (K1 () h3)))
theorem wellspringref01_At_run (p_0 : Int × Int × Int) (seed_1 : Int) (id_2 : Int) {R : Value → Heap → Prop} {h : Heap} (hm : wellspringref01_At_m p_0 seed_1 id_2 R h) : Meets Tryz.prog 46 #[(.agg #[(.int .i64 p_0.1), (.int .i64 p_0.2.1), (.int .i64 p_0.2.2)]), (.int .u32 seed_1), (.int .i64 id_2)] h R := fn_tie C_ok Tryz.func46 (.two .n (.two (.join [] [(6, 7), (9, 17)] .n) .n)) hm
abbrev bytes_Clone_id : FuncId := 47
noncomputable def bytes_Clone_m (b_0 : Sl) (R : Value → Heap → Prop) (h : Heap) : Prop :=
  Br (Option.isNone b_0.ptr)
  (R (.slice none 0 0) h)
  (RunsR Tryz.prog (Instr.buildSlice 23 0 #[]) (.one (.sc .slc)) h fun v1 h1 =>
  RunsR Tryz.prog (Builtin.append_ #[23, 23] 23 #[(.slice v1.ptr v1.len v1.cap), (.slice b_0.ptr b_0.len b_0.cap)]) (.one (.sc .slc)) h1 fun v2 h2 =>
  R (.slice v2.ptr v2.len v2.cap) h2)
theorem bytes_Clone_run (b_0 : Sl) {R : Value → Heap → Prop} {h : Heap} (hm : bytes_Clone_m b_0 R h) : Meets Tryz.prog 47 #[(.slice b_0.ptr b_0.len b_0.cap)] h R := fn_tie C_ok Tryz.func47 .n hm
abbrev mat_Rank_id : FuncId := 48
noncomputable def mat_Rank_m (f_0 : Option Addr) (a_1 : Sl) (R : Value → Heap → Prop) (h : Heap) : Prop :=
  CallM Tryz.prog 86 #[(.pointer f_0), (.slice a_1.ptr a_1.len a_1.cap)] (.one (.sc .slc)) h fun r1 h1 =>
  R (.int .i64 ((r1.len : Nat) : Int)) h1
theorem mat_Rank_run (f_0 : Option Addr) (a_1 : Sl) {R : Value → Heap → Prop} {h : Heap} (hm : mat_Rank_m f_0 a_1 R h) : Meets Tryz.prog 48 #[(.pointer f_0), (.slice a_1.ptr a_1.len a_1.cap)] h R := fn_tie C_ok Tryz.func48 .n hm
noncomputable def slices_IndexFunc_api_Symbol_api_Symbol_m (s_0 : Sl) (f_1 : FuncId × Array Value) (R : Value → Heap → Prop) (h : Heap) : Prop :=
  LoopM (σ := Int) (fun s1 K1 h1 =>
  Br (decide (s1 < ((s_0.len : Nat) : Int)))
  (∃ a2 : Addr, (s_0.ptr = some a2 ∧ 0 ≤ s1 ∧ s1 < ((s_0.len : Nat) : Int)) ∧
  ∃ x3 : Int × Sl, cellsAt h1 (a2.add (s1.toNat * 2)) 0 [(.int .i64 x3.1), (.slice x3.2.ptr x3.2.len x3.2.cap)] ∧
  DynM C f_1.1 ([(.agg #[(.int .i64 x3.1), (.slice x3.2.ptr x3.2.len x3.2.cap)])] ++ f_1.2.toList) (.one (.sc .bool)) h1 fun r4 h2 =>
  Br r4
  (R (.int .i64 s1) h2)
  (K1 (IntKind.wrap .i64 (s1 + (1 : Int))) h2))
  (R (.int .i64 (-1 : Int)) h1)) (0 : Int) h
theorem slices_IndexFunc_api_Symbol_api_Symbol_run (s_0 : Sl) (f_1 : FuncId × Array Value) {R : Value → Heap → Prop} {h : Heap} (hm : slices_IndexFunc_api_Symbol_api_Symbol_m s_0 f_1 R h) : Meets Tryz.prog 49 #[(.slice s_0.ptr s_0.len s_0.cap), (.func (.func f_1.1) #[] f_1.2)] h R := fn_tie C_ok Tryz.func49 (.two .n (.two (.two .n (.inn (.loop [(8, (.sc (.int .i64)))] [(4, 6), (8, 19)] .n))) .n)) hm
abbrev peel_Peel_id : FuncId := 50
noncomputable def peel_Peel_m (n_0 : Int) (l_1 : Sl) (R : Value → Heap → Prop) (h : Heap) : Prop :=
  CallM Tryz.prog 87 #[(.int .i64 n_0), (.slice l_1.ptr l_1.len l_1.cap)] (.one (.sc .bool)) h fun r1 h1 =>
  Br (!r1)
  (R (.tuple #[(.slice none 0 0), (.slice none 0 0), (.slice none 0 0), (.int .i64 (1 : Int))]) h1)
  (JoinM (σ := Option Addr) (fun s8 h8 =>
  CallM Tryz.prog 88 #[(.pointer s8)] (.many []) h8 fun _ h9 =>
  LoopM (σ := Sl × Int) (fun s10 K2 h10 =>
  Br (decide (s10.2 < ((l_1.len : Nat) : Int)))
  (∃ a11 : Addr, (l_1.ptr = some a11 ∧ 0 ≤ s10.2 ∧ s10.2 < ((l_1.len : Nat) : Int)) ∧
  ∃ x12 : Sl × Sl, cellsAt h10 (a11.add (s10.2.toNat * 2)) 0 [(.slice x12.1.ptr x12.1.len x12.1.cap), (.slice x12.2.ptr x12.2.len x12.2.cap)] ∧
  RunsA Tryz.prog (Instr.alloc 90 true (.tuple #[])) h10 fun a13 h11 =>
  Runs Tryz.prog (Instr.storeAt 90 (.pointer (some a13)) (.agg #[(.slice x12.1.ptr x12.1.len x12.1.cap), (.slice x12.2.ptr x12.2.len x12.2.cap)])) h11 fun _ h12 =>
  ∃ x14 : Sl × Sl, cellsAt h12 a13 0 [(.slice x14.1.ptr x14.1.len x14.1.cap), (.slice x14.2.ptr x14.2.len x14.2.cap)] ∧
  CallM Tryz.prog 89 #[(.pointer s8), (.agg #[(.slice x14.1.ptr x14.1.len x14.1.cap), (.slice x14.2.ptr x14.2.len x14.2.cap)])] (.one (.agg [.slc, .slc])) h12 fun r15 h13 =>
  RunsA Tryz.prog (Instr.alloc 90 true (.tuple #[])) h13 fun a16 h14 =>
  Runs Tryz.prog (Instr.storeAt 90 (.pointer (some a16)) (.agg #[(.slice r15.1.ptr r15.1.len r15.1.cap), (.slice r15.2.ptr r15.2.len r15.2.cap)])) h14 fun _ h15 =>
  ∃ x17 : Sl, cellOf h15 a16 = some (.slice x17.ptr x17.len x17.cap) ∧
  Br (decide (((x17.len : Nat) : Int) > (0 : Int)))
  (∃ x18 : Sl × Sl, cellsAt h15 a16 0 [(.slice x18.1.ptr x18.1.len x18.1.cap), (.slice x18.2.ptr x18.2.len x18.2.cap)] ∧
  RunsR Tryz.prog (Instr.buildSlice 88 1 #[(0, (.agg #[(.slice x18.1.ptr x18.1.len x18.1.cap), (.slice x18.2.ptr x18.2.len x18.2.cap)]))]) (.one (.sc .slc)) h15 fun v19 h16 =>
  RunsR Tryz.prog (Builtin.append_ #[88, 88] 88 #[(.slice s10.1.ptr s10.1.len s10.1.cap), (.slice v19.ptr v19.len v19.cap)]) (.one (.sc .slc)) h16 fun v20 h17 =>
  K2 ((⟨v20.ptr, v20.len, v20.cap⟩ : Sl), IntKind.wrap .i64 (s10.2 + (1 : Int))) h17)
  (∃ x21 : Sl, cellOf h15 (a16.add 1) = some (.slice x21.ptr x21.len x21.cap) ∧
  CallM Tryz.prog 90 #[(.slice x21.ptr x21.len x21.cap)] (.one (.sc .bool)) h15 fun r22 h18 =>
  Br (!r22)
  (R (.tuple #[(.slice none 0 0), (.slice none 0 0), (.slice none 0 0), (.int .i64 (10 : Int))]) h18)
  (K2 ((⟨s10.1.ptr, s10.1.len, s10.1.cap⟩ : Sl), IntKind.wrap .i64 (s10.2 + (1 : Int))) h18)))
  (∃ a23 : Addr, (s8 = some a23) ∧
  ∃ x24 : Sl, cellOf h10 (a23.add 1) = some (.slice x24.ptr x24.len x24.cap) ∧
  ∃ a25 : Addr, (s8 = some a25) ∧
  ∃ x26 : Sl, cellOf h10 (a25.add 2) = some (.slice x26.ptr x26.len x26.cap) ∧
  R (.tuple #[(.slice x24.ptr x24.len x24.cap), (.slice x26.ptr x26.len x26.cap), (.slice s10.1.ptr s10.1.len s10.1.cap), (.int .i64 (0 : Int))]) h10)) ((⟨none, 0, 0⟩ : Sl), (0 : Int)) h9)
  (fun K1 =>
  (RunsR Tryz.prog (Instr.makeSlice 97 (.int .i64 n_0) (.int .i64 n_0)) (.one (.sc .slc)) h1 fun v2 h2 =>
  (Held.ok [] h2) ∧
  RunsR Tryz.prog (Instr.makeSlice 70 (.int .i64 n_0) (.int .i64 n_0)) (.one (.sc .slc)) h2 fun v3 h3 =>
  (Held.ok [] h3) ∧
  RunsA Tryz.prog (Instr.box 139 (.agg #[(.slice l_1.ptr l_1.len l_1.cap), (.slice v2.ptr v2.len v2.cap), (.slice v3.ptr v3.len v3.cap)])) h3 fun a4 h4 =>
  (Held.ok [] h4) ∧
  K1 (some a4) h4) ∧ (RunsR Tryz.prog (Instr.makeSlice 70 (.int .i64 n_0) (.int .i64 n_0)) (.one (.sc .slc)) h1 fun v5 h5 =>
  (Held.ok [] h5) ∧
  RunsR Tryz.prog (Instr.makeSlice 97 (.int .i64 n_0) (.int .i64 n_0)) (.one (.sc .slc)) h5 fun v6 h6 =>
  (Held.ok [] h6) ∧
  RunsA Tryz.prog (Instr.box 139 (.agg #[(.slice l_1.ptr l_1.len l_1.cap), (.slice v6.ptr v6.len v6.cap), (.slice v5.ptr v5.len v5.cap)])) h6 fun a7 h7 =>
  (Held.ok [] h7) ∧
  K1 (some a7) h7)))
theorem peel_Peel_run (n_0 : Int) (l_1 : Sl) {R : Value → Heap → Prop} {h : Heap} (hm : peel_Peel_m n_0 l_1 R h) : Meets Tryz.prog 50 #[(.int .i64 n_0), (.slice l_1.ptr l_1.len l_1.cap)] h R := fn_tie C_ok Tryz.func50 (.two .n (.two .n (.two (.join [(8, (.sc .ptr))] [(8, 9), (16, 23)] .n) (.two .n (.two (.two .n (.inn (.loop [(6, (.sc .slc)), (27, (.sc (.int .i64)))] [(4, 8), (10, 12), (27, 47)] .n))) .n))))) hm
abbrev decode_solver_order_id : FuncId := 51
noncomputable def decode_solver_order_m (s_0 : Option Addr) (known_1 : Sl) (R : Value → Heap → Prop) (h : Heap) : Prop :=
  RunsA Tryz.prog (Instr.box 91 (.pointer s_0)) h fun a1 h1 =>
  ∃ x2 : Option Addr, cellOf h1 a1 = some (.pointer x2) ∧
  ∃ a3 : Addr, (x2 = some a3) ∧
  ∃ x4 : Sl, cellOf h1 (a3.add 5) = some (.slice x4.ptr x4.len x4.cap) ∧
  LoopM (σ := Sl × Int) (fun s5 K1 h2 =>
  Br (decide (s5.2 < ((x4.len : Nat) : Int)))
  (∃ a6 : Addr, (x4.ptr = some a6 ∧ 0 ≤ s5.2 ∧ s5.2 < ((x4.len : Nat) : Int)) ∧
  ∃ x7 : Sl × Sl, cellsAt h2 (a6.add (s5.2.toNat * 2)) 0 [(.slice x7.1.ptr x7.1.len x7.1.cap), (.slice x7.2.ptr x7.2.len x7.2.cap)] ∧
  RunsA Tryz.prog (Instr.alloc 90 true (.tuple #[])) h2 fun a8 h3 =>
  Runs Tryz.prog (Instr.storeAt 90 (.pointer (some a8)) (.agg #[(.slice x7.1.ptr x7.1.len x7.1.cap), (.slice x7.2.ptr x7.2.len x7.2.cap)])) h3 fun _ h4 =>
  ∃ x9 : Sl, cellOf h4 a8 = some (.slice x9.ptr x9.len x9.cap) ∧
  RunsR Tryz.prog (Instr.buildSlice 142 1 #[(0, (.slice x9.ptr x9.len x9.cap))]) (.one (.sc .slc)) h4 fun v10 h5 =>
  RunsR Tryz.prog (Builtin.append_ #[142, 142] 142 #[(.slice s5.1.ptr s5.1.len s5.1.cap), (.slice v10.ptr v10.len v10.cap)]) (.one (.sc .slc)) h5 fun v11 h6 =>
  K1 ((⟨v11.ptr, v11.len, v11.cap⟩ : Sl), IntKind.wrap .i64 (s5.2 + (1 : Int))) h6)
  (LoopM (σ := Sl × Int) (fun s12 K2 h7 =>
  Br (decide (s12.2 < ((known_1.len : Nat) : Int)))
  (∃ a13 : Addr, (known_1.ptr = some a13 ∧ 0 ≤ s12.2 ∧ s12.2 < ((known_1.len : Nat) : Int)) ∧
  ∃ x14 : Bool, cellOf h7 (a13.add (s12.2.toNat * 1)) = some (.bool x14) ∧
  Br x14
  (RunsR Tryz.prog (Instr.buildSlice 41 1 #[(0, (.int .i64 s12.2))]) (.one (.sc .slc)) h7 fun v15 h8 =>
  RunsR Tryz.prog (Instr.buildSlice 142 1 #[(0, (.slice v15.ptr v15.len v15.cap))]) (.one (.sc .slc)) h8 fun v16 h9 =>
  RunsR Tryz.prog (Builtin.append_ #[142, 142] 142 #[(.slice s12.1.ptr s12.1.len s12.1.cap), (.slice v16.ptr v16.len v16.cap)]) (.one (.sc .slc)) h9 fun v17 h10 =>
  K2 ((⟨v17.ptr, v17.len, v17.cap⟩ : Sl), IntKind.wrap .i64 (s12.2 + (1 : Int))) h10)
  (K2 ((⟨s12.1.ptr, s12.1.len, s12.1.cap⟩ : Sl), IntKind.wrap .i64 (s12.2 + (1 : Int))) h7))
  (CallM Tryz.prog 91 #[(.int .i64 ((known_1.len : Nat) : Int)), (.slice s12.1.ptr s12.1.len s12.1.cap)] (.many [(.agg [.slc, .slc, .slc]), (.sc .bool)]) h7 fun r18 h11 =>
  RunsA Tryz.prog (Instr.alloc 94 true (.tuple #[])) h11 fun a19 h12 =>
  Runs Tryz.prog (Instr.storeAt 94 (.pointer (some a19)) (.agg #[(.slice r18.1.1.ptr r18.1.1.len r18.1.1.cap), (.slice r18.1.2.1.ptr r18.1.2.1.len r18.1.2.1.cap), (.slice r18.1.2.2.ptr r18.1.2.2.len r18.1.2.2.cap)])) h12 fun _ h13 =>
  ∃ x20 : Sl, cellOf h13 a19 = some (.slice x20.ptr x20.len x20.cap) ∧
  CallM Tryz.prog 92 #[(.slice x20.ptr x20.len x20.cap), (.func (.func 93) #[] #[(.pointer (some a1))])] (.one (.sc .slc)) h13 fun r21 h14 =>
  Runs Tryz.prog (Instr.storeAt 92 (.pointer (some a19)) (.slice r21.ptr r21.len r21.cap)) h14 fun _ h15 =>
  ∃ x22 : Sl, cellOf h15 (a19.add 2) = some (.slice x22.ptr x22.len x22.cap) ∧
  CallM Tryz.prog 94 #[(.slice x22.ptr x22.len x22.cap), (.func (.func 95) #[] #[(.pointer (some a1))])] (.one (.sc .slc)) h15 fun r23 h16 =>
  Runs Tryz.prog (Instr.storeAt 41 (.pointer (some (a19.add 2))) (.slice r23.ptr r23.len r23.cap)) h16 fun _ h17 =>
  ∃ x24 : Option Addr, cellOf h17 a1 = some (.pointer x24) ∧
  ∃ x25 : Sl × Sl × Sl, cellsAt h17 a19 0 [(.slice x25.1.ptr x25.1.len x25.1.cap), (.slice x25.2.1.ptr x25.2.1.len x25.2.1.cap), (.slice x25.2.2.ptr x25.2.2.len x25.2.2.cap)] ∧
  ∃ a26 : Addr, (x24 = some a26) ∧
  Runs Tryz.prog (Instr.storeAt 94 (.pointer (some (a26.add 6))) (.agg #[(.slice x25.1.ptr x25.1.len x25.1.cap), (.slice x25.2.1.ptr x25.2.1.len x25.2.1.cap), (.slice x25.2.2.ptr x25.2.2.len x25.2.2.cap)])) h17 fun _ h18 =>
  R (.tuple #[]) h18)) ((⟨s5.1.ptr, s5.1.len, s5.1.cap⟩ : Sl), (0 : Int)) h2)) ((⟨none, 0, 0⟩ : Sl), (0 : Int)) h1
theorem decode_solver_order_run (s_0 : Option Addr) (known_1 : Sl) {R : Value → Heap → Prop} {h : Heap} (hm : decode_solver_order_m s_0 known_1 R h) : Meets Tryz.prog 51 #[(.pointer s_0), (.slice known_1.ptr known_1.len known_1.cap)] h R := fn_tie C_ok Tryz.func51 (.two .n (.two .n (.two (.two .n (.inn (.loop [(4, (.sc .slc)), (16, (.sc (.int .i64)))] [(4, 5), (6, 7), (16, 26)] .n))) (.two (.two .n (.inn (.loop [(4, (.sc .slc)), (28, (.sc (.int .i64)))] [(4, 5), (7, 9), (28, 40)] .n))) .n)))) hm
abbrev decode_solver_plain_id : FuncId := 52
noncomputable def decode_solver_plain_m (s_0 : Option Addr) (R : Value → Heap → Prop) (h : Heap) : Prop :=
  ∃ a1 : Addr, (s_0 = some a1) ∧
  ∃ x2 : Sl, cellOf h ((a1.add 6).add 1) = some (.slice x2.ptr x2.len x2.cap) ∧
  JoinM (σ := Unit) (fun _ h12 =>
  ∃ a18 : Addr, (s_0 = some a18) ∧
  ∃ x19 : Sl, cellOf h12 ((a18.add 6).add 1) = some (.slice x19.ptr x19.len x19.cap) ∧
  LoopM (σ := Int) (fun s20 K2 h13 =>
  Br (decide (s20 < ((x19.len : Nat) : Int)))
  (∃ a21 : Addr, (x19.ptr = some a21 ∧ 0 ≤ s20 ∧ s20 < ((x19.len : Nat) : Int)) ∧
  ∃ x22 : Int, cellOf h13 (a21.add (s20.toNat * 1)) = some (.int .i64 x22) ∧
  JoinM (σ := Unit) (fun _ h25 =>
  ∃ a40 : Addr, (s_0 = some a40) ∧
  ∃ x41 : Sl, cellOf h25 (a40.add 9) = some (.slice x41.ptr x41.len x41.cap) ∧
  ∃ a42 : Addr, (x41.ptr = some a42 ∧ 0 ≤ x22 ∧ x22 < ((x41.len : Nat) : Int)) ∧
  ∃ x43 : Sl, cellOf h25 (a42.add (x22.toNat * 1)) = some (.slice x43.ptr x43.len x43.cap) ∧
  ∃ a44 : Addr, (x43.ptr = some a44 ∧ 0 ≤ s20 ∧ s20 < ((x43.len : Nat) : Int)) ∧
  Runs Tryz.prog (Instr.storeAt 5 (.pointer (some (a44.add (s20.toNat * 1)))) (.int .u8 (1 : Int))) h25 fun _ h26 =>
  K2 (IntKind.wrap .i64 (s20 + (1 : Int))) h26)
  (fun K3 =>
  ∃ a23 : Addr, (s_0 = some a23) ∧
  ∃ x24 : Sl, cellOf h13 (a23.add 9) = some (.slice x24.ptr x24.len x24.cap) ∧
  ∃ a25 : Addr, (s_0 = some a25) ∧
  ∃ x26 : Sl, cellOf h13 (a25.add 10) = some (.slice x26.ptr x26.len x26.cap) ∧
  ∃ a27 : Addr, (s_0 = some a27) ∧
  ∃ x28 : Int, cellOf h13 ((a27.add 1).add 2) = some (.int .i64 x28) ∧
  (RunsR Tryz.prog (Instr.makeSlice 23 (.int .i64 ((x2.len : Nat) : Int)) (.int .i64 ((x2.len : Nat) : Int))) (.one (.sc .slc)) h13 fun v29 h14 =>
  (Held.ok [((a27.add 1).add 2, (.int .i64 x28)), (a25.add 10, (.slice x26.ptr x26.len x26.cap)), (a23.add 9, (.slice x24.ptr x24.len x24.cap))] h14) ∧
  ∃ a30 : Addr, (x24.ptr = some a30 ∧ 0 ≤ x22 ∧ x22 < ((x24.len : Nat) : Int)) ∧
  (RunsR Tryz.prog (Instr.makeSlice 23 (.int .i64 x28) (.int .i64 x28)) (.one (.sc .slc)) h14 fun v31 h15 =>
  (Held.ok [(a25.add 10, (.slice x26.ptr x26.len x26.cap)), (a23.add 9, (.slice x24.ptr x24.len x24.cap))] h15) ∧
  Runs Tryz.prog (Instr.storeAt 23 (.pointer (some (a30.add (x22.toNat * 1)))) (.slice v29.ptr v29.len v29.cap)) h15 fun _ h16 =>
  (Held.ok [] h16) ∧
  ∃ a32 : Addr, (x26.ptr = some a32 ∧ 0 ≤ x22 ∧ x22 < ((x26.len : Nat) : Int)) ∧
  Runs Tryz.prog (Instr.storeAt 23 (.pointer (some (a32.add (x22.toNat * 1)))) (.slice v31.ptr v31.len v31.cap)) h16 fun _ h17 =>
  (Held.ok [] h17) ∧
  K3 () h17) ∧ (Runs Tryz.prog (Instr.storeAt 23 (.pointer (some (a30.add (x22.toNat * 1)))) (.slice v29.ptr v29.len v29.cap)) h14 fun _ h18 =>
  (Held.ok [] h18) ∧
  RunsR Tryz.prog (Instr.makeSlice 23 (.int .i64 x28) (.int .i64 x28)) (.one (.sc .slc)) h18 fun v33 h19 =>
  (Held.ok [] h19) ∧
  ∃ a34 : Addr, (x26.ptr = some a34 ∧ 0 ≤ x22 ∧ x22 < ((x26.len : Nat) : Int)) ∧
  Runs Tryz.prog (Instr.storeAt 23 (.pointer (some (a34.add (x22.toNat * 1)))) (.slice v33.ptr v33.len v33.cap)) h19 fun _ h20 =>
  (Held.ok [] h20) ∧
  K3 () h20)) ∧ (RunsR Tryz.prog (Instr.makeSlice 23 (.int .i64 x28) (.int .i64 x28)) (.one (.sc .slc)) h13 fun v35 h21 =>
  (Held.ok [(a25.add 10, (.slice x26.ptr x26.len x26.cap)), (a23.add 9, (.slice x24.ptr x24.len x24.cap))] h21) ∧
  RunsR Tryz.prog (Instr.makeSlice 23 (.int .i64 ((x2.len : Nat) : Int)) (.int .i64 ((x2.len : Nat) : Int))) (.one (.sc .slc)) h21 fun v36 h22 =>
  (Held.ok [(a25.add 10, (.slice x26.ptr x26.len x26.cap)), (a23.add 9, (.slice x24.ptr x24.len x24.cap))] h22) ∧
  ∃ a37 : Addr, (x24.ptr = some a37 ∧ 0 ≤ x22 ∧ x22 < ((x24.len : Nat) : Int)) ∧
  Runs Tryz.prog (Instr.storeAt 23 (.pointer (some (a37.add (x22.toNat * 1)))) (.slice v36.ptr v36.len v36.cap)) h22 fun _ h23 =>
  (Held.ok [] h23) ∧
  ∃ a38 : Addr, (x26.ptr = some a38 ∧ 0 ≤ x22 ∧ x22 < ((x26.len : Nat) : Int)) ∧
  Runs Tryz.prog (Instr.storeAt 23 (.pointer (some (a38.add (x22.toNat * 1)))) (.slice v35.ptr v35.len v35.cap)) h23 fun _ h24 =>
  (Held.ok [] h24) ∧
  K3 () h24)))
  (∃ a45 : Addr, (s_0 = some a45) ∧
  ∃ x46 : Sl, cellOf h13 (a45.add 6) = some (.slice x46.ptr x46.len x46.cap) ∧
  LoopM (σ := Int) (fun s47 K4 h27 =>
  Br (decide (s47 < ((x46.len : Nat) : Int)))
  (∃ a48 : Addr, (x46.ptr = some a48 ∧ 0 ≤ s47 ∧ s47 < ((x46.len : Nat) : Int)) ∧
  ∃ x49 : Int × Int, cellsAt h27 (a48.add (s47.toNat * 2)) 0 [(.int .i64 x49.1), (.int .i64 x49.2)] ∧
  RunsA Tryz.prog (Instr.alloc 147 true (.tuple #[])) h27 fun a50 h28 =>
  Runs Tryz.prog (Instr.storeAt 147 (.pointer (some a50)) (.agg #[(.int .i64 x49.1), (.int .i64 x49.2)])) h28 fun _ h29 =>
  JoinM (σ := Addr) (fun s57 h32 =>
  JoinM (σ := Sl × Sl) (fun s63 h37 =>
  ∃ x64 : Sl, cellOf h37 s57 = some (.slice x64.ptr x64.len x64.cap) ∧
  LoopM (σ := Int) (fun s65 K7 h38 =>
  Br (decide (s65 < ((x64.len : Nat) : Int)))
  (∃ a66 : Addr, (x64.ptr = some a66 ∧ 0 ≤ s65 ∧ s65 < ((x64.len : Nat) : Int)) ∧
  ∃ x67 : Int, cellOf h38 (a66.add (s65.toNat * 1)) = some (.int .i64 x67) ∧
  ∃ x68 : Int, cellOf h38 (a50.add 1) = some (.int .i64 x68) ∧
  Br (x67 != x68)
  (CallM Tryz.prog 96 #[(.pointer s_0), (.int .u8 (1 : Int)), (.int .i64 x67), (.slice s63.1.ptr s63.1.len s63.1.cap), (.slice s63.2.ptr s63.2.len s63.2.cap)] (.many []) h38 fun _ h39 =>
  K7 (IntKind.wrap .i64 (s65 + (1 : Int))) h39)
  (K7 (IntKind.wrap .i64 (s65 + (1 : Int))) h38))
  (∃ a70 : Addr, (s_0 = some a70) ∧
  ∃ x71 : Sl, cellOf h38 (a70.add 9) = some (.slice x71.ptr x71.len x71.cap) ∧
  ∃ x72 : Int, cellOf h38 (a50.add 1) = some (.int .i64 x72) ∧
  ∃ a73 : Addr, (s_0 = some a73) ∧
  ∃ x74 : Sl, cellOf h38 (a73.add 10) = some (.slice x74.ptr x74.len x74.cap) ∧
  ∃ x75 : Int, cellOf h38 (a50.add 1) = some (.int .i64 x75) ∧
  ∃ a76 : Addr, (x71.ptr = some a76 ∧ 0 ≤ x72 ∧ x72 < ((x71.len : Nat) : Int)) ∧
  Runs Tryz.prog (Instr.storeAt 23 (.pointer (some (a76.add (x72.toNat * 1)))) (.slice s63.1.ptr s63.1.len s63.1.cap)) h38 fun _ h40 =>
  (Held.ok [(a50.add 1, (.int .i64 x75))] h40) ∧
  ∃ a77 : Addr, (x74.ptr = some a77 ∧ 0 ≤ x75 ∧ x75 < ((x74.len : Nat) : Int)) ∧
  Runs Tryz.prog (Instr.storeAt 23 (.pointer (some (a77.add (x75.toNat * 1)))) (.slice s63.2.ptr s63.2.len s63.2.cap)) h40 fun _ h41 =>
  (Held.ok [] h41) ∧
  K4 (IntKind.wrap .i64 (s47 + (1 : Int))) h41)) (0 : Int) h37)
  (fun K6 =>
  ∃ x58 : Sl, cellOf h32 (s57.add 1) = some (.slice x58.ptr x58.len x58.cap) ∧
  (RunsR Tryz.prog (Instr.makeSlice 23 (.int .i64 ((x2.len : Nat) : Int)) (.int .i64 ((x2.len : Nat) : Int))) (.one (.sc .slc)) h32 fun v59 h33 =>
  (Held.ok [(s57.add 1, (.slice x58.ptr x58.len x58.cap))] h33) ∧
  CallM Tryz.prog 47 #[(.slice x58.ptr x58.len x58.cap)] (.one (.sc .slc)) h33 fun r60 h34 =>
  (Held.ok [] h34) ∧
  K6 ((⟨v59.ptr, v59.len, v59.cap⟩ : Sl), (⟨r60.ptr, r60.len, r60.cap⟩ : Sl)) h34) ∧ (CallM Tryz.prog 47 #[(.slice x58.ptr x58.len x58.cap)] (.one (.sc .slc)) h32 fun r61 h35 =>
  (Held.ok [] h35) ∧
  RunsR Tryz.prog (Instr.makeSlice 23 (.int .i64 ((x2.len : Nat) : Int)) (.int .i64 ((x2.len : Nat) : Int))) (.one (.sc .slc)) h35 fun v62 h36 =>
  (Held.ok [] h36) ∧
  K6 ((⟨v62.ptr, v62.len, v62.cap⟩ : Sl), (⟨r61.ptr, r61.len, r61.cap⟩ : Sl)) h36)))
  (fun K5 =>
  ∃ a51 : Addr, (s_0 = some a51) ∧
  ∃ x52 : Sl, cellOf h29 (a51.add 5) = some (.slice x52.ptr x52.len x52.cap) ∧
  ∃ x53 : Int, cellOf h29 a50 = some (.int .i64 x53) ∧
  ∃ a54 : Addr, (x52.ptr = some a54 ∧ 0 ≤ x53 ∧ x53 < ((x52.len : Nat) : Int)) ∧
  ∃ x55 : Sl × Sl, cellsAt h29 (a54.add (x53.toNat * 2)) 0 [(.slice x55.1.ptr x55.1.len x55.1.cap), (.slice x55.2.ptr x55.2.len x55.2.cap)] ∧
  RunsA Tryz.prog (Instr.alloc 90 true (.tuple #[])) h29 fun a56 h30 =>
  (Held.ok [(a54.add (x53.toNat * 2), (.slice x55.1.ptr x55.1.len x55.1.cap)), ((a54.add (x53.toNat * 2)).add 1, (.slice x55.2.ptr x55.2.len x55.2.cap)), (a50, (.int .i64 x53)), (a51.add 5, (.slice x52.ptr x52.len x52.cap))] h30) ∧
  Runs Tryz.prog (Instr.storeAt 90 (.pointer (some a56)) (.agg #[(.slice x55.1.ptr x55.1.len x55.1.cap), (.slice x55.2.ptr x55.2.len x55.2.cap)])) h30 fun _ h31 =>
  (Held.ok [] h31) ∧
  K5 a56 h31))
  (R (.tuple #[]) h27)) (0 : Int) h13)) (0 : Int) h12)
  (fun K1 =>
  ∃ a3 : Addr, (s_0 = some a3) ∧
  ∃ x4 : Sl, cellOf h (a3.add 4) = some (.slice x4.ptr x4.len x4.cap) ∧
  ∃ a5 : Addr, (s_0 = some a5) ∧
  ∃ x6 : Sl, cellOf h (a5.add 4) = some (.slice x6.ptr x6.len x6.cap) ∧
  (RunsR Tryz.prog (Instr.makeSlice 70 (.int .i64 ((x4.len : Nat) : Int)) (.int .i64 ((x4.len : Nat) : Int))) (.one (.sc .slc)) h fun v7 h1 =>
  (Held.ok [(a5.add 4, (.slice x6.ptr x6.len x6.cap)), (a3.add 4, (.slice x4.ptr x4.len x4.cap))] h1) ∧
  ∃ a8 : Addr, (s_0 = some a8) ∧
  (RunsR Tryz.prog (Instr.makeSlice 70 (.int .i64 ((x6.len : Nat) : Int)) (.int .i64 ((x6.len : Nat) : Int))) (.one (.sc .slc)) h1 fun v9 h2 =>
  (Held.ok [(a5.add 4, (.slice x6.ptr x6.len x6.cap)), (a3.add 4, (.slice x4.ptr x4.len x4.cap))] h2) ∧
  Runs Tryz.prog (Instr.storeAt 70 (.pointer (some (a8.add 9))) (.slice v7.ptr v7.len v7.cap)) h2 fun _ h3 =>
  (Held.ok [] h3) ∧
  ∃ a10 : Addr, (s_0 = some a10) ∧
  Runs Tryz.prog (Instr.storeAt 70 (.pointer (some (a10.add 10))) (.slice v9.ptr v9.len v9.cap)) h3 fun _ h4 =>
  (Held.ok [] h4) ∧
  K1 () h4) ∧ (Runs Tryz.prog (Instr.storeAt 70 (.pointer (some (a8.add 9))) (.slice v7.ptr v7.len v7.cap)) h1 fun _ h5 =>
  (Held.ok [] h5) ∧
  RunsR Tryz.prog (Instr.makeSlice 70 (.int .i64 ((x6.len : Nat) : Int)) (.int .i64 ((x6.len : Nat) : Int))) (.one (.sc .slc)) h5 fun v11 h6 =>
  (Held.ok [] h6) ∧
  ∃ a12 : Addr, (s_0 = some a12) ∧
  Runs Tryz.prog (Instr.storeAt 70 (.pointer (some (a12.add 10))) (.slice v11.ptr v11.len v11.cap)) h6 fun _ h7 =>
  (Held.ok [] h7) ∧
  K1 () h7)) ∧ (RunsR Tryz.prog (Instr.makeSlice 70 (.int .i64 ((x6.len : Nat) : Int)) (.int .i64 ((x6.len : Nat) : Int))) (.one (.sc .slc)) h fun v13 h8 =>
  (Held.ok [(a5.add 4, (.slice x6.ptr x6.len x6.cap)), (a3.add 4, (.slice x4.ptr x4.len x4.cap))] h8) ∧
  RunsR Tryz.prog (Instr.makeSlice 70 (.int .i64 ((x4.len : Nat) : Int)) (.int .i64 ((x4.len : Nat) : Int))) (.one (.sc .slc)) h8 fun v14 h9 =>
  (Held.ok [(a5.add 4, (.slice x6.ptr x6.len x6.cap)), (a3.add 4, (.slice x4.ptr x4.len x4.cap))] h9) ∧
  ∃ a15 : Addr, (s_0 = some a15) ∧
  Runs Tryz.prog (Instr.storeAt 70 (.pointer (some (a15.add 9))) (.slice v14.ptr v14.len v14.cap)) h9 fun _ h10 =>
  (Held.ok [] h10) ∧
  ∃ a16 : Addr, (s_0 = some a16) ∧
  Runs Tryz.prog (Instr.storeAt 70 (.pointer (some (a16.add 10))) (.slice v13.ptr v13.len v13.cap)) h10 fun _ h11 =>
  (Held.ok [] h11) ∧
  K1 () h11))
theorem decode_solver_plain_run (s_0 : Option Addr) {R : Value → Heap → Prop} {h : Heap} (hm : decode_solver_plain_m s_0 R h) : Meets Tryz.prog 52 #[(.pointer s_0)] h R := fn_tie C_ok Tryz.func52 (.two .n (.two (.join [] [(18, 36)] .n) (.two (.two .n (.inn (.loop [(42, (.sc (.int .i64)))] [(3, 5), (42, 77)] (.two .n (.two .n (.two (.inn (.two .n (.two (.join [] [(47, 67)] .n) .n))) .n)))))) (.two .n (.inn (.loop [(83, (.sc (.int .i64)))] [(6, 10), (11, 12), (83, 134)] (.two .n (.two .n (.two (.inn (.two .n (.two (.join [(7, (.sc .adr))] [(7, 8), (87, 95)] .n) (.two (.join [(8, (.sc .slc)), (9, (.sc .slc))] [(8, 10), (95, 100)] .n) (.two (.two .n (.inn (.loop [(103, (.sc (.int .i64)))] [(11, 12), (103, 117)] .n))) .n))))) .n))))))))) hm
abbrev decode_solver_fill_id : FuncId := 53
noncomputable def decode_solver_fill_m (s_0 : Option Addr) (R : Value → Heap → Prop) (h : Heap) : Prop :=
  ∃ a1 : Addr, (s_0 = some a1) ∧
  ∃ x2 : Sl, cellOf h (a1.add 4) = some (.slice x2.ptr x2.len x2.cap) ∧
  LoopM (σ := Int) (fun s3 K1 h1 =>
  Br (decide (s3 < ((x2.len : Nat) : Int)))
  (∃ a4 : Addr, (x2.ptr = some a4 ∧ 0 ≤ s3 ∧ s3 < ((x2.len : Nat) : Int)) ∧
  ∃ x5 : Sl, cellOf h1 (a4.add (s3.toNat * 1)) = some (.slice x5.ptr x5.len x5.cap) ∧
  Br (!(Option.isNone x5.ptr))
  (∃ a6 : Addr, (s_0 = some a6) ∧
  ∃ x7 : Sl, cellOf h1 (a6.add 9) = some (.slice x7.ptr x7.len x7.cap) ∧
  ∃ a8 : Addr, (s_0 = some a8) ∧
  ∃ x9 : Sl, cellOf h1 (a8.add 10) = some (.slice x9.ptr x9.len x9.cap) ∧
  ∃ a10 : Addr, (s_0 = some a10) ∧
  ∃ x11 : Sl, cellOf h1 ((a10.add 6).add 1) = some (.slice x11.ptr x11.len x11.cap) ∧
  RunsR Tryz.prog (Instr.makeSlice 23 (.int .i64 ((x11.len : Nat) : Int)) (.int .i64 ((x11.len : Nat) : Int))) (.one (.sc .slc)) h1 fun v12 h2 =>
  (Held.ok [((a10.add 6).add 1, (.slice x11.ptr x11.len x11.cap)), (a8.add 10, (.slice x9.ptr x9.len x9.cap)), (a6.add 9, (.slice x7.ptr x7.len x7.cap))] h2) ∧
  ∃ a13 : Addr, (x7.ptr = some a13 ∧ 0 ≤ s3 ∧ s3 < ((x7.len : Nat) : Int)) ∧
  Runs Tryz.prog (Instr.storeAt 23 (.pointer (some (a13.add (s3.toNat * 1)))) (.slice v12.ptr v12.len v12.cap)) h2 fun _ h3 =>
  (Held.ok [] h3) ∧
  ∃ a14 : Addr, (x9.ptr = some a14 ∧ 0 ≤ s3 ∧ s3 < ((x9.len : Nat) : Int)) ∧
  Runs Tryz.prog (Instr.storeAt 23 (.pointer (some (a14.add (s3.toNat * 1)))) (.slice x5.ptr x5.len x5.cap)) h3 fun _ h4 =>
  (Held.ok [] h4) ∧
  K1 (IntKind.wrap .i64 (s3 + (1 : Int))) h4)
  (K1 (IntKind.wrap .i64 (s3 + (1 : Int))) h1))
  (R (.tuple #[]) h1)) (0 : Int) h
theorem decode_solver_fill_run (s_0 : Option Addr) {R : Value → Heap → Prop} {h : Heap} (hm : decode_solver_fill_m s_0 R h) : Meets Tryz.prog 53 #[(.pointer s_0)] h R := fn_tie C_ok Tryz.func53 (.two .n (.inn (.loop [(9, (.sc (.int .i64)))] [(2, 4), (9, 37)] .n))) hm
abbrev decode_solver_dense_id : FuncId := 54
noncomputable def decode_solver_dense_m (s_0 : Option Addr) (R : Value → Heap → Prop) (h : Heap) : Prop :=
  ∃ a1 : Addr, (s_0 = some a1) ∧
  ∃ x2 : Sl, cellOf h ((a1.add 6).add 1) = some (.slice x2.ptr x2.len x2.cap) ∧
  ∃ a3 : Addr, (s_0 = some a3) ∧
  ∃ x4 : Sl, cellOf h ((a3.add 6).add 2) = some (.slice x4.ptr x4.len x4.cap) ∧
  LoopM (σ := Sl × Sl × Int) (fun s5 K1 h1 =>
  Br (decide (s5.2.2 < ((x4.len : Nat) : Int)))
  (∃ a6 : Addr, (x4.ptr = some a6 ∧ 0 ≤ s5.2.2 ∧ s5.2.2 < ((x4.len : Nat) : Int)) ∧
  ∃ x7 : Int, cellOf h1 (a6.add (s5.2.2.toNat * 1)) = some (.int .i64 x7) ∧
  JoinM (σ := Sl × Sl) (fun s16 h6 =>
  ∃ a17 : Addr, (s_0 = some a17) ∧
  ∃ x18 : Sl, cellOf h6 (a17.add 5) = some (.slice x18.ptr x18.len x18.cap) ∧
  ∃ a19 : Addr, (x18.ptr = some a19 ∧ 0 ≤ x7 ∧ x7 < ((x18.len : Nat) : Int)) ∧
  ∃ x20 : Sl, cellOf h6 (a19.add (x7.toNat * 2)) = some (.slice x20.ptr x20.len x20.cap) ∧
  LoopM (σ := Int) (fun s21 K3 h7 =>
  Br (decide (s21 < ((x20.len : Nat) : Int)))
  (∃ a22 : Addr, (x20.ptr = some a22 ∧ 0 ≤ s21 ∧ s21 < ((x20.len : Nat) : Int)) ∧
  ∃ x23 : Int, cellOf h7 (a22.add (s21.toNat * 1)) = some (.int .i64 x23) ∧
  CallM Tryz.prog 96 #[(.pointer s_0), (.int .u8 (1 : Int)), (.int .i64 x23), (.slice s16.1.ptr s16.1.len s16.1.cap), (.slice s16.2.ptr s16.2.len s16.2.cap)] (.many []) h7 fun _ h8 =>
  K3 (IntKind.wrap .i64 (s21 + (1 : Int))) h8)
  (RunsR Tryz.prog (Instr.buildSlice 70 1 #[(0, (.slice s16.1.ptr s16.1.len s16.1.cap))]) (.one (.sc .slc)) h7 fun v25 h9 =>
  RunsR Tryz.prog (Builtin.append_ #[70, 70] 70 #[(.slice s5.1.ptr s5.1.len s5.1.cap), (.slice v25.ptr v25.len v25.cap)]) (.one (.sc .slc)) h9 fun v26 h10 =>
  RunsR Tryz.prog (Instr.buildSlice 70 1 #[(0, (.slice s16.2.ptr s16.2.len s16.2.cap))]) (.one (.sc .slc)) h10 fun v27 h11 =>
  RunsR Tryz.prog (Builtin.append_ #[70, 70] 70 #[(.slice s5.2.1.ptr s5.2.1.len s5.2.1.cap), (.slice v27.ptr v27.len v27.cap)]) (.one (.sc .slc)) h11 fun v28 h12 =>
  K1 ((⟨v26.ptr, v26.len, v26.cap⟩ : Sl), (⟨v28.ptr, v28.len, v28.cap⟩ : Sl), IntKind.wrap .i64 (s5.2.2 + (1 : Int))) h12)) (0 : Int) h6)
  (fun K2 =>
  ∃ a8 : Addr, (s_0 = some a8) ∧
  ∃ x9 : Sl, cellOf h1 (a8.add 5) = some (.slice x9.ptr x9.len x9.cap) ∧
  ∃ a10 : Addr, (x9.ptr = some a10 ∧ 0 ≤ x7 ∧ x7 < ((x9.len : Nat) : Int)) ∧
  ∃ x11 : Sl, cellOf h1 ((a10.add (x7.toNat * 2)).add 1) = some (.slice x11.ptr x11.len x11.cap) ∧
  (RunsR Tryz.prog (Instr.makeSlice 23 (.int .i64 ((x2.len : Nat) : Int)) (.int .i64 ((x2.len : Nat) : Int))) (.one (.sc .slc)) h1 fun v12 h2 =>
  (Held.ok [((a10.add (x7.toNat * 2)).add 1, (.slice x11.ptr x11.len x11.cap)), (a8.add 5, (.slice x9.ptr x9.len x9.cap))] h2) ∧
  CallM Tryz.prog 47 #[(.slice x11.ptr x11.len x11.cap)] (.one (.sc .slc)) h2 fun r13 h3 =>
  (Held.ok [(a8.add 5, (.slice x9.ptr x9.len x9.cap))] h3) ∧
  K2 ((⟨v12.ptr, v12.len, v12.cap⟩ : Sl), (⟨r13.ptr, r13.len, r13.cap⟩ : Sl)) h3) ∧ (CallM Tryz.prog 47 #[(.slice x11.ptr x11.len x11.cap)] (.one (.sc .slc)) h1 fun r14 h4 =>
  (Held.ok [(a8.add 5, (.slice x9.ptr x9.len x9.cap))] h4) ∧
  RunsR Tryz.prog (Instr.makeSlice 23 (.int .i64 ((x2.len : Nat) : Int)) (.int .i64 ((x2.len : Nat) : Int))) (.one (.sc .slc)) h4 fun v15 h5 =>
  (Held.ok [(a8.add 5, (.slice x9.ptr x9.len x9.cap))] h5) ∧
  K2 ((⟨v15.ptr, v15.len, v15.cap⟩ : Sl), (⟨r14.ptr, r14.len, r14.cap⟩ : Sl)) h5)))
  (∃ a29 : Addr, (s_0 = some a29) ∧
  ∃ x30 : Int × Int × Int, cellsAt h1 (a29.add 1) 0 [(.int .i64 x30.1), (.int .i64 x30.2.1), (.int .i64 x30.2.2)] ∧
  CallM Tryz.prog 70 #[(.agg #[(.int .i64 x30.1), (.int .i64 x30.2.1), (.int .i64 x30.2.2)])] (.one (.sc .slc)) h1 fun r31 h13 =>
  LoopM (σ := Sl × Sl × Int) (fun s32 K4 h14 =>
  Br (decide (s32.2.2 < ((r31.len : Nat) : Int)))
  (∃ a33 : Addr, (r31.ptr = some a33 ∧ 0 ≤ s32.2.2 ∧ s32.2.2 < ((r31.len : Nat) : Int)) ∧
  ∃ x34 : Sl, cellOf h14 (a33.add (s32.2.2.toNat * 1)) = some (.slice x34.ptr x34.len x34.cap) ∧
  JoinM (σ := Sl × Sl) (fun s41 h19 =>
  LoopM (σ := Int) (fun s42 K6 h20 =>
  Br (decide (s42 < ((x34.len : Nat) : Int)))
  (∃ a43 : Addr, (x34.ptr = some a43 ∧ 0 ≤ s42 ∧ s42 < ((x34.len : Nat) : Int)) ∧
  ∃ x44 : Int, cellOf h20 (a43.add (s42.toNat * 1)) = some (.int .u8 x44) ∧
  CallM Tryz.prog 96 #[(.pointer s_0), (.int .u8 x44), (.int .i64 s42), (.slice s41.1.ptr s41.1.len s41.1.cap), (.slice s41.2.ptr s41.2.len s41.2.cap)] (.many []) h20 fun _ h21 =>
  K6 (IntKind.wrap .i64 (s42 + (1 : Int))) h21)
  (RunsR Tryz.prog (Instr.buildSlice 70 1 #[(0, (.slice s41.1.ptr s41.1.len s41.1.cap))]) (.one (.sc .slc)) h20 fun v46 h22 =>
  RunsR Tryz.prog (Builtin.append_ #[70, 70] 70 #[(.slice s32.1.ptr s32.1.len s32.1.cap), (.slice v46.ptr v46.len v46.cap)]) (.one (.sc .slc)) h22 fun v47 h23 =>
  RunsR Tryz.prog (Instr.buildSlice 70 1 #[(0, (.slice s41.2.ptr s41.2.len s41.2.cap))]) (.one (.sc .slc)) h23 fun v48 h24 =>
  RunsR Tryz.prog (Builtin.append_ #[70, 70] 70 #[(.slice s32.2.1.ptr s32.2.1.len s32.2.1.cap), (.slice v48.ptr v48.len v48.cap)]) (.one (.sc .slc)) h24 fun v49 h25 =>
  K4 ((⟨v47.ptr, v47.len, v47.cap⟩ : Sl), (⟨v49.ptr, v49.len, v49.cap⟩ : Sl), IntKind.wrap .i64 (s32.2.2 + (1 : Int))) h25)) (0 : Int) h19)
  (fun K5 =>
  ∃ a35 : Addr, (s_0 = some a35) ∧
  ∃ x36 : Int, cellOf h14 ((a35.add 1).add 2) = some (.int .i64 x36) ∧
  (RunsR Tryz.prog (Instr.makeSlice 23 (.int .i64 ((x2.len : Nat) : Int)) (.int .i64 ((x2.len : Nat) : Int))) (.one (.sc .slc)) h14 fun v37 h15 =>
  (Held.ok [((a35.add 1).add 2, (.int .i64 x36))] h15) ∧
  RunsR Tryz.prog (Instr.makeSlice 23 (.int .i64 x36) (.int .i64 x36)) (.one (.sc .slc)) h15 fun v38 h16 =>
  (Held.ok [] h16) ∧
  K5 ((⟨v37.ptr, v37.len, v37.cap⟩ : Sl), (⟨v38.ptr, v38.len, v38.cap⟩ : Sl)) h16) ∧ (RunsR Tryz.prog (Instr.makeSlice 23 (.int .i64 x36) (.int .i64 x36)) (.one (.sc .slc)) h14 fun v39 h17 =>
  (Held.ok [] h17) ∧
  RunsR Tryz.prog (Instr.makeSlice 23 (.int .i64 ((x2.len : Nat) : Int)) (.int .i64 ((x2.len : Nat) : Int))) (.one (.sc .slc)) h17 fun v40 h18 =>
  (Held.ok [] h18) ∧
  K5 ((⟨v40.ptr, v40.len, v40.cap⟩ : Sl), (⟨v39.ptr, v39.len, v39.cap⟩ : Sl)) h18)))
  (R (.tuple #[(.slice s32.1.ptr s32.1.len s32.1.cap), (.slice s32.2.1.ptr s32.2.1.len s32.2.1.cap)]) h14)) ((⟨s5.1.ptr, s5.1.len, s5.1.cap⟩ : Sl), (⟨s5.2.1.ptr, s5.2.1.len, s5.2.1.cap⟩ : Sl), (0 : Int)) h13)) ((⟨none, 0, 0⟩ : Sl), (⟨none, 0, 0⟩ : Sl), (0 : Int)) h
theorem decode_solver_dense_run (s_0 : Option Addr) {R : Value → Heap → Prop} {h : Heap} (hm : decode_solver_dense_m s_0 R h) : Meets Tryz.prog 54 #[(.pointer s_0)] h R := fn_tie C_ok Tryz.func54 (.two .n (.two .n (.two (.two .n (.inn (.loop [(2, (.sc .slc)), (3, (.sc .slc)), (29, (.sc (.int .i64)))] [(2, 4), (6, 9), (10, 11), (29, 72)] (.two .n (.two .n (.two (.inn (.two .n (.two (.join [(7, (.sc .slc)), (8, (.sc .slc))] [(7, 9), (33, 44)] .n) (.two (.two .n (.inn (.loop [(53, (.sc (.int .i64)))] [(10, 11), (53, 63)] .n))) .n)))) .n)))))) (.two (.two .n (.inn (.loop [(2, (.sc .slc)), (3, (.sc .slc)), (78, (.sc (.int .i64)))] [(2, 4), (12, 17), (78, 113)] (.two .n (.two .n (.two (.inn (.two .n (.two (.join [(13, (.sc .slc)), (14, (.sc .slc))] [(13, 15), (82, 90)] .n) (.two (.two .n (.inn (.loop [(92, (.sc (.int .i64)))] [(15, 17), (92, 104)] .n))) .n)))) .n)))))) .n)))) hm
abbrev bytes_Trim_id : FuncId := 55
noncomputable def bytes_Trim_m (s_0 : Sl) (cutset_1 : ByteArray) (R : Value → Heap → Prop) (h : Heap) : Prop :=
  Br (((s_0.len : Nat) : Int) == (0 : Int))
  (R (.slice none 0 0) h)
  (Br (cutset_1.toList == str_1_.toList)
  (R (.slice s_0.ptr s_0.len s_0.cap) h)
  (JoinM (σ := Unit) (fun _ h3 =>
  CallM Tryz.prog 99 #[(.string cutset_1)] (.many [(.arr .bool), (.sc .bool)]) h3 fun r7 h4 =>
  RunsA Tryz.prog (Instr.alloc 152 true (.tuple #[])) h4 fun a8 h5 =>
  Runs Tryz.prog (Instr.storeAt 152 (.pointer (some a8)) (.agg (r7.1.map (Sc.enc .bool)).toArray)) h5 fun _ h6 =>
  Br r7.2
  (CallM Tryz.prog 101 #[(.slice s_0.ptr s_0.len s_0.cap), (.pointer (some a8))] (.one (.sc .slc)) h6 fun r9 h7 =>
  CallM Tryz.prog 100 #[(.slice r9.ptr r9.len r9.cap), (.pointer (some a8))] (.one (.sc .slc)) h7 fun r10 h8 =>
  R (.slice r10.ptr r10.len r10.cap) h8)
  (CallM Tryz.prog 103 #[(.slice s_0.ptr s_0.len s_0.cap), (.string cutset_1)] (.one (.sc .slc)) h6 fun r11 h9 =>
  CallM Tryz.prog 102 #[(.slice r11.ptr r11.len r11.cap), (.string cutset_1)] (.one (.sc .slc)) h9 fun r12 h10 =>
  R (.slice r12.ptr r12.len r12.cap) h10))
  (fun K1 =>
  Br (((cutset_1.size : Nat) : Int) == (1 : Int)) (∃ c1 : UInt8, (0 ≤ (0 : Int) ∧ cutset_1.data[(0 : Int).toNat]? = some c1) ∧
  Br (decide ((c1.toNat : Nat) < (128 : Int)))
  (∃ c2 : UInt8, (0 ≤ (0 : Int) ∧ cutset_1.data[(0 : Int).toNat]? = some c2) ∧
  ∃ c3 : UInt8, (0 ≤ (0 : Int) ∧ cutset_1.data[(0 : Int).toNat]? = some c3) ∧
  CallM Tryz.prog 98 #[(.slice s_0.ptr s_0.len s_0.cap), (.int .u8 (c2.toNat : Nat))] (.one (.sc .slc)) h fun r4 h1 =>
  (Held.ok [] h1) ∧
  CallM Tryz.prog 97 #[(.slice r4.ptr r4.len r4.cap), (.int .u8 (c3.toNat : Nat))] (.one (.sc .slc)) h1 fun r5 h2 =>
  (Held.ok [] h2) ∧
  R (.slice r5.ptr r5.len r5.cap) h2)
  (K1 () h)) (K1 () h))))
theorem bytes_Trim_run (s_0 : Sl) (cutset_1 : ByteArray) {R : Value → Heap → Prop} {h : Heap} (hm : bytes_Trim_m s_0 cutset_1 R h) : Meets Tryz.prog 55 #[(.slice s_0.ptr s_0.len s_0.cap), (.string cutset_1)] h R := fn_tie C_ok Tryz.func55 (.two .n (.two .n (.two .n (.two (.join [] [(4, 5), (13, 28)] .n) .n)))) hm
abbrev decode_solver_put_id : FuncId := 56
noncomputable def decode_solver_put_m (s_0 : Option Addr) (dead_1 : Sl) (R : Value → Heap → Prop) (h : Heap) : Prop :=
  ∃ a1 : Addr, (s_0 = some a1) ∧
  ∃ x2 : Sl, cellOf h (a1.add 4) = some (.slice x2.ptr x2.len x2.cap) ∧
  LoopM (σ := Int) (fun s3 K1 h1 =>
  Br (decide (s3 < ((x2.len : Nat) : Int)))
  (∃ a4 : Addr, (s_0 = some a4) ∧
  ∃ x5 : Sl, cellOf h1 (a4.add 4) = some (.slice x5.ptr x5.len x5.cap) ∧
  ∃ a6 : Addr, (x5.ptr = some a6 ∧ 0 ≤ s3 ∧ s3 < ((x5.len : Nat) : Int)) ∧
  ∃ x7 : Sl, cellOf h1 (a6.add (s3.toNat * 1)) = some (.slice x7.ptr x7.len x7.cap) ∧
  Br (!(Option.isNone x7.ptr))
  (K1 (IntKind.wrap .i64 (s3 + (1 : Int))) h1)
  (∃ a8 : Addr, (s_0 = some a8) ∧
  ∃ x9 : Sl, cellOf h1 (a8.add 10) = some (.slice x9.ptr x9.len x9.cap) ∧
  ∃ a10 : Addr, (x9.ptr = some a10 ∧ 0 ≤ s3 ∧ s3 < ((x9.len : Nat) : Int)) ∧
  ∃ x11 : Sl, cellOf h1 (a10.add (s3.toNat * 1)) = some (.slice x11.ptr x11.len x11.cap) ∧
  CallM Tryz.prog 47 #[(.slice x11.ptr x11.len x11.cap)] (.one (.sc .slc)) h1 fun r12 h2 =>
  ∃ a13 : Addr, (s_0 = some a13) ∧
  ∃ x14 : Sl, cellOf h2 (a13.add 9) = some (.slice x14.ptr x14.len x14.cap) ∧
  ∃ a15 : Addr, (x14.ptr = some a15 ∧ 0 ≤ s3 ∧ s3 < ((x14.len : Nat) : Int)) ∧
  ∃ x16 : Sl, cellOf h2 (a15.add (s3.toNat * 1)) = some (.slice x16.ptr x16.len x16.cap) ∧
  LoopM (σ := Int) (fun s17 K2 h3 =>
  Br (decide (s17 < ((x16.len : Nat) : Int)))
  (∃ a18 : Addr, (x16.ptr = some a18 ∧ 0 ≤ s17 ∧ s17 < ((x16.len : Nat) : Int)) ∧
  ∃ x19 : Int, cellOf h3 (a18.add (s17.toNat * 1)) = some (.int .u8 x19) ∧
  ∃ a20 : Addr, (dead_1.ptr = some a20 ∧ 0 ≤ s17 ∧ s17 < ((dead_1.len : Nat) : Int)) ∧
  ∃ x21 : Sl, cellOf h3 (a20.add (s17.toNat * 1)) = some (.slice x21.ptr x21.len x21.cap) ∧
  LoopM (σ := Int) (fun s22 K3 h4 =>
  Br (decide (s22 < ((x21.len : Nat) : Int)))
  (∃ a23 : Addr, (x21.ptr = some a23 ∧ 0 ≤ s22 ∧ s22 < ((x21.len : Nat) : Int)) ∧
  ∃ x24 : Int, cellOf h4 (a23.add (s22.toNat * 1)) = some (.int .u8 x24) ∧
  ∃ a25 : Addr, (r12.ptr = some a25 ∧ 0 ≤ s22 ∧ s22 < ((r12.len : Nat) : Int)) ∧
  ∃ x26 : Int, cellOf h4 (a25.add (s22.toNat * 1)) = some (.int .u8 x26) ∧
  ∃ a27 : Addr, (s_0 = some a27) ∧
  ∃ x28 : Option Addr, cellOf h4 a27 = some (.pointer x28) ∧
  CallM Tryz.prog 104 #[(.pointer x28), (.int .u8 x19), (.int .u8 x24)] (.one (.sc (.int .u8))) h4 fun r29 h5 =>
  (Held.ok [(a25.add (s22.toNat * 1), (.int .u8 x26))] h5) ∧
  ∃ a30 : Addr, (r12.ptr = some a30 ∧ 0 ≤ s22 ∧ s22 < ((r12.len : Nat) : Int)) ∧
  Runs Tryz.prog (Instr.storeAt 5 (.pointer (some (a30.add (s22.toNat * 1)))) (.int .u8 (IntKind.wrap .u8 ((BitVec.ofInt (IntKind.bits .u8) x26 ^^^ (BitVec.ofInt (IntKind.bits .u8) r29)).toNat : Nat)))) h5 fun _ h6 =>
  (Held.ok [] h6) ∧
  K3 (IntKind.wrap .i64 (s22 + (1 : Int))) h6)
  (K2 (IntKind.wrap .i64 (s17 + (1 : Int))) h4)) (0 : Int) h3)
  (∃ a31 : Addr, (s_0 = some a31) ∧
  ∃ x32 : Sl, cellOf h3 (a31.add 4) = some (.slice x32.ptr x32.len x32.cap) ∧
  ∃ a33 : Addr, (x32.ptr = some a33 ∧ 0 ≤ s3 ∧ s3 < ((x32.len : Nat) : Int)) ∧
  Runs Tryz.prog (Instr.storeAt 23 (.pointer (some (a33.add (s3.toNat * 1)))) (.slice r12.ptr r12.len r12.cap)) h3 fun _ h7 =>
  K1 (IntKind.wrap .i64 (s3 + (1 : Int))) h7)) (0 : Int) h2))
  (R (.tuple #[]) h1)) (0 : Int) h
theorem decode_solver_put_run (s_0 : Option Addr) (dead_1 : Sl) {R : Value → Heap → Prop} {h : Heap} (hm : decode_solver_put_m s_0 dead_1 R h) : Meets Tryz.prog 56 #[(.pointer s_0), (.slice dead_1.ptr dead_1.len dead_1.cap)] h R := fn_tie C_ok Tryz.func56 (.two .n (.inn (.loop [(15, (.sc (.int .i64)))] [(4, 10), (15, 80)] (.two .n (.two .n (.two (.inn (.two .n (.two .n (.two .n (.two (.two .n (.inn (.loop [(42, (.sc (.int .i64)))] [(6, 10), (42, 72)] (.two .n (.two .n (.two (.inn (.two .n (.two .n (.inn (.loop [(52, (.sc (.int .i64)))] [(8, 10), (52, 71)] .n))))) .n)))))) .n))))) .n)))))) hm
abbrev draw_New_id : FuncId := 57
noncomputable def draw_New_m (seed_0 : Int) (R : Value → Heap → Prop) (h : Heap) : Prop :=
  RunsA Tryz.prog (Instr.box 159 (.agg #[(.int .u64 (IntKind.wrap .u64 seed_0))])) h fun a1 h1 =>
  R (.pointer (some a1)) h1
theorem draw_New_run (seed_0 : Int) {R : Value → Heap → Prop} {h : Heap} (hm : draw_New_m seed_0 R h) : Meets Tryz.prog 57 #[(.int .u32 seed_0)] h R := fn_tie C_ok Tryz.func57 .n hm
abbrev draw_Draw_Next_id : FuncId := 58
noncomputable def draw_Draw_Next_m (d_0 : Option Addr) (R : Value → Heap → Prop) (h : Heap) : Prop :=
  Br (Option.isNone d_0)
  (R (.int .u32 (0 : Int)) h)
  (∃ a1 : Addr, (d_0 = some a1) ∧
  ∃ x2 : Int, cellOf h a1 = some (.int .u64 x2) ∧
  ∃ a3 : Addr, (d_0 = some a3) ∧
  Runs Tryz.prog (Instr.storeAt 130 (.pointer (some a3)) (.int .u64 (IntKind.wrap .u64 ((IntKind.wrap .u64 (x2 * (6364136223846793005 : Int))) + (1442695040888963407 : Int))))) h fun _ h1 =>
  ∃ a4 : Addr, (d_0 = some a4) ∧
  ∃ x5 : Int, cellOf h1 a4 = some (.int .u64 x5) ∧
  (0 ≤ (32 : Int)) ∧
  R (.int .u32 (IntKind.wrap .u32 (Int.fdiv x5 (2 ^ min (32 : Int).toNat (IntKind.bits .u64))))) h1)
theorem draw_Draw_Next_run (d_0 : Option Addr) {R : Value → Heap → Prop} {h : Heap} (hm : draw_Draw_Next_m d_0 R h) : Meets Tryz.prog 58 #[(.pointer d_0)] h R := fn_tie C_ok Tryz.func58 .n hm
abbrev soliton_Draw_id : FuncId := 59
noncomputable def soliton_Draw_m (t_0 : Sl) (d_1 : Option Addr) (R : Value → Heap → Prop) (h : Heap) : Prop :=
  Br (((t_0.len : Nat) : Int) == (0 : Int))
  (R (.int .i64 (0 : Int)) h)
  (∃ a1 : Addr, (t_0.ptr = some a1 ∧ 0 ≤ (IntKind.wrap .i64 (((t_0.len : Nat) : Int) - (1 : Int))) ∧ (IntKind.wrap .i64 (((t_0.len : Nat) : Int) - (1 : Int))) < ((t_0.len : Nat) : Int)) ∧
  ∃ x2 : Int, cellOf h (a1.add ((IntKind.wrap .i64 (((t_0.len : Nat) : Int) - (1 : Int))).toNat * 1)) = some (.int .i64 x2) ∧
  CallM Tryz.prog 106 #[(.pointer d_1), (.int .i64 x2)] (.one (.sc (.int .i64))) h fun r3 h1 =>
  CallM Tryz.prog 105 #[(.slice t_0.ptr t_0.len t_0.cap), (.int .i64 r3)] (.one (.sc (.int .i64))) h1 fun r4 h2 =>
  R (.int .i64 r4) h2)
theorem soliton_Draw_run (t_0 : Sl) (d_1 : Option Addr) {R : Value → Heap → Prop} {h : Heap} (hm : soliton_Draw_m t_0 d_1 R h) : Meets Tryz.prog 59 #[(.slice t_0.ptr t_0.len t_0.cap), (.pointer d_1)] h R := fn_tie C_ok Tryz.func59 .n hm
abbrev soliton_Table_id : FuncId := 60
noncomputable def soliton_Table_m (l_0 : Int) (R : Value → Heap → Prop) (h : Heap) : Prop :=
  JoinM (σ := Unit) (fun _ h1 =>
  RunsR Tryz.prog (Instr.makeSlice 41 (.int .i64 (0 : Int)) (.int .i64 l_0)) (.one (.sc .slc)) h1 fun v2 h2 =>
  LoopM (σ := Sl × Int × Int) (fun s3 K2 h3 =>
  Br (decide (s3.2.2 ≤ l_0))
  (CallM Tryz.prog 107 #[(.int .i64 l_0), (.int .i64 s3.2.2)] (.one (.sc (.int .i64))) h3 fun r4 h4 =>
  RunsR Tryz.prog (Instr.buildSlice 41 1 #[(0, (.int .i64 (IntKind.wrap .i64 (s3.2.1 + r4))))]) (.one (.sc .slc)) h4 fun v5 h5 =>
  RunsR Tryz.prog (Builtin.append_ #[41, 41] 41 #[(.slice s3.1.ptr s3.1.len s3.1.cap), (.slice v5.ptr v5.len v5.cap)]) (.one (.sc .slc)) h5 fun v6 h6 =>
  K2 ((⟨v6.ptr, v6.len, v6.cap⟩ : Sl), IntKind.wrap .i64 (s3.2.1 + r4), IntKind.wrap .i64 (s3.2.2 + (1 : Int))) h6)
  (R (.slice s3.1.ptr s3.1.len s3.1.cap) h3)) ((⟨v2.ptr, v2.len, v2.cap⟩ : Sl), (0 : Int), (1 : Int)) h2)
  (fun K1 =>
  Br (decide (l_0 < (1 : Int))) (R (.slice none 0 0) h) (Br (decide (l_0 > (64 : Int)))
  (R (.slice none 0 0) h)
  (K1 () h)))
theorem soliton_Table_run (l_0 : Int) {R : Value → Heap → Prop} {h : Heap} (hm : soliton_Table_m l_0 R h) : Meets Tryz.prog 60 #[(.int .i64 l_0)] h R := fn_tie C_ok Tryz.func60 (.two .n (.two (.join [] [(2, 3), (6, 12)] .n) (.two .n (.two .n (.two (.two .n (.inn (.loop [(3, (.sc .slc)), (4, (.sc (.int .i64))), (5, (.sc (.int .i64)))] [(3, 6), (14, 28)] .n))) .n))))) hm
abbrev choose_Some_id : FuncId := 61
noncomputable def choose_Some_m (d_0 : Option Addr) (n_1 : Int) (k_2 : Int) (R : Value → Heap → Prop) (h : Heap) : Prop :=
  JoinM (σ := Unit) (fun _ h1 =>
  RunsR Tryz.prog (Instr.makeSlice 41 (.int .i64 n_1) (.int .i64 n_1)) (.one (.sc .slc)) h1 fun v2 h2 =>
  LoopM (σ := Int) (fun s3 K2 h3 =>
  Br (decide (s3 < ((v2.len : Nat) : Int)))
  (∃ a4 : Addr, (v2.ptr = some a4 ∧ 0 ≤ s3 ∧ s3 < ((v2.len : Nat) : Int)) ∧
  Runs Tryz.prog (Instr.storeAt 3 (.pointer (some (a4.add (s3.toNat * 1)))) (.int .i64 s3)) h3 fun _ h4 =>
  K2 (IntKind.wrap .i64 (s3 + (1 : Int))) h4)
  (LoopM (σ := Int) (fun s5 K3 h5 =>
  Br (decide (s5 < k_2))
  (CallM Tryz.prog 106 #[(.pointer d_0), (.int .i64 (IntKind.wrap .i64 (n_1 - s5)))] (.one (.sc (.int .i64))) h5 fun r6 h6 =>
  ∃ a7 : Addr, (v2.ptr = some a7 ∧ 0 ≤ (IntKind.wrap .i64 (s5 + r6)) ∧ (IntKind.wrap .i64 (s5 + r6)) < ((v2.len : Nat) : Int)) ∧
  ∃ x8 : Int, cellOf h6 (a7.add ((IntKind.wrap .i64 (s5 + r6)).toNat * 1)) = some (.int .i64 x8) ∧
  ∃ a9 : Addr, (v2.ptr = some a9 ∧ 0 ≤ s5 ∧ s5 < ((v2.len : Nat) : Int)) ∧
  ∃ x10 : Int, cellOf h6 (a9.add (s5.toNat * 1)) = some (.int .i64 x10) ∧
  ∃ a11 : Addr, (v2.ptr = some a11 ∧ 0 ≤ s5 ∧ s5 < ((v2.len : Nat) : Int)) ∧
  Runs Tryz.prog (Instr.storeAt 3 (.pointer (some (a11.add (s5.toNat * 1)))) (.int .i64 x8)) h6 fun _ h7 =>
  (Held.ok [] h7) ∧
  ∃ a12 : Addr, (v2.ptr = some a12 ∧ 0 ≤ (IntKind.wrap .i64 (s5 + r6)) ∧ (IntKind.wrap .i64 (s5 + r6)) < ((v2.len : Nat) : Int)) ∧
  Runs Tryz.prog (Instr.storeAt 3 (.pointer (some (a12.add ((IntKind.wrap .i64 (s5 + r6)).toNat * 1)))) (.int .i64 x10)) h7 fun _ h8 =>
  (Held.ok [] h8) ∧
  K3 (IntKind.wrap .i64 (s5 + (1 : Int))) h8)
  ((0 ≤ k_2 ∧ k_2 ≤ ((v2.cap : Nat) : Int)) ∧
  CallM Tryz.prog 108 #[(.slice v2.ptr k_2.toNat v2.cap)] (.one (.sc .slc)) h5 fun r13 h9 =>
  CallM Tryz.prog 109 #[(.slice r13.ptr r13.len r13.cap)] (.many []) h9 fun _ h10 =>
  R (.slice r13.ptr r13.len r13.cap) h10)) (0 : Int) h3)) (0 : Int) h2)
  (fun K1 =>
  Br (decide (n_1 < (0 : Int))) (R (.slice none 0 0) h) (Br (decide (n_1 > (64 : Int))) (R (.slice none 0 0) h) (Br (decide (k_2 < (0 : Int))) (R (.slice none 0 0) h) (Br (decide (k_2 > n_1))
  (R (.slice none 0 0) h)
  (K1 () h)))))
theorem choose_Some_run (d_0 : Option Addr) (n_1 : Int) (k_2 : Int) {R : Value → Heap → Prop} {h : Heap} (hm : choose_Some_m d_0 n_1 k_2 R h) : Meets Tryz.prog 61 #[(.pointer d_0), (.int .i64 n_1), (.int .i64 k_2)] h R := fn_tie C_ok Tryz.func61 (.two .n (.two (.join [] [(6, 7), (12, 27)] .n) (.two .n (.two (.two .n (.inn (.loop [(31, (.sc (.int .i64)))] [(8, 9), (31, 39)] .n))) (.two (.two .n (.inn (.loop [(40, (.sc (.int .i64)))] [(9, 11), (40, 65)] .n))) .n))))) hm
abbrev mat_May_id : FuncId := 62
noncomputable def mat_May_m (a_0 : Sl) (R : Value → Heap → Prop) (h : Heap) : Prop :=
  LoopM (σ := Int) (fun s1 K1 h1 =>
  Br (decide (s1 < ((a_0.len : Nat) : Int)))
  (∃ a2 : Addr, (a_0.ptr = some a2 ∧ 0 ≤ s1 ∧ s1 < ((a_0.len : Nat) : Int)) ∧
  ∃ x3 : Sl, cellOf h1 (a2.add (s1.toNat * 1)) = some (.slice x3.ptr x3.len x3.cap) ∧
  ∃ a4 : Addr, (a_0.ptr = some a4 ∧ 0 ≤ (0 : Int) ∧ (0 : Int) < ((a_0.len : Nat) : Int)) ∧
  ∃ x5 : Sl, cellOf h1 (a4.add ((0 : Int).toNat * 1)) = some (.slice x5.ptr x5.len x5.cap) ∧
  Br (((x3.len : Nat) : Int) != ((x5.len : Nat) : Int)) (R (.bool false) h1) (Br (decide (((x3.len : Nat) : Int) > (64 : Int)))
  (R (.bool false) h1)
  (K1 (IntKind.wrap .i64 (s1 + (1 : Int))) h1)))
  (R (.bool true) h1)) (0 : Int) h
theorem mat_May_run (a_0 : Sl) {R : Value → Heap → Prop} {h : Heap} (hm : mat_May_m a_0 R h) : Meets Tryz.prog 62 #[(.slice a_0.ptr a_0.len a_0.cap)] h R := fn_tie C_ok Tryz.func62 (.two .n (.two (.two .n (.inn (.loop [(7, (.sc (.int .i64)))] [(2, 3), (4, 5), (7, 24)] .n))) .n)) hm
abbrev mat_width_id : FuncId := 63
noncomputable def mat_width_m (a_0 : Sl) (R : Value → Heap → Prop) (h : Heap) : Prop :=
  Br (((a_0.len : Nat) : Int) == (0 : Int))
  (R (.int .i64 (0 : Int)) h)
  (∃ a1 : Addr, (a_0.ptr = some a1 ∧ 0 ≤ (0 : Int) ∧ (0 : Int) < ((a_0.len : Nat) : Int)) ∧
  ∃ x2 : Sl, cellOf h (a1.add ((0 : Int).toNat * 1)) = some (.slice x2.ptr x2.len x2.cap) ∧
  R (.int .i64 ((x2.len : Nat) : Int)) h)
theorem mat_width_run (a_0 : Sl) {R : Value → Heap → Prop} {h : Heap} (hm : mat_width_m a_0 R h) : Meets Tryz.prog 63 #[(.slice a_0.ptr a_0.len a_0.cap)] h R := fn_tie C_ok Tryz.func63 .n hm
abbrev mat_own_id : FuncId := 64
noncomputable def mat_own_m (a_0 : Sl) (R : Value → Heap → Prop) (h : Heap) : Prop :=
  RunsR Tryz.prog (Instr.makeSlice 70 (.int .i64 (0 : Int)) (.int .i64 ((a_0.len : Nat) : Int))) (.one (.sc .slc)) h fun v1 h1 =>
  LoopM (σ := Sl × Int) (fun s2 K1 h2 =>
  Br (decide (s2.2 < ((a_0.len : Nat) : Int)))
  (∃ a3 : Addr, (a_0.ptr = some a3 ∧ 0 ≤ s2.2 ∧ s2.2 < ((a_0.len : Nat) : Int)) ∧
  ∃ x4 : Sl, cellOf h2 (a3.add (s2.2.toNat * 1)) = some (.slice x4.ptr x4.len x4.cap) ∧
  CallM Tryz.prog 47 #[(.slice x4.ptr x4.len x4.cap)] (.one (.sc .slc)) h2 fun r5 h3 =>
  RunsR Tryz.prog (Instr.buildSlice 70 1 #[(0, (.slice r5.ptr r5.len r5.cap))]) (.one (.sc .slc)) h3 fun v6 h4 =>
  RunsR Tryz.prog (Builtin.append_ #[70, 70] 70 #[(.slice s2.1.ptr s2.1.len s2.1.cap), (.slice v6.ptr v6.len v6.cap)]) (.one (.sc .slc)) h4 fun v7 h5 =>
  K1 ((⟨v7.ptr, v7.len, v7.cap⟩ : Sl), IntKind.wrap .i64 (s2.2 + (1 : Int))) h5)
  (R (.slice s2.1.ptr s2.1.len s2.1.cap) h2)) ((⟨v1.ptr, v1.len, v1.cap⟩ : Sl), (0 : Int)) h1
theorem mat_own_run (a_0 : Sl) {R : Value → Heap → Prop} {h : Heap} (hm : mat_own_m a_0 R h) : Meets Tryz.prog 64 #[(.slice a_0.ptr a_0.len a_0.cap)] h R := fn_tie C_ok Tryz.func64 (.two .n (.two .n (.two (.two .n (.inn (.loop [(3, (.sc .slc)), (11, (.sc (.int .i64)))] [(3, 4), (5, 6), (11, 21)] .n))) .n))) hm
abbrev mat_reduce_id : FuncId := 65
noncomputable def mat_reduce_m (f_0 : Option Addr) (a_1 : Sl) (cols_2 : Int) (R : Value → Heap → Prop) (h : Heap) : Prop :=
  LoopM (σ := Int × Int) (fun s1 K1 h1 =>
  Br (decide (s1.2 < cols_2))
  (CallM Tryz.prog 110 #[(.slice a_1.ptr a_1.len a_1.cap), (.int .i64 s1.1), (.int .i64 s1.2)] (.one (.sc (.int .i64))) h1 fun r2 h2 =>
  Br (decide (r2 < (0 : Int)))
  (K1 (s1.1, IntKind.wrap .i64 (s1.2 + (1 : Int))) h2)
  (JoinM (σ := Unit) (fun _ h5 =>
  JoinM (σ := Unit) (fun _ h9 =>
  LoopM (σ := Int) (fun s20 K4 h10 =>
  Br (decide (s20 < ((a_1.len : Nat) : Int)))
  (Br (s20 != s1.1)
  (∃ a21 : Addr, (a_1.ptr = some a21 ∧ 0 ≤ s20 ∧ s20 < ((a_1.len : Nat) : Int)) ∧
  ∃ x22 : Sl, cellOf h10 (a21.add (s20.toNat * 1)) = some (.slice x22.ptr x22.len x22.cap) ∧
  ∃ a23 : Addr, (x22.ptr = some a23 ∧ 0 ≤ s1.2 ∧ s1.2 < ((x22.len : Nat) : Int)) ∧
  ∃ x24 : Int, cellOf h10 (a23.add (s1.2.toNat * 1)) = some (.int .u8 x24) ∧
  ∃ a25 : Addr, (a_1.ptr = some a25 ∧ 0 ≤ s1.1 ∧ s1.1 < ((a_1.len : Nat) : Int)) ∧
  ∃ x26 : Sl, cellOf h10 (a25.add (s1.1.toNat * 1)) = some (.slice x26.ptr x26.len x26.cap) ∧
  ∃ a27 : Addr, (a_1.ptr = some a27 ∧ 0 ≤ s20 ∧ s20 < ((a_1.len : Nat) : Int)) ∧
  ∃ x28 : Sl, cellOf h10 (a27.add (s20.toNat * 1)) = some (.slice x28.ptr x28.len x28.cap) ∧
  CallM Tryz.prog 113 #[(.pointer f_0), (.int .u8 x24), (.slice x26.ptr x26.len x26.cap), (.slice x28.ptr x28.len x28.cap)] (.many []) h10 fun _ h11 =>
  (Held.ok [(a21.add (s20.toNat * 1), (.slice x22.ptr x22.len x22.cap))] h11) ∧
  K4 (IntKind.wrap .i64 (s20 + (1 : Int))) h11)
  (K4 (IntKind.wrap .i64 (s20 + (1 : Int))) h10))
  (K1 (IntKind.wrap .i64 (s1.1 + (1 : Int)), IntKind.wrap .i64 (s1.2 + (1 : Int))) h10)) (0 : Int) h9)
  (fun K3 =>
  ∃ a10 : Addr, (a_1.ptr = some a10 ∧ 0 ≤ s1.1 ∧ s1.1 < ((a_1.len : Nat) : Int)) ∧
  ∃ x11 : Sl, cellOf h5 (a10.add (s1.1.toNat * 1)) = some (.slice x11.ptr x11.len x11.cap) ∧
  ∃ a12 : Addr, (x11.ptr = some a12 ∧ 0 ≤ s1.2 ∧ s1.2 < ((x11.len : Nat) : Int)) ∧
  ∃ x13 : Int, cellOf h5 (a12.add (s1.2.toNat * 1)) = some (.int .u8 x13) ∧
  ∃ a14 : Addr, (a_1.ptr = some a14 ∧ 0 ≤ s1.1 ∧ s1.1 < ((a_1.len : Nat) : Int)) ∧
  ∃ x15 : Sl, cellOf h5 (a14.add (s1.1.toNat * 1)) = some (.slice x15.ptr x15.len x15.cap) ∧
  CallM Tryz.prog 112 #[(.pointer f_0), (.int .u8 x13)] (.one (.sc (.int .u8))) h5 fun r16 h6 =>
  (Held.ok [(a14.add (s1.1.toNat * 1), (.slice x15.ptr x15.len x15.cap)), (a10.add (s1.1.toNat * 1), (.slice x11.ptr x11.len x11.cap))] h6) ∧
  CallM Tryz.prog 111 #[(.pointer f_0), (.int .u8 r16), (.slice x15.ptr x15.len x15.cap)] (.one (.sc .slc)) h6 fun r17 h7 =>
  (Held.ok [(a10.add (s1.1.toNat * 1), (.slice x11.ptr x11.len x11.cap))] h7) ∧
  ∃ a18 : Addr, (a_1.ptr = some a18 ∧ 0 ≤ s1.1 ∧ s1.1 < ((a_1.len : Nat) : Int)) ∧
  Runs Tryz.prog (Instr.storeAt 23 (.pointer (some (a18.add (s1.1.toNat * 1)))) (.slice r17.ptr r17.len r17.cap)) h7 fun _ h8 =>
  (Held.ok [] h8) ∧
  K3 () h8))
  (fun K2 =>
  ∃ a3 : Addr, (a_1.ptr = some a3 ∧ 0 ≤ r2 ∧ r2 < ((a_1.len : Nat) : Int)) ∧
  ∃ x4 : Sl, cellOf h2 (a3.add (r2.toNat * 1)) = some (.slice x4.ptr x4.len x4.cap) ∧
  ∃ a5 : Addr, (a_1.ptr = some a5 ∧ 0 ≤ s1.1 ∧ s1.1 < ((a_1.len : Nat) : Int)) ∧
  ∃ x6 : Sl, cellOf h2 (a5.add (s1.1.toNat * 1)) = some (.slice x6.ptr x6.len x6.cap) ∧
  ∃ a7 : Addr, (a_1.ptr = some a7 ∧ 0 ≤ s1.1 ∧ s1.1 < ((a_1.len : Nat) : Int)) ∧
  Runs Tryz.prog (Instr.storeAt 23 (.pointer (some (a7.add (s1.1.toNat * 1)))) (.slice x4.ptr x4.len x4.cap)) h2 fun _ h3 =>
  (Held.ok [] h3) ∧
  ∃ a8 : Addr, (a_1.ptr = some a8 ∧ 0 ≤ r2 ∧ r2 < ((a_1.len : Nat) : Int)) ∧
  Runs Tryz.prog (Instr.storeAt 23 (.pointer (some (a8.add (r2.toNat * 1)))) (.slice x6.ptr x6.len x6.cap)) h3 fun _ h4 =>
  (Held.ok [] h4) ∧
  K2 () h4)))
  (R (.int .i64 s1.1) h1)) ((0 : Int), (0 : Int)) h
theorem mat_reduce_run (f_0 : Option Addr) (a_1 : Sl) (cols_2 : Int) {R : Value → Heap → Prop} {h : Heap} (hm : mat_reduce_m f_0 a_1 cols_2 R h) : Meets Tryz.prog 65 #[(.pointer f_0), (.slice a_1.ptr a_1.len a_1.cap), (.int .i64 cols_2)] h R := fn_tie C_ok Tryz.func65 (.two .n (.two .n (.two (.two .n (.inn (.loop [(7, (.sc (.int .i64))), (12, (.sc (.int .i64)))] [(7, 11), (12, 82)] (.two .n (.two .n (.two (.inn (.two .n (.two .n (.two .n (.two (.join [] [(21, 35)] .n) (.two (.join [] [(35, 53)] .n) (.two (.two .n (.inn (.loop [(55, (.sc (.int .i64)))] [(10, 11), (55, 79)] .n))) .n))))))) .n)))))) .n))) hm
abbrev mat_sure_id : FuncId := 66
noncomputable def mat_sure_m (f_0 : Option Addr) (R : Value → Heap → Prop) (h : Heap) : Prop :=
  Br (Option.isNone f_0)
  (CallM Tryz.prog 39 #[] (.one (.sc .ptr)) h fun r1 h1 =>
  R (.pointer r1) h1)
  (R (.pointer f_0) h)
theorem mat_sure_run (f_0 : Option Addr) {R : Value → Heap → Prop} {h : Heap} (hm : mat_sure_m f_0 R h) : Meets Tryz.prog 66 #[(.pointer f_0)] h R := fn_tie C_ok Tryz.func66 .n hm
abbrev row_Lead_id : FuncId := 67
noncomputable def row_Lead_m (a_0 : Sl) (R : Value → Heap → Prop) (h : Heap) : Prop :=
  CallM Tryz.prog 114 #[(.slice a_0.ptr a_0.len a_0.cap), (.func (.func 115) #[] #[])] (.one (.sc (.int .i64))) h fun r1 h1 =>
  R (.int .i64 r1) h1
theorem row_Lead_run (a_0 : Sl) {R : Value → Heap → Prop} {h : Heap} (hm : row_Lead_m a_0 R h) : Meets Tryz.prog 67 #[(.slice a_0.ptr a_0.len a_0.cap)] h R := fn_tie C_ok Tryz.func67 .n hm
abbrev gf_powers_id : FuncId := 68
noncomputable def gf_powers_m  (R : Value → Heap → Prop) (h : Heap) : Prop :=
  RunsA Tryz.prog (Instr.alloc 117 true (.tuple #[])) h fun a1 h1 =>
  LoopM (σ := Int × Int) (fun s2 K1 h2 =>
  Br (decide (s2.2 < (255 : Int)))
  ((0 ≤ s2.2 ∧ s2.2 < ((255 : Nat) : Int)) ∧
  Runs Tryz.prog (Instr.storeAt 5 (.pointer (some (a1.add (s2.2.toNat * 1)))) (.int .u8 s2.1)) h2 fun _ h3 =>
  CallM Tryz.prog 116 #[(.int .u8 s2.1), (.int .u8 (3 : Int))] (.one (.sc (.int .u8))) h3 fun r3 h4 =>
  K1 (r3, IntKind.wrap .i64 (s2.2 + (1 : Int))) h4)
  (∃ x4 : List (Int), (x4.length = 255 ∧ cellsAt h2 a1 0 (x4.map (Sc.enc (.int .u8)))) ∧
  Runs Tryz.prog (Instr.storeAt 117 (.pointer (some a1)) (.agg (x4.map (Sc.enc (.int .u8))).toArray)) h2 fun _ h5 =>
  ∃ res5 : List (Int), (res5.length = 255 ∧ cellsAt h5 a1 0 (res5.map (Sc.enc (.int .u8)))) ∧
  R (.agg (res5.map (Sc.enc (.int .u8))).toArray) h5)) ((1 : Int), (0 : Int)) h1
theorem gf_powers_run  {R : Value → Heap → Prop} {h : Heap} (hm : gf_powers_m  R h) : Meets Tryz.prog 68 #[] h R := fn_tie C_ok Tryz.func68 (.two .n (.two .n (.two (.two .n (.inn (.loop [(1, (.sc (.int .u8))), (3, (.sc (.int .i64)))] [(1, 12)] .n))) .n))) hm
abbrev gf_logs_id : FuncId := 69
noncomputable def gf_logs_m (l_0 : List (Int)) (R : Value → Heap → Prop) (h : Heap) : Prop :=
  RunsA Tryz.prog (Instr.box 117 (.agg (l_0.map (Sc.enc (.int .u8))).toArray)) h fun a1 h1 =>
  RunsA Tryz.prog (Instr.alloc 119 true (.tuple #[])) h1 fun a2 h2 =>
  ∃ x3 : List (Int), (x3.length = 255 ∧ cellsAt h2 a1 0 (x3.map (Sc.enc (.int .u8)))) ∧
  LoopM (σ := Int) (fun s4 K1 h3 =>
  Br (decide (s4 < (255 : Int)))
  (∃ x5 : Int, (0 ≤ s4 ∧ s4 < ((255 : Nat) : Int) ∧ ((x3.map (Sc.enc (.int .u8))).toArray : Array Value)[s4.toNat]? = some (.int .u8 x5)) ∧
  (0 ≤ x5 ∧ x5 < ((256 : Nat) : Int)) ∧
  Runs Tryz.prog (Instr.storeAt 3 (.pointer (some (a2.add (x5.toNat * 1)))) (.int .i64 s4)) h3 fun _ h4 =>
  K1 (IntKind.wrap .i64 (s4 + (1 : Int))) h4)
  (∃ x6 : List (Int), (x6.length = 256 ∧ cellsAt h3 a2 0 (x6.map (Sc.enc (.int .i64)))) ∧
  Runs Tryz.prog (Instr.storeAt 119 (.pointer (some a2)) (.agg (x6.map (Sc.enc (.int .i64))).toArray)) h3 fun _ h5 =>
  ∃ res7 : List (Int), (res7.length = 256 ∧ cellsAt h5 a2 0 (res7.map (Sc.enc (.int .i64)))) ∧
  R (.agg (res7.map (Sc.enc (.int .i64))).toArray) h5)) (0 : Int) h2
theorem gf_logs_run (l_0 : List (Int)) {R : Value → Heap → Prop} {h : Heap} (hm : gf_logs_m l_0 R h) : Meets Tryz.prog 69 #[(.agg (l_0.map (Sc.enc (.int .u8))).toArray)] h R := fn_tie C_ok Tryz.func69 (.two .n (.two (.two .n (.inn (.loop [(6, (.sc (.int .i64)))] [(3, 5), (6, 14)] .n))) .n)) hm
abbrev pre_Rows_id : FuncId := 70
noncomputable def pre_Rows_m (p_0 : Int × Int × Int) (R : Value → Heap → Prop) (h : Heap) : Prop :=
  RunsA Tryz.prog (Instr.box 25 (.agg #[(.int .i64 p_0.1), (.int .i64 p_0.2.1), (.int .i64 p_0.2.2)])) h fun a1 h1 =>
  ∃ x2 : Int × Int × Int, cellsAt h1 a1 0 [(.int .i64 x2.1), (.int .i64 x2.2.1), (.int .i64 x2.2.2)] ∧
  CallM Tryz.prog 25 #[(.agg #[(.int .i64 x2.1), (.int .i64 x2.2.1), (.int .i64 x2.2.2)])] (.one (.sc .bool)) h1 fun r3 h2 =>
  Br (!r3)
  (R (.slice none 0 0) h2)
  (CallM Tryz.prog 39 #[] (.one (.sc .ptr)) h2 fun r4 h3 =>
  ∃ x5 : Int, cellOf h3 (a1.add 1) = some (.int .i64 x5) ∧
  LoopM (σ := Sl × Int) (fun s6 K1 h4 =>
  Br (decide (s6.2 < x5))
  (JoinM (σ := Sl) (fun s11 h7 =>
  ∃ x12 : Int, cellOf h7 a1 = some (.int .i64 x12) ∧
  LoopM (σ := Int) (fun s13 K3 h8 =>
  Br (decide (s13 < x12))
  (CallM Tryz.prog 118 #[(.pointer r4), (.int .i64 (IntKind.wrap .i64 ((IntKind.wrap .i64 (s6.2 + (1 : Int))) * (IntKind.wrap .i64 (s13 + (1 : Int))))))] (.one (.sc (.int .u8))) h8 fun r14 h9 =>
  ∃ a15 : Addr, (s11.ptr = some a15 ∧ 0 ≤ s13 ∧ s13 < ((s11.len : Nat) : Int)) ∧
  Runs Tryz.prog (Instr.storeAt 5 (.pointer (some (a15.add (s13.toNat * 1)))) (.int .u8 r14)) h9 fun _ h10 =>
  K3 (IntKind.wrap .i64 (s13 + (1 : Int))) h10)
  (RunsR Tryz.prog (Instr.buildSlice 70 1 #[(0, (.slice s11.ptr s11.len s11.cap))]) (.one (.sc .slc)) h8 fun v16 h11 =>
  RunsR Tryz.prog (Builtin.append_ #[70, 70] 70 #[(.slice s6.1.ptr s6.1.len s6.1.cap), (.slice v16.ptr v16.len v16.cap)]) (.one (.sc .slc)) h11 fun v17 h12 =>
  K1 ((⟨v17.ptr, v17.len, v17.cap⟩ : Sl), IntKind.wrap .i64 (s6.2 + (1 : Int))) h12)) (0 : Int) h7)
  (fun K2 =>
  ∃ x7 : Int × Int × Int, cellsAt h4 a1 0 [(.int .i64 x7.1), (.int .i64 x7.2.1), (.int .i64 x7.2.2)] ∧
  ∃ x8 : Int, cellOf h4 a1 = some (.int .i64 x8) ∧
  CallM Tryz.prog 28 #[(.agg #[(.int .i64 x7.1), (.int .i64 x7.2.1), (.int .i64 x7.2.2)])] (.one (.sc (.int .i64))) h4 fun r9 h5 =>
  (Held.ok [(a1, (.int .i64 x8))] h5) ∧
  CallM Tryz.prog 117 #[(.int .i64 r9), (.int .i64 (IntKind.wrap .i64 (x8 + s6.2)))] (.one (.sc .slc)) h5 fun r10 h6 =>
  (Held.ok [(a1, (.int .i64 x8))] h6) ∧
  K2 (⟨r10.ptr, r10.len, r10.cap⟩ : Sl) h6))
  (R (.slice s6.1.ptr s6.1.len s6.1.cap) h4)) ((⟨none, 0, 0⟩ : Sl), (0 : Int)) h3)
theorem pre_Rows_run (p_0 : Int × Int × Int) {R : Value → Heap → Prop} {h : Heap} (hm : pre_Rows_m p_0 R h) : Meets Tryz.prog 70 #[(.agg #[(.int .i64 p_0.1), (.int .i64 p_0.2.1), (.int .i64 p_0.2.2)])] h R := fn_tie C_ok Tryz.func70 (.two .n (.two .n (.two .n (.two .n (.two (.two .n (.inn (.loop [(4, (.sc .slc)), (14, (.sc (.int .i64)))] [(4, 8), (14, 45)] (.two .n (.two .n (.two (.inn (.two .n (.two (.join [(6, (.sc .slc))] [(6, 7), (17, 24)] .n) (.two (.two .n (.inn (.loop [(26, (.sc (.int .i64)))] [(7, 8), (26, 40)] .n))) .n)))) .n)))))) .n))))) hm
abbrev lt_Row_id : FuncId := 71
noncomputable def lt_Row_m (p_0 : Int × Int × Int) (seed_1 : Int) (id_2 : Int) (R : Value → Heap → Prop) (h : Heap) : Prop :=
  RunsA Tryz.prog (Instr.box 25 (.agg #[(.int .i64 p_0.1), (.int .i64 p_0.2.1), (.int .i64 p_0.2.2)])) h fun a1 h1 =>
  JoinM (σ := Unit) (fun _ h3 =>
  ∃ x5 : Int × Int × Int, cellsAt h3 a1 0 [(.int .i64 x5.1), (.int .i64 x5.2.1), (.int .i64 x5.2.2)] ∧
  CallM Tryz.prog 28 #[(.agg #[(.int .i64 x5.1), (.int .i64 x5.2.1), (.int .i64 x5.2.2)])] (.one (.sc (.int .i64))) h3 fun r6 h4 =>
  RunsR Tryz.prog (Instr.makeSlice 23 (.int .i64 r6) (.int .i64 r6)) (.one (.sc .slc)) h4 fun v7 h5 =>
  ∃ x8 : Int × Int × Int, cellsAt h5 a1 0 [(.int .i64 x8.1), (.int .i64 x8.2.1), (.int .i64 x8.2.2)] ∧
  CallM Tryz.prog 37 #[(.agg #[(.int .i64 x8.1), (.int .i64 x8.2.1), (.int .i64 x8.2.2)]), (.int .u32 seed_1), (.int .i64 id_2)] (.one (.sc .slc)) h5 fun r9 h6 =>
  LoopM (σ := Int) (fun s10 K2 h7 =>
  Br (decide (s10 < ((r9.len : Nat) : Int)))
  (∃ a11 : Addr, (r9.ptr = some a11 ∧ 0 ≤ s10 ∧ s10 < ((r9.len : Nat) : Int)) ∧
  ∃ x12 : Int, cellOf h7 (a11.add (s10.toNat * 1)) = some (.int .i64 x12) ∧
  ∃ a13 : Addr, (v7.ptr = some a13 ∧ 0 ≤ x12 ∧ x12 < ((v7.len : Nat) : Int)) ∧
  Runs Tryz.prog (Instr.storeAt 5 (.pointer (some (a13.add (x12.toNat * 1)))) (.int .u8 (1 : Int))) h7 fun _ h8 =>
  K2 (IntKind.wrap .i64 (s10 + (1 : Int))) h8)
  (R (.slice v7.ptr v7.len v7.cap) h7)) (0 : Int) h6)
  (fun K1 =>
  ∃ x2 : Int × Int × Int, cellsAt h1 a1 0 [(.int .i64 x2.1), (.int .i64 x2.2.1), (.int .i64 x2.2.2)] ∧
  CallM Tryz.prog 25 #[(.agg #[(.int .i64 x2.1), (.int .i64 x2.2.1), (.int .i64 x2.2.2)])] (.one (.sc .bool)) h1 fun r3 h2 =>
  Br (!r3) (R (.slice none 0 0) h2) (Br (decide (id_2 < (0 : Int))) (R (.slice none 0 0) h2) (Br (decide (id_2 > (65535 : Int)))
  (R (.slice none 0 0) h2)
  (K1 () h2))))
theorem lt_Row_run (p_0 : Int × Int × Int) (seed_1 : Int) (id_2 : Int) {R : Value → Heap → Prop} {h : Heap} (hm : lt_Row_m p_0 seed_1 id_2 R h) : Meets Tryz.prog 71 #[(.agg #[(.int .i64 p_0.1), (.int .i64 p_0.2.1), (.int .i64 p_0.2.2)]), (.int .u32 seed_1), (.int .i64 id_2)] h R := fn_tie C_ok Tryz.func71 (.two .n (.two (.join [] [(6, 7), (10, 21)] .n) (.two .n (.two (.two .n (.inn (.loop [(29, (.sc (.int .i64)))] [(9, 10), (29, 37)] .n))) .n)))) hm
abbrev wellspringref01_MayMat_id : FuncId := 72
noncomputable def wellspringref01_MayMat_m (a_0 : Sl) (R : Value → Heap → Prop) (h : Heap) : Prop :=
  LoopM (σ := Int) (fun s1 K1 h1 =>
  Br (decide (s1 < ((a_0.len : Nat) : Int)))
  (∃ a2 : Addr, (a_0.ptr = some a2 ∧ 0 ≤ s1 ∧ s1 < ((a_0.len : Nat) : Int)) ∧
  ∃ x3 : Sl, cellOf h1 (a2.add (s1.toNat * 1)) = some (.slice x3.ptr x3.len x3.cap) ∧
  ∃ a4 : Addr, (a_0.ptr = some a4 ∧ 0 ≤ (0 : Int) ∧ (0 : Int) < ((a_0.len : Nat) : Int)) ∧
  ∃ x5 : Sl, cellOf h1 (a4.add ((0 : Int).toNat * 1)) = some (.slice x5.ptr x5.len x5.cap) ∧
  Br (((x3.len : Nat) : Int) != ((x5.len : Nat) : Int)) (R (.bool false) h1) (∃ a6 : Addr, (a_0.ptr = some a6 ∧ 0 ≤ s1 ∧ s1 < ((a_0.len : Nat) : Int)) ∧
  ∃ x7 : Sl, cellOf h1 (a6.add (s1.toNat * 1)) = some (.slice x7.ptr x7.len x7.cap) ∧
  Br (decide (((x7.len : Nat) : Int) > (64 : Int)))
  (R (.bool false) h1)
  (K1 (IntKind.wrap .i64 (s1 + (1 : Int))) h1)))
  (R (.bool true) h1)) (0 : Int) h
theorem wellspringref01_MayMat_run (a_0 : Sl) {R : Value → Heap → Prop} {h : Heap} (hm : wellspringref01_MayMat_m a_0 R h) : Meets Tryz.prog 72 #[(.slice a_0.ptr a_0.len a_0.cap)] h R := fn_tie C_ok Tryz.func72 (.two .n (.two (.two .n (.inn (.loop [(6, (.sc (.int .i64)))] [(2, 4), (6, 28)] .n))) .n)) hm
abbrev wellspringref01_Rank_id : FuncId := 73
noncomputable def wellspringref01_Rank_m (a_0 : Sl) (R : Value → Heap → Prop) (h : Heap) : Prop :=
  CallM Tryz.prog 119 #[(.slice a_0.ptr a_0.len a_0.cap)] (.one (.sc .slc)) h fun r1 h1 =>
  R (.int .i64 ((r1.len : Nat) : Int)) h1
theorem wellspringref01_Rank_run (a_0 : Sl) {R : Value → Heap → Prop} {h : Heap} (hm : wellspringref01_Rank_m a_0 R h) : Meets Tryz.prog 73 #[(.slice a_0.ptr a_0.len a_0.cap)] h R := fn_tie C_ok Tryz.func73 .n hm
abbrev wellspringref01_Inv_id : FuncId := 74
noncomputable def wellspringref01_Inv_m (a_0 : Int) (R : Value → Heap → Prop) (h : Heap) : Prop :=
  LoopM (σ := Int) (fun s1 K1 h1 =>
  Br (decide (s1 < (256 : Int)))
  (CallM Tryz.prog 120 #[(.int .u8 a_0), (.int .u8 (IntKind.wrap .u8 s1))] (.one (.sc (.int .u8))) h1 fun r2 h2 =>
  Br (r2 == (1 : Int))
  (R (.int .u8 (IntKind.wrap .u8 s1)) h2)
  (K1 (IntKind.wrap .i64 (s1 + (1 : Int))) h2))
  (R (.int .u8 (0 : Int)) h1)) (1 : Int) h
theorem wellspringref01_Inv_run (a_0 : Int) {R : Value → Heap → Prop} {h : Heap} (hm : wellspringref01_Inv_m a_0 R h) : Meets Tryz.prog 74 #[(.int .u8 a_0)] h R := fn_tie C_ok Tryz.func74 (.two .n (.two (.two .n (.inn (.loop [(3, (.sc (.int .i64)))] [(2, 15)] .n))) .n)) hm
abbrev wellspringref01_Scale_id : FuncId := 75
noncomputable def wellspringref01_Scale_m (c_0 : Int) (a_1 : Sl) (R : Value → Heap → Prop) (h : Heap) : Prop :=
  RunsR Tryz.prog (Instr.makeSlice 23 (.int .i64 ((a_1.len : Nat) : Int)) (.int .i64 ((a_1.len : Nat) : Int))) (.one (.sc .slc)) h fun v1 h1 =>
  CallM Tryz.prog 76 #[(.int .u8 c_0), (.slice a_1.ptr a_1.len a_1.cap), (.slice v1.ptr v1.len v1.cap)] (.one (.sc .slc)) h1 fun r2 h2 =>
  R (.slice r2.ptr r2.len r2.cap) h2
theorem wellspringref01_Scale_run (c_0 : Int) (a_1 : Sl) {R : Value → Heap → Prop} {h : Heap} (hm : wellspringref01_Scale_m c_0 a_1 R h) : Meets Tryz.prog 75 #[(.int .u8 c_0), (.slice a_1.ptr a_1.len a_1.cap)] h R := fn_tie C_ok Tryz.func75 .n hm
abbrev wellspringref01_Axpy_id : FuncId := 76
noncomputable def wellspringref01_Axpy_m (c_0 : Int) (a_1 : Sl) (b_2 : Sl) (R : Value → Heap → Prop) (h : Heap) : Prop :=
  RunsR Tryz.prog (Instr.makeSlice 23 (.int .i64 ((b_2.len : Nat) : Int)) (.int .i64 ((b_2.len : Nat) : Int))) (.one (.sc .slc)) h fun v1 h1 =>
  LoopM (σ := Int) (fun s2 K1 h2 =>
  Br (decide (s2 < ((b_2.len : Nat) : Int)))
  (∃ a3 : Addr, (b_2.ptr = some a3 ∧ 0 ≤ s2 ∧ s2 < ((b_2.len : Nat) : Int)) ∧
  ∃ x4 : Int, cellOf h2 (a3.add (s2.toNat * 1)) = some (.int .u8 x4) ∧
  ∃ a5 : Addr, (a_1.ptr = some a5 ∧ 0 ≤ s2 ∧ s2 < ((a_1.len : Nat) : Int)) ∧
  ∃ x6 : Int, cellOf h2 (a5.add (s2.toNat * 1)) = some (.int .u8 x6) ∧
  CallM Tryz.prog 120 #[(.int .u8 c_0), (.int .u8 x6)] (.one (.sc (.int .u8))) h2 fun r7 h3 =>
  (Held.ok [(a3.add (s2.toNat * 1), (.int .u8 x4))] h3) ∧
  ∃ a8 : Addr, (v1.ptr = some a8 ∧ 0 ≤ s2 ∧ s2 < ((v1.len : Nat) : Int)) ∧
  Runs Tryz.prog (Instr.storeAt 5 (.pointer (some (a8.add (s2.toNat * 1)))) (.int .u8 (IntKind.wrap .u8 ((BitVec.ofInt (IntKind.bits .u8) x4 ^^^ (BitVec.ofInt (IntKind.bits .u8) r7)).toNat : Nat)))) h3 fun _ h4 =>
  (Held.ok [] h4) ∧
  K1 (IntKind.wrap .i64 (s2 + (1 : Int))) h4)
  (R (.slice v1.ptr v1.len v1.cap) h2)) (0 : Int) h1
theorem wellspringref01_Axpy_run (c_0 : Int) (a_1 : Sl) (b_2 : Sl) {R : Value → Heap → Prop} {h : Heap} (hm : wellspringref01_Axpy_m c_0 a_1 b_2 R h) : Meets Tryz.prog 76 #[(.int .u8 c_0), (.slice a_1.ptr a_1.len a_1.cap), (.slice b_2.ptr b_2.len b_2.cap)] h R := fn_tie C_ok Tryz.func76 (.two .n (.two .n (.two (.two .n (.inn (.loop [(14, (.sc (.int .i64)))] [(8, 9), (14, 32)] .n))) .n))) hm
abbrev wellspringref01_Lead_id : FuncId := 77
noncomputable def wellspringref01_Lead_m (a_0 : Sl) (R : Value → Heap → Prop) (h : Heap) : Prop :=
  LoopM (σ := Int) (fun s1 K1 h1 =>
  Br (decide (s1 < ((a_0.len : Nat) : Int)))
  (∃ a2 : Addr, (a_0.ptr = some a2 ∧ 0 ≤ s1 ∧ s1 < ((a_0.len : Nat) : Int)) ∧
  ∃ x3 : Int, cellOf h1 (a2.add (s1.toNat * 1)) = some (.int .u8 x3) ∧
  Br (x3 != (0 : Int))
  (R (.int .i64 s1) h1)
  (K1 (IntKind.wrap .i64 (s1 + (1 : Int))) h1))
  (R (.int .i64 (-1 : Int)) h1)) (0 : Int) h
theorem wellspringref01_Lead_run (a_0 : Sl) {R : Value → Heap → Prop} {h : Heap} (hm : wellspringref01_Lead_m a_0 R h) : Meets Tryz.prog 77 #[(.slice a_0.ptr a_0.len a_0.cap)] h R := fn_tie C_ok Tryz.func77 (.two .n (.two (.two .n (.inn (.loop [(6, (.sc (.int .i64)))] [(2, 4), (6, 16)] .n))) .n)) hm
abbrev wellspringref01_Ahead_id : FuncId := 78
noncomputable def wellspringref01_Ahead_m (p_0 : Int × Int × Int) (R : Value → Heap → Prop) (h : Heap) : Prop :=
  RunsA Tryz.prog (Instr.box 25 (.agg #[(.int .i64 p_0.1), (.int .i64 p_0.2.1), (.int .i64 p_0.2.2)])) h fun a1 h1 =>
  JoinM (σ := Sl) (fun s18 h12 =>
  R (.slice s18.ptr s18.len s18.cap) h12)
  (fun K1 =>
  LoopM (σ := Sl × Int) (fun s2 K2 h2 =>
  JoinM (σ := Unit) (fun _ h4 =>
  ∃ x7 : Int, cellOf h4 a1 = some (.int .i64 x7) ∧
  ∃ x8 : Int, cellOf h4 (a1.add 1) = some (.int .i64 x8) ∧
  RunsR Tryz.prog (Instr.makeSlice 23 (.int .i64 (IntKind.wrap .i64 (x7 + x8))) (.int .i64 (IntKind.wrap .i64 (x7 + x8)))) (.one (.sc .slc)) h4 fun v9 h5 =>
  LoopM (σ := Int) (fun s10 K4 h6 =>
  ∃ x11 : Int, cellOf h6 a1 = some (.int .i64 x11) ∧
  Br (decide (s10 < x11))
  (CallM Tryz.prog 121 #[(.int .i64 (IntKind.wrap .i64 ((IntKind.wrap .i64 (s2.2 + (1 : Int))) * (IntKind.wrap .i64 (s10 + (1 : Int))))))] (.one (.sc (.int .u8))) h6 fun r12 h7 =>
  ∃ a13 : Addr, (v9.ptr = some a13 ∧ 0 ≤ s10 ∧ s10 < ((v9.len : Nat) : Int)) ∧
  Runs Tryz.prog (Instr.storeAt 5 (.pointer (some (a13.add (s10.toNat * 1)))) (.int .u8 r12)) h7 fun _ h8 =>
  K4 (IntKind.wrap .i64 (s10 + (1 : Int))) h8)
  (∃ x14 : Int, cellOf h6 a1 = some (.int .i64 x14) ∧
  ∃ a15 : Addr, (v9.ptr = some a15 ∧ 0 ≤ (IntKind.wrap .i64 (x14 + s2.2)) ∧ (IntKind.wrap .i64 (x14 + s2.2)) < ((v9.len : Nat) : Int)) ∧
  Runs Tryz.prog (Instr.storeAt 5 (.pointer (some (a15.add ((IntKind.wrap .i64 (x14 + s2.2)).toNat * 1)))) (.int .u8 (1 : Int))) h6 fun _ h9 =>
  RunsR Tryz.prog (Instr.buildSlice 70 1 #[(0, (.slice v9.ptr v9.len v9.cap))]) (.one (.sc .slc)) h9 fun v16 h10 =>
  RunsR Tryz.prog (Builtin.append_ #[70, 70] 70 #[(.slice s2.1.ptr s2.1.len s2.1.cap), (.slice v16.ptr v16.len v16.cap)]) (.one (.sc .slc)) h10 fun v17 h11 =>
  K2 ((⟨v17.ptr, v17.len, v17.cap⟩ : Sl), IntKind.wrap .i64 (s2.2 + (1 : Int))) h11)) (0 : Int) h5)
  (fun K3 =>
  ∃ x3 : Int, cellOf h2 (a1.add 1) = some (.int .i64 x3) ∧
  Br (decide (s2.2 < x3)) (∃ x4 : Int × Int × Int, cellsAt h2 a1 0 [(.int .i64 x4.1), (.int .i64 x4.2.1), (.int .i64 x4.2.2)] ∧
  CallM Tryz.prog 41 #[(.agg #[(.int .i64 x4.1), (.int .i64 x4.2.1), (.int .i64 x4.2.2)])] (.one (.sc .bool)) h2 fun r5 h3 =>
  Br r5
  (K3 () h3)
  (K1 (⟨s2.1.ptr, s2.1.len, s2.1.cap⟩ : Sl) h3)) (K1 (⟨s2.1.ptr, s2.1.len, s2.1.cap⟩ : Sl) h2))) ((⟨none, 0, 0⟩ : Sl), (0 : Int)) h1)
theorem wellspringref01_Ahead_run (p_0 : Int × Int × Int) {R : Value → Heap → Prop} {h : Heap} (hm : wellspringref01_Ahead_m p_0 R h) : Meets Tryz.prog 78 #[(.agg #[(.int .i64 p_0.1), (.int .i64 p_0.2.1), (.int .i64 p_0.2.2)])] h R := fn_tie C_ok Tryz.func78 (.two .n (.two .n (.two (.join [(3, (.sc .slc))] [(3, 48)] (.two .n (.inn (.loop [(3, (.sc .slc)), (4, (.sc (.int .i64)))] [(3, 48)] (.two (.join [] [(7, 15)] .n) (.two (.inn (.two .n (.two (.two .n (.inn (.loop [(6, (.sc (.int .i64)))] [(6, 7), (23, 38)] .n))) .n))) .n)))))) .n))) hm
abbrev wellspringref01_Row_id : FuncId := 79
noncomputable def wellspringref01_Row_m (p_0 : Int × Int × Int) (seed_1 : Int) (id_2 : Int) (R : Value → Heap → Prop) (h : Heap) : Prop :=
  RunsA Tryz.prog (Instr.box 25 (.agg #[(.int .i64 p_0.1), (.int .i64 p_0.2.1), (.int .i64 p_0.2.2)])) h fun a1 h1 =>
  JoinM (σ := Unit) (fun _ h4 =>
  ∃ x6 : Int × Int × Int, cellsAt h4 a1 0 [(.int .i64 x6.1), (.int .i64 x6.2.1), (.int .i64 x6.2.2)] ∧
  CallM Tryz.prog 84 #[(.agg #[(.int .i64 x6.1), (.int .i64 x6.2.1), (.int .i64 x6.2.2)])] (.one (.sc (.int .i64))) h4 fun r7 h5 =>
  RunsR Tryz.prog (Instr.makeSlice 23 (.int .i64 r7) (.int .i64 r7)) (.one (.sc .slc)) h5 fun v8 h6 =>
  ∃ x9 : Int × Int × Int, cellsAt h6 a1 0 [(.int .i64 x9.1), (.int .i64 x9.2.1), (.int .i64 x9.2.2)] ∧
  CallM Tryz.prog 46 #[(.agg #[(.int .i64 x9.1), (.int .i64 x9.2.1), (.int .i64 x9.2.2)]), (.int .u32 seed_1), (.int .i64 id_2)] (.one (.sc .slc)) h6 fun r10 h7 =>
  LoopM (σ := Int) (fun s11 K2 h8 =>
  Br (decide (s11 < ((r10.len : Nat) : Int)))
  (∃ a12 : Addr, (r10.ptr = some a12 ∧ 0 ≤ s11 ∧ s11 < ((r10.len : Nat) : Int)) ∧
  ∃ x13 : Int, cellOf h8 (a12.add (s11.toNat * 1)) = some (.int .i64 x13) ∧
  ∃ a14 : Addr, (v8.ptr = some a14 ∧ 0 ≤ x13 ∧ x13 < ((v8.len : Nat) : Int)) ∧
  Runs Tryz.prog (Instr.storeAt 5 (.pointer (some (a14.add (x13.toNat * 1)))) (.int .u8 (1 : Int))) h8 fun _ h9 =>
  K2 (IntKind.wrap .i64 (s11 + (1 : Int))) h9)
  (R (.slice v8.ptr v8.len v8.cap) h8)) (0 : Int) h7)
  (fun K1 =>
  ∃ x2 : Int × Int × Int, cellsAt h1 a1 0 [(.int .i64 x2.1), (.int .i64 x2.2.1), (.int .i64 x2.2.2)] ∧
  CallM Tryz.prog 41 #[(.agg #[(.int .i64 x2.1), (.int .i64 x2.2.1), (.int .i64 x2.2.2)])] (.one (.sc .bool)) h1 fun r3 h2 =>
  Br (!r3) (R (.slice none 0 0) h2) (CallM Tryz.prog 42 #[(.int .i64 id_2)] (.one (.sc .bool)) h2 fun r4 h3 =>
  Br (!r4)
  (R (.slice none 0 0) h3)
  (K1 () h3)))
theorem wellspringref01_Row_run (p_0 : Int × Int × Int) (seed_1 : Int) (id_2 : Int) {R : Value → Heap → Prop} {h : Heap} (hm : wellspringref01_Row_m p_0 seed_1 id_2 R h) : Meets Tryz.prog 79 #[(.agg #[(.int .i64 p_0.1), (.int .i64 p_0.2.1), (.int .i64 p_0.2.2)]), (.int .u32 seed_1), (.int .i64 id_2)] h R := fn_tie C_ok Tryz.func79 (.two .n (.two (.join [] [(6, 7), (10, 18)] .n) (.two .n (.two (.two .n (.inn (.loop [(26, (.sc (.int .i64)))] [(9, 10), (26, 34)] .n))) .n)))) hm
abbrev wellspringref01_Sum_id : FuncId := 80
noncomputable def wellspringref01_Sum_m (a_0 : Sl) (b_1 : Sl) (R : Value → Heap → Prop) (h : Heap) : Prop :=
  CallM Tryz.prog 76 #[(.int .u8 (1 : Int)), (.slice a_0.ptr a_0.len a_0.cap), (.slice b_1.ptr b_1.len b_1.cap)] (.one (.sc .slc)) h fun r1 h1 =>
  R (.slice r1.ptr r1.len r1.cap) h1
theorem wellspringref01_Sum_run (a_0 : Sl) (b_1 : Sl) {R : Value → Heap → Prop} {h : Heap} (hm : wellspringref01_Sum_m a_0 b_1 R h) : Meets Tryz.prog 80 #[(.slice a_0.ptr a_0.len a_0.cap), (.slice b_1.ptr b_1.len b_1.cap)] h R := fn_tie C_ok Tryz.func80 .n hm
abbrev wellspringref01_Draw_Next_id : FuncId := 81
noncomputable def wellspringref01_Draw_Next_m (d_0 : Option Addr) (R : Value → Heap → Prop) (h : Heap) : Prop :=
  ∃ a1 : Addr, (d_0 = some a1) ∧
  ∃ x2 : Int, cellOf h a1 = some (.int .u64 x2) ∧
  ∃ a3 : Addr, (d_0 = some a3) ∧
  Runs Tryz.prog (Instr.storeAt 130 (.pointer (some a3)) (.int .u64 (IntKind.wrap .u64 ((IntKind.wrap .u64 (x2 * (6364136223846793005 : Int))) + (1442695040888963407 : Int))))) h fun _ h1 =>
  ∃ a4 : Addr, (d_0 = some a4) ∧
  ∃ x5 : Int, cellOf h1 a4 = some (.int .u64 x5) ∧
  (0 ≤ (32 : Int)) ∧
  R (.int .u32 (IntKind.wrap .u32 (Int.fdiv x5 (2 ^ min (32 : Int).toNat (IntKind.bits .u64))))) h1
theorem wellspringref01_Draw_Next_run (d_0 : Option Addr) {R : Value → Heap → Prop} {h : Heap} (hm : wellspringref01_Draw_Next_m d_0 R h) : Meets Tryz.prog 81 #[(.pointer d_0)] h R := fn_tie C_ok Tryz.func81 .n hm
abbrev wellspringref01_DrawDegree_id : FuncId := 82
noncomputable def wellspringref01_DrawDegree_m (t_0 : Sl) (d_1 : Option Addr) (R : Value → Heap → Prop) (h : Heap) : Prop :=
  Br (((t_0.len : Nat) : Int) == (0 : Int))
  (R (.int .i64 (0 : Int)) h)
  (∃ a1 : Addr, (t_0.ptr = some a1 ∧ 0 ≤ (IntKind.wrap .i64 (((t_0.len : Nat) : Int) - (1 : Int))) ∧ (IntKind.wrap .i64 (((t_0.len : Nat) : Int) - (1 : Int))) < ((t_0.len : Nat) : Int)) ∧
  ∃ x2 : Int, cellOf h (a1.add ((IntKind.wrap .i64 (((t_0.len : Nat) : Int) - (1 : Int))).toNat * 1)) = some (.int .i64 x2) ∧
  CallM Tryz.prog 123 #[(.pointer d_1), (.int .i64 x2)] (.one (.sc (.int .i64))) h fun r3 h1 =>
  CallM Tryz.prog 122 #[(.slice t_0.ptr t_0.len t_0.cap), (.int .i64 r3)] (.one (.sc (.int .i64))) h1 fun r4 h2 =>
  R (.int .i64 r4) h2)
theorem wellspringref01_DrawDegree_run (t_0 : Sl) (d_1 : Option Addr) {R : Value → Heap → Prop} {h : Heap} (hm : wellspringref01_DrawDegree_m t_0 d_1 R h) : Meets Tryz.prog 82 #[(.slice t_0.ptr t_0.len t_0.cap), (.pointer d_1)] h R := fn_tie C_ok Tryz.func82 .n hm
abbrev wellspringref01_Table_id : FuncId := 83
noncomputable def wellspringref01_Table_m (l_0 : Int) (R : Value → Heap → Prop) (h : Heap) : Prop :=
  JoinM (σ := Unit) (fun _ h1 =>
  LoopM (σ := Int) (fun s2 K2 h2 =>
  Br (decide ((IntKind.wrap .i64 (s2 * s2)) < l_0))
  (K2 (IntKind.wrap .i64 (s2 + (1 : Int))) h2)
  ((s2 ≠ 0) ∧
  LoopM (σ := Int × Int) (fun s3 K3 h3 =>
  Br (decide (s3.2 > (0 : Int)))
  (((2 : Int) ≠ 0) ∧
  K3 (IntKind.wrap .i64 (s3.1 + (1 : Int)), IntKind.wrap .i64 (Int.tdiv s3.2 (2 : Int))) h3)
  (LoopM (σ := Sl × Int × Int) (fun s4 K4 h4 =>
  Br (decide (s4.2.2 ≤ l_0))
  ((l_0 ≠ 0) ∧
  JoinM (σ := Int) (fun s5 h5 =>
  JoinM (σ := Int) (fun s6 h6 =>
  JoinM (σ := Int) (fun s7 h7 =>
  RunsR Tryz.prog (Instr.buildSlice 41 1 #[(0, (.int .i64 (IntKind.wrap .i64 (s4.2.1 + s7))))]) (.one (.sc .slc)) h7 fun v8 h8 =>
  RunsR Tryz.prog (Builtin.append_ #[41, 41] 41 #[(.slice s4.1.ptr s4.1.len s4.1.cap), (.slice v8.ptr v8.len v8.cap)]) (.one (.sc .slc)) h8 fun v9 h9 =>
  K4 ((⟨v9.ptr, v9.len, v9.cap⟩ : Sl), IntKind.wrap .i64 (s4.2.1 + s7), IntKind.wrap .i64 (s4.2.2 + (1 : Int))) h9)
  (fun K7 =>
  Br (s4.2.2 == (IntKind.wrap .i64 (Int.tdiv l_0 s2)))
  ((l_0 ≠ 0) ∧
  K7 (IntKind.wrap .i64 (s6 + (IntKind.wrap .i64 (Int.tdiv (IntKind.wrap .i64 ((IntKind.wrap .i64 ((1048576 : Int) * s2)) * s3.1)) l_0)))) h6)
  (K7 s6 h6)))
  (fun K6 =>
  Br (decide (s4.2.2 < (IntKind.wrap .i64 (Int.tdiv l_0 s2))))
  (((IntKind.wrap .i64 (l_0 * s4.2.2)) ≠ 0) ∧
  K6 (IntKind.wrap .i64 (s5 + (IntKind.wrap .i64 (Int.tdiv (IntKind.wrap .i64 ((1048576 : Int) * s2)) (IntKind.wrap .i64 (l_0 * s4.2.2)))))) h5)
  (K6 s5 h5)))
  (fun K5 =>
  Br (decide (s4.2.2 > (1 : Int)))
  (((IntKind.wrap .i64 (s4.2.2 * (IntKind.wrap .i64 (s4.2.2 - (1 : Int))))) ≠ 0) ∧
  K5 (IntKind.wrap .i64 (Int.tdiv (1048576 : Int) (IntKind.wrap .i64 (s4.2.2 * (IntKind.wrap .i64 (s4.2.2 - (1 : Int))))))) h4)
  (K5 (IntKind.wrap .i64 (Int.tdiv (1048576 : Int) l_0)) h4)))
  (R (.slice s4.1.ptr s4.1.len s4.1.cap) h4)) ((⟨none, 0, 0⟩ : Sl), (0 : Int), (1 : Int)) h3)) ((0 : Int), s2) h2)) (0 : Int) h1)
  (fun K1 =>
  Br (decide (l_0 < (1 : Int))) (R (.slice none 0 0) h) (Br (decide (l_0 > (64 : Int)))
  (R (.slice none 0 0) h)
  (K1 () h)))
theorem wellspringref01_Table_run (l_0 : Int) {R : Value → Heap → Prop} {h : Heap} (hm : wellspringref01_Table_m l_0 R h) : Meets Tryz.prog 83 #[(.int .i64 l_0)] h R := fn_tie C_ok Tryz.func83 (.two .n (.two (.join [] [(2, 3), (12, 18)] .n) (.two .n (.two .n (.two (.inn (.loop [(4, (.sc (.int .i64)))] [(4, 5), (18, 25)] .n)) (.two .n (.two (.two .n (.inn (.loop [(6, (.sc (.int .i64))), (7, (.sc (.int .i64)))] [(6, 8), (29, 35)] .n))) (.two .n (.two .n (.two (.two .n (.inn (.loop [(8, (.sc .slc)), (9, (.sc (.int .i64))), (10, (.sc (.int .i64)))] [(8, 12), (35, 82)] (.two .n (.two (.inn (.two .n (.two (.join [(11, (.sc (.int .i64)))] [(11, 12), (43, 51)] .n) (.two (.join [(11, (.sc (.int .i64)))] [(11, 12), (51, 63)] .n) (.two (.join [(11, (.sc (.int .i64)))] [(11, 12), (63, 75)] .n) .n))))) .n))))) .n)))))))))) hm
abbrev wellspringref01_Cols_id : FuncId := 84
noncomputable def wellspringref01_Cols_m (p_0 : Int × Int × Int) (R : Value → Heap → Prop) (h : Heap) : Prop :=
  RunsA Tryz.prog (Instr.box 25 (.agg #[(.int .i64 p_0.1), (.int .i64 p_0.2.1), (.int .i64 p_0.2.2)])) h fun a1 h1 =>
  ∃ x2 : Int × Int × Int, cellsAt h1 a1 0 [(.int .i64 x2.1), (.int .i64 x2.2.1), (.int .i64 x2.2.2)] ∧
  CallM Tryz.prog 41 #[(.agg #[(.int .i64 x2.1), (.int .i64 x2.2.1), (.int .i64 x2.2.2)])] (.one (.sc .bool)) h1 fun r3 h2 =>
  Br (!r3)
  (R (.int .i64 (0 : Int)) h2)
  (∃ x4 : Int, cellOf h2 a1 = some (.int .i64 x4) ∧
  ∃ x5 : Int, cellOf h2 (a1.add 1) = some (.int .i64 x5) ∧
  R (.int .i64 (IntKind.wrap .i64 (x4 + x5))) h2)
theorem wellspringref01_Cols_run (p_0 : Int × Int × Int) {R : Value → Heap → Prop} {h : Heap} (hm : wellspringref01_Cols_m p_0 R h) : Meets Tryz.prog 84 #[(.agg #[(.int .i64 p_0.1), (.int .i64 p_0.2.1), (.int .i64 p_0.2.2)])] h R := fn_tie C_ok Tryz.func84 .n hm
end Go.Proofs.YtkcplnfomahleaaGreatDoor
