/- Part of the proofs that wellspringlaw14's laws answer true whatever the input reads, and leave it as it was; no condition. -/
import Derived.Test.YtkcplnfomahleaaGreatDoorTabA
set_option linter.unusedVariables false
set_option linter.unusedSimpArgs false
namespace Go.Proofs.YtkcplnfomahleaaGreatDoor
open Go Go.Vc Go.Proofs
set_option maxRecDepth 1000000
abbrev wellspringref01_Some_id : FuncId := 85
noncomputable def wellspringref01_Some_m (d_0 : Option Addr) (n_1 : Int) (k_2 : Int) (R : Value → Heap → Prop) (h : Heap) : Prop :=
  JoinM (σ := Unit) (fun _ h1 =>
  LoopM (σ := Sl × Int) (fun s2 K2 h2 =>
  Br (decide (s2.2 < n_1))
  (RunsR Tryz.prog (Instr.buildSlice 41 1 #[(0, (.int .i64 s2.2))]) (.one (.sc .slc)) h2 fun v3 h3 =>
  RunsR Tryz.prog (Builtin.append_ #[41, 41] 41 #[(.slice s2.1.ptr s2.1.len s2.1.cap), (.slice v3.ptr v3.len v3.cap)]) (.one (.sc .slc)) h3 fun v4 h4 =>
  K2 ((⟨v4.ptr, v4.len, v4.cap⟩ : Sl), IntKind.wrap .i64 (s2.2 + (1 : Int))) h4)
  (LoopM (σ := Int) (fun s5 K3 h5 =>
  Br (decide (s5 < k_2))
  (CallM Tryz.prog 123 #[(.pointer d_0), (.int .i64 (IntKind.wrap .i64 (n_1 - s5)))] (.one (.sc (.int .i64))) h5 fun r6 h6 =>
  ∃ a7 : Addr, (s2.1.ptr = some a7 ∧ 0 ≤ (IntKind.wrap .i64 (s5 + r6)) ∧ (IntKind.wrap .i64 (s5 + r6)) < ((s2.1.len : Nat) : Int)) ∧
  ∃ x8 : Int, cellOf h6 (a7.add ((IntKind.wrap .i64 (s5 + r6)).toNat * 1)) = some (.int .i64 x8) ∧
  ∃ a9 : Addr, (s2.1.ptr = some a9 ∧ 0 ≤ s5 ∧ s5 < ((s2.1.len : Nat) : Int)) ∧
  ∃ x10 : Int, cellOf h6 (a9.add (s5.toNat * 1)) = some (.int .i64 x10) ∧
  ∃ a11 : Addr, (s2.1.ptr = some a11 ∧ 0 ≤ s5 ∧ s5 < ((s2.1.len : Nat) : Int)) ∧
  Runs Tryz.prog (Instr.storeAt 3 (.pointer (some (a11.add (s5.toNat * 1)))) (.int .i64 x8)) h6 fun _ h7 =>
  (Held.ok [] h7) ∧
  ∃ a12 : Addr, (s2.1.ptr = some a12 ∧ 0 ≤ (IntKind.wrap .i64 (s5 + r6)) ∧ (IntKind.wrap .i64 (s5 + r6)) < ((s2.1.len : Nat) : Int)) ∧
  Runs Tryz.prog (Instr.storeAt 3 (.pointer (some (a12.add ((IntKind.wrap .i64 (s5 + r6)).toNat * 1)))) (.int .i64 x10)) h7 fun _ h8 =>
  (Held.ok [] h8) ∧
  K3 (IntKind.wrap .i64 (s5 + (1 : Int))) h8)
  ((0 ≤ k_2 ∧ k_2 ≤ ((s2.1.cap : Nat) : Int)) ∧
  LoopM (σ := Int) (fun s13 K4 h9 =>
  Br (decide (s13 < ((k_2.toNat : Nat) : Int)))
  (LoopM (σ := Int) (fun s14 K5 h10 =>
  JoinM (σ := Unit) (fun _ h11 =>
  ∃ a20 : Addr, (s2.1.ptr = some a20 ∧ 0 ≤ (IntKind.wrap .i64 (s14 - (1 : Int))) ∧ (IntKind.wrap .i64 (s14 - (1 : Int))) < ((k_2.toNat : Nat) : Int)) ∧
  ∃ x21 : Int, cellOf h11 (a20.add ((IntKind.wrap .i64 (s14 - (1 : Int))).toNat * 1)) = some (.int .i64 x21) ∧
  ∃ a22 : Addr, (s2.1.ptr = some a22 ∧ 0 ≤ s14 ∧ s14 < ((k_2.toNat : Nat) : Int)) ∧
  ∃ x23 : Int, cellOf h11 (a22.add (s14.toNat * 1)) = some (.int .i64 x23) ∧
  ∃ a24 : Addr, (s2.1.ptr = some a24 ∧ 0 ≤ s14 ∧ s14 < ((k_2.toNat : Nat) : Int)) ∧
  Runs Tryz.prog (Instr.storeAt 3 (.pointer (some (a24.add (s14.toNat * 1)))) (.int .i64 x21)) h11 fun _ h12 =>
  (Held.ok [] h12) ∧
  ∃ a25 : Addr, (s2.1.ptr = some a25 ∧ 0 ≤ (IntKind.wrap .i64 (s14 - (1 : Int))) ∧ (IntKind.wrap .i64 (s14 - (1 : Int))) < ((k_2.toNat : Nat) : Int)) ∧
  Runs Tryz.prog (Instr.storeAt 3 (.pointer (some (a25.add ((IntKind.wrap .i64 (s14 - (1 : Int))).toNat * 1)))) (.int .i64 x23)) h12 fun _ h13 =>
  (Held.ok [] h13) ∧
  K5 (IntKind.wrap .i64 (s14 - (1 : Int))) h13)
  (fun K6 =>
  Br (decide (s14 > (0 : Int))) (∃ a15 : Addr, (s2.1.ptr = some a15 ∧ 0 ≤ s14 ∧ s14 < ((k_2.toNat : Nat) : Int)) ∧
  ∃ x16 : Int, cellOf h10 (a15.add (s14.toNat * 1)) = some (.int .i64 x16) ∧
  ∃ a17 : Addr, (s2.1.ptr = some a17 ∧ 0 ≤ (IntKind.wrap .i64 (s14 - (1 : Int))) ∧ (IntKind.wrap .i64 (s14 - (1 : Int))) < ((k_2.toNat : Nat) : Int)) ∧
  ∃ x18 : Int, cellOf h10 (a17.add ((IntKind.wrap .i64 (s14 - (1 : Int))).toNat * 1)) = some (.int .i64 x18) ∧
  Br (decide (x16 < x18))
  (K6 () h10)
  (K4 (IntKind.wrap .i64 (s13 + (1 : Int))) h10)) (K4 (IntKind.wrap .i64 (s13 + (1 : Int))) h10))) s13 h9)
  (R (.slice s2.1.ptr k_2.toNat s2.1.cap) h9)) (0 : Int) h5)) (0 : Int) h2)) ((⟨none, 0, 0⟩ : Sl), (0 : Int)) h1)
  (fun K1 =>
  Br (decide (n_1 < (0 : Int))) (R (.slice none 0 0) h) (Br (decide (n_1 > (64 : Int))) (R (.slice none 0 0) h) (Br (decide (k_2 < (0 : Int))) (R (.slice none 0 0) h) (Br (decide (k_2 > n_1))
  (R (.slice none 0 0) h)
  (K1 () h)))))
theorem wellspringref01_Some_run (d_0 : Option Addr) (n_1 : Int) (k_2 : Int) {R : Value → Heap → Prop} {h : Heap} (hm : wellspringref01_Some_m d_0 n_1 k_2 R h) : Meets Tryz.prog 85 #[(.pointer d_0), (.int .i64 n_1), (.int .i64 k_2)] h R := fn_tie C_ok Tryz.func85 (.two .n (.two (.join [] [(6, 7), (13, 28)] .n) (.two .n (.two (.two .n (.inn (.loop [(7, (.sc .slc)), (8, (.sc (.int .i64)))] [(7, 9), (28, 37)] .n))) (.two (.two .n (.inn (.loop [(9, (.sc (.int .i64)))] [(9, 11), (37, 63)] .n))) (.two .n (.two (.two .n (.inn (.loop [(68, (.sc (.int .i64)))] [(11, 13), (68, 105)] (.two .n (.two .n (.two (.inn (.two .n (.two .n (.inn (.loop [(12, (.sc (.int .i64)))] [(12, 13), (72, 104)] (.two (.join [] [(72, 86)] .n) .n)))))) .n)))))) .n))))))) hm
abbrev mat_Reduce_id : FuncId := 86
noncomputable def mat_Reduce_m (f_0 : Option Addr) (a_1 : Sl) (R : Value → Heap → Prop) (h : Heap) : Prop :=
  CallM Tryz.prog 62 #[(.slice a_1.ptr a_1.len a_1.cap)] (.one (.sc .bool)) h fun r1 h1 =>
  Br (!r1)
  (R (.slice none 0 0) h1)
  (CallM Tryz.prog 64 #[(.slice a_1.ptr a_1.len a_1.cap)] (.one (.sc .slc)) h1 fun r2 h2 =>
  CallM Tryz.prog 66 #[(.pointer f_0)] (.one (.sc .ptr)) h2 fun r3 h3 =>
  CallM Tryz.prog 63 #[(.slice r2.ptr r2.len r2.cap)] (.one (.sc (.int .i64))) h3 fun r4 h4 =>
  CallM Tryz.prog 65 #[(.pointer r3), (.slice r2.ptr r2.len r2.cap), (.int .i64 r4)] (.one (.sc (.int .i64))) h4 fun r5 h5 =>
  (0 ≤ r5 ∧ r5 ≤ ((r2.cap : Nat) : Int)) ∧
  R (.slice r2.ptr r5.toNat r2.cap) h5)
theorem mat_Reduce_run (f_0 : Option Addr) (a_1 : Sl) {R : Value → Heap → Prop} {h : Heap} (hm : mat_Reduce_m f_0 a_1 R h) : Meets Tryz.prog 86 #[(.pointer f_0), (.slice a_1.ptr a_1.len a_1.cap)] h R := fn_tie C_ok Tryz.func86 .n hm
abbrev peel_right_id : FuncId := 87
noncomputable def peel_right_m (n_0 : Int) (l_1 : Sl) (R : Value → Heap → Prop) (h : Heap) : Prop :=
  JoinM (σ := Unit) (fun _ h1 =>
  LoopM (σ := Int) (fun s2 K2 h2 =>
  Br (decide (s2 < ((l_1.len : Nat) : Int)))
  (∃ a3 : Addr, (l_1.ptr = some a3 ∧ 0 ≤ s2 ∧ s2 < ((l_1.len : Nat) : Int)) ∧
  ∃ x4 : Sl × Sl, cellsAt h2 (a3.add (s2.toNat * 2)) 0 [(.slice x4.1.ptr x4.1.len x4.1.cap), (.slice x4.2.ptr x4.2.len x4.2.cap)] ∧
  RunsA Tryz.prog (Instr.alloc 90 true (.tuple #[])) h2 fun a5 h3 =>
  Runs Tryz.prog (Instr.storeAt 90 (.pointer (some a5)) (.agg #[(.slice x4.1.ptr x4.1.len x4.1.cap), (.slice x4.2.ptr x4.2.len x4.2.cap)])) h3 fun _ h4 =>
  ∃ x6 : Sl, cellOf h4 a5 = some (.slice x6.ptr x6.len x6.cap) ∧
  LoopM (σ := Int) (fun s7 K3 h5 =>
  Br (decide (s7 < ((x6.len : Nat) : Int)))
  (∃ a8 : Addr, (x6.ptr = some a8 ∧ 0 ≤ s7 ∧ s7 < ((x6.len : Nat) : Int)) ∧
  ∃ x9 : Int, cellOf h5 (a8.add (s7.toNat * 1)) = some (.int .i64 x9) ∧
  Br (decide (x9 < (0 : Int))) (R (.bool false) h5) (Br (decide (x9 ≥ n_0)) (R (.bool false) h5) (Br (decide (s7 > (0 : Int))) (∃ x10 : Sl, cellOf h5 a5 = some (.slice x10.ptr x10.len x10.cap) ∧
  ∃ a11 : Addr, (x10.ptr = some a11 ∧ 0 ≤ (IntKind.wrap .i64 (s7 - (1 : Int))) ∧ (IntKind.wrap .i64 (s7 - (1 : Int))) < ((x10.len : Nat) : Int)) ∧
  ∃ x12 : Int, cellOf h5 (a11.add ((IntKind.wrap .i64 (s7 - (1 : Int))).toNat * 1)) = some (.int .i64 x12) ∧
  Br (decide (x12 ≥ x9))
  (R (.bool false) h5)
  (K3 (IntKind.wrap .i64 (s7 + (1 : Int))) h5)) (K3 (IntKind.wrap .i64 (s7 + (1 : Int))) h5))))
  (∃ x13 : Sl, cellOf h5 (a5.add 1) = some (.slice x13.ptr x13.len x13.cap) ∧
  ∃ a14 : Addr, (l_1.ptr = some a14 ∧ 0 ≤ (0 : Int) ∧ (0 : Int) < ((l_1.len : Nat) : Int)) ∧
  ∃ x15 : Sl, cellOf h5 ((a14.add ((0 : Int).toNat * 2)).add 1) = some (.slice x15.ptr x15.len x15.cap) ∧
  Br (((x13.len : Nat) : Int) != ((x15.len : Nat) : Int))
  (R (.bool false) h5)
  (K2 (IntKind.wrap .i64 (s2 + (1 : Int))) h5))) (0 : Int) h4)
  (R (.bool true) h2)) (0 : Int) h1)
  (fun K1 =>
  Br (decide (n_0 < (0 : Int))) (R (.bool false) h) (Br (decide (n_0 > (64 : Int)))
  (R (.bool false) h)
  (K1 () h)))
theorem peel_right_run (n_0 : Int) (l_1 : Sl) {R : Value → Heap → Prop} {h : Heap} (hm : peel_right_m n_0 l_1 R h) : Meets Tryz.prog 87 #[(.int .i64 n_0), (.slice l_1.ptr l_1.len l_1.cap)] h R := fn_tie C_ok Tryz.func87 (.two .n (.two (.join [] [(4, 5), (9, 15)] .n) (.two (.two .n (.inn (.loop [(17, (.sc (.int .i64)))] [(4, 5), (6, 9), (17, 61)] (.two .n (.two .n (.two (.inn (.two .n (.two (.two .n (.inn (.loop [(24, (.sc (.int .i64)))] [(4, 5), (7, 9), (24, 51)] .n))) .n))) .n)))))) .n))) hm
abbrev peel_peeler_all_id : FuncId := 88
noncomputable def peel_peeler_all_m (p_0 : Option Addr) (R : Value → Heap → Prop) (h : Heap) : Prop :=
  LoopM (σ := Unit) (fun _ K1 h1 =>
  CallM Tryz.prog 124 #[(.pointer p_0)] (.one (.sc (.int .i64))) h1 fun r2 h2 =>
  Br (decide (r2 < (0 : Int)))
  (R (.tuple #[]) h2)
  (∃ a3 : Addr, (p_0 = some a3) ∧
  ∃ x4 : Sl, cellOf h2 a3 = some (.slice x4.ptr x4.len x4.cap) ∧
  ∃ a5 : Addr, (x4.ptr = some a5 ∧ 0 ≤ r2 ∧ r2 < ((x4.len : Nat) : Int)) ∧
  ∃ x6 : Sl × Sl, cellsAt h2 (a5.add (r2.toNat * 2)) 0 [(.slice x6.1.ptr x6.1.len x6.1.cap), (.slice x6.2.ptr x6.2.len x6.2.cap)] ∧
  CallM Tryz.prog 89 #[(.pointer p_0), (.agg #[(.slice x6.1.ptr x6.1.len x6.1.cap), (.slice x6.2.ptr x6.2.len x6.2.cap)])] (.one (.agg [.slc, .slc])) h2 fun r7 h3 =>
  RunsA Tryz.prog (Instr.alloc 90 true (.tuple #[])) h3 fun a8 h4 =>
  Runs Tryz.prog (Instr.storeAt 90 (.pointer (some a8)) (.agg #[(.slice r7.1.ptr r7.1.len r7.1.cap), (.slice r7.2.ptr r7.2.len r7.2.cap)])) h4 fun _ h5 =>
  ∃ a9 : Addr, (p_0 = some a9) ∧
  ∃ x10 : Sl, cellOf h5 (a9.add 1) = some (.slice x10.ptr x10.len x10.cap) ∧
  ∃ x11 : Sl, cellOf h5 a8 = some (.slice x11.ptr x11.len x11.cap) ∧
  ∃ a12 : Addr, (x11.ptr = some a12 ∧ 0 ≤ (0 : Int) ∧ (0 : Int) < ((x11.len : Nat) : Int)) ∧
  ∃ x13 : Int, cellOf h5 (a12.add ((0 : Int).toNat * 1)) = some (.int .i64 x13) ∧
  ∃ a14 : Addr, (p_0 = some a14) ∧
  ∃ x15 : Sl, cellOf h5 (a14.add 2) = some (.slice x15.ptr x15.len x15.cap) ∧
  ∃ x16 : Sl, cellOf h5 a8 = some (.slice x16.ptr x16.len x16.cap) ∧
  ∃ a17 : Addr, (x16.ptr = some a17 ∧ 0 ≤ (0 : Int) ∧ (0 : Int) < ((x16.len : Nat) : Int)) ∧
  ∃ x18 : Int, cellOf h5 (a17.add ((0 : Int).toNat * 1)) = some (.int .i64 x18) ∧
  ∃ x19 : Sl, cellOf h5 (a8.add 1) = some (.slice x19.ptr x19.len x19.cap) ∧
  ∃ a20 : Addr, (x10.ptr = some a20 ∧ 0 ≤ x13 ∧ x13 < ((x10.len : Nat) : Int)) ∧
  Runs Tryz.prog (Instr.storeAt 4 (.pointer (some (a20.add (x13.toNat * 1)))) (.bool true)) h5 fun _ h6 =>
  (Held.ok [(a8.add 1, (.slice x19.ptr x19.len x19.cap)), (a8, (.slice x16.ptr x16.len x16.cap))] h6) ∧
  ∃ a21 : Addr, (x15.ptr = some a21 ∧ 0 ≤ x18 ∧ x18 < ((x15.len : Nat) : Int)) ∧
  Runs Tryz.prog (Instr.storeAt 23 (.pointer (some (a21.add (x18.toNat * 1)))) (.slice x19.ptr x19.len x19.cap)) h6 fun _ h7 =>
  (Held.ok [] h7) ∧
  K1 () h7)) () h
theorem peel_peeler_all_run (p_0 : Option Addr) {R : Value → Heap → Prop} {h : Heap} (hm : peel_peeler_all_m p_0 R h) : Meets Tryz.prog 88 #[(.pointer p_0)] h R := fn_tie C_ok Tryz.func88 (.scope 0 [] [(2, 37)] [] [.n] []) hm
abbrev peel_peeler_left_id : FuncId := 89
noncomputable def peel_peeler_left_m (p_0 : Option Addr) (x_1 : Sl × Sl) (R : Value → Heap → Prop) (h : Heap) : Prop :=
  RunsA Tryz.prog (Instr.box 90 (.agg #[(.slice x_1.1.ptr x_1.1.len x_1.1.cap), (.slice x_1.2.ptr x_1.2.len x_1.2.cap)])) h fun a1 h1 =>
  RunsA Tryz.prog (Instr.alloc 90 true (.tuple #[])) h1 fun a2 h2 =>
  ∃ x3 : Sl, cellOf h2 (a1.add 1) = some (.slice x3.ptr x3.len x3.cap) ∧
  CallM Tryz.prog 47 #[(.slice x3.ptr x3.len x3.cap)] (.one (.sc .slc)) h2 fun r4 h3 =>
  RunsA Tryz.prog (Instr.alloc 90 true (.tuple #[])) h3 fun a5 h4 =>
  Runs Tryz.prog (Instr.storeAt 90 (.pointer (some a5)) (.agg #[(.slice none 0 0), (.slice r4.ptr r4.len r4.cap)])) h4 fun _ h5 =>
  ∃ x6 : Sl, cellOf h5 a1 = some (.slice x6.ptr x6.len x6.cap) ∧
  LoopM (σ := Int) (fun s7 K1 h6 =>
  Br (decide (s7 < ((x6.len : Nat) : Int)))
  (∃ a8 : Addr, (x6.ptr = some a8 ∧ 0 ≤ s7 ∧ s7 < ((x6.len : Nat) : Int)) ∧
  ∃ x9 : Int, cellOf h6 (a8.add (s7.toNat * 1)) = some (.int .i64 x9) ∧
  ∃ a10 : Addr, (p_0 = some a10) ∧
  ∃ x11 : Sl, cellOf h6 (a10.add 1) = some (.slice x11.ptr x11.len x11.cap) ∧
  ∃ a12 : Addr, (x11.ptr = some a12 ∧ 0 ≤ x9 ∧ x9 < ((x11.len : Nat) : Int)) ∧
  ∃ x13 : Bool, cellOf h6 (a12.add (x9.toNat * 1)) = some (.bool x13) ∧
  Br (!x13)
  (∃ x14 : Sl, cellOf h6 a5 = some (.slice x14.ptr x14.len x14.cap) ∧
  RunsR Tryz.prog (Instr.buildSlice 41 1 #[(0, (.int .i64 x9))]) (.one (.sc .slc)) h6 fun v15 h7 =>
  RunsR Tryz.prog (Builtin.append_ #[41, 41] 41 #[(.slice x14.ptr x14.len x14.cap), (.slice v15.ptr v15.len v15.cap)]) (.one (.sc .slc)) h7 fun v16 h8 =>
  Runs Tryz.prog (Instr.storeAt 41 (.pointer (some a5)) (.slice v16.ptr v16.len v16.cap)) h8 fun _ h9 =>
  K1 (IntKind.wrap .i64 (s7 + (1 : Int))) h9)
  (∃ a17 : Addr, (p_0 = some a17) ∧
  ∃ x18 : Sl, cellOf h6 (a17.add 2) = some (.slice x18.ptr x18.len x18.cap) ∧
  ∃ a19 : Addr, (x18.ptr = some a19 ∧ 0 ≤ x9 ∧ x9 < ((x18.len : Nat) : Int)) ∧
  ∃ x20 : Sl, cellOf h6 (a19.add (x9.toNat * 1)) = some (.slice x20.ptr x20.len x20.cap) ∧
  LoopM (σ := Int) (fun s21 K2 h10 =>
  Br (decide (s21 < ((x20.len : Nat) : Int)))
  (∃ a22 : Addr, (x20.ptr = some a22 ∧ 0 ≤ s21 ∧ s21 < ((x20.len : Nat) : Int)) ∧
  ∃ x23 : Int, cellOf h10 (a22.add (s21.toNat * 1)) = some (.int .u8 x23) ∧
  ∃ x24 : Sl, cellOf h10 (a5.add 1) = some (.slice x24.ptr x24.len x24.cap) ∧
  ∃ a25 : Addr, (x24.ptr = some a25 ∧ 0 ≤ s21 ∧ s21 < ((x24.len : Nat) : Int)) ∧
  ∃ x26 : Int, cellOf h10 (a25.add (s21.toNat * 1)) = some (.int .u8 x26) ∧
  ∃ a27 : Addr, (x24.ptr = some a27 ∧ 0 ≤ s21 ∧ s21 < ((x24.len : Nat) : Int)) ∧
  Runs Tryz.prog (Instr.storeAt 5 (.pointer (some (a27.add (s21.toNat * 1)))) (.int .u8 (IntKind.wrap .u8 ((BitVec.ofInt (IntKind.bits .u8) x26 ^^^ (BitVec.ofInt (IntKind.bits .u8) x23)).toNat : Nat)))) h10 fun _ h11 =>
  K2 (IntKind.wrap .i64 (s21 + (1 : Int))) h11)
  (K1 (IntKind.wrap .i64 (s7 + (1 : Int))) h10)) (0 : Int) h6))
  (∃ x28 : Sl × Sl, cellsAt h6 a5 0 [(.slice x28.1.ptr x28.1.len x28.1.cap), (.slice x28.2.ptr x28.2.len x28.2.cap)] ∧
  Runs Tryz.prog (Instr.storeAt 90 (.pointer (some a2)) (.agg #[(.slice x28.1.ptr x28.1.len x28.1.cap), (.slice x28.2.ptr x28.2.len x28.2.cap)])) h6 fun _ h12 =>
  ∃ res29 : Sl × Sl, cellsAt h12 a2 0 [(.slice res29.1.ptr res29.1.len res29.1.cap), (.slice res29.2.ptr res29.2.len res29.2.cap)] ∧
  R (.agg #[(.slice res29.1.ptr res29.1.len res29.1.cap), (.slice res29.2.ptr res29.2.len res29.2.cap)]) h12)) (0 : Int) h5
theorem peel_peeler_left_run (p_0 : Option Addr) (x_1 : Sl × Sl) {R : Value → Heap → Prop} {h : Heap} (hm : peel_peeler_left_m p_0 x_1 R h) : Meets Tryz.prog 89 #[(.pointer p_0), (.agg #[(.slice x_1.1.ptr x_1.1.len x_1.1.cap), (.slice x_1.2.ptr x_1.2.len x_1.2.cap)])] h R := fn_tie C_ok Tryz.func89 (.two .n (.two .n (.two (.two .n (.inn (.loop [(17, (.sc (.int .i64)))] [(7, 10), (17, 58)] (.two .n (.two .n (.two (.inn (.two .n (.two .n (.two .n (.inn (.loop [(43, (.sc (.int .i64)))] [(8, 10), (43, 57)] .n)))))) .n)))))) .n))) hm
abbrev peel_nought_id : FuncId := 90
noncomputable def peel_nought_m (b_0 : Sl) (R : Value → Heap → Prop) (h : Heap) : Prop :=
  CallM Tryz.prog 55 #[(.slice b_0.ptr b_0.len b_0.cap), (.string str_0_)] (.one (.sc .slc)) h fun r1 h1 =>
  R (.bool (((r1.len : Nat) : Int) == (0 : Int))) h1
theorem peel_nought_run (b_0 : Sl) {R : Value → Heap → Prop} {h : Heap} (hm : peel_nought_m b_0 R h) : Meets Tryz.prog 90 #[(.slice b_0.ptr b_0.len b_0.cap)] h R := fn_tie C_ok Tryz.func90 .n hm
abbrev inact_Plan_id : FuncId := 91
noncomputable def inact_Plan_m (n_0 : Int) (l_1 : Sl) (R : Value → Heap → Prop) (h : Heap) : Prop :=
  RunsA Tryz.prog (Instr.alloc 94 true (.tuple #[])) h fun a1 h1 =>
  CallM Tryz.prog 125 #[(.int .i64 n_0), (.slice l_1.ptr l_1.len l_1.cap)] (.one (.sc .bool)) h1 fun r2 h2 =>
  Br (!r2)
  (Runs Tryz.prog (Instr.storeAt 94 (.pointer (some a1)) (.agg #[(.slice none 0 0), (.slice none 0 0), (.slice none 0 0)])) h2 fun _ h3 =>
  ∃ res3 : Sl × Sl × Sl, cellsAt h3 a1 0 [(.slice res3.1.ptr res3.1.len res3.1.cap), (.slice res3.2.1.ptr res3.2.1.len res3.2.1.cap), (.slice res3.2.2.ptr res3.2.2.len res3.2.2.cap)] ∧
  R (.tuple #[(.agg #[(.slice res3.1.ptr res3.1.len res3.1.cap), (.slice res3.2.1.ptr res3.2.1.len res3.2.1.cap), (.slice res3.2.2.ptr res3.2.2.len res3.2.2.cap)]), (.bool false)]) h3)
  (JoinM (σ := Option Addr) (fun s10 h10 =>
  ∃ a11 : Addr, (s10 = some a11) ∧
  ∃ x12 : Sl, cellOf h10 (a11.add 1) = some (.slice x12.ptr x12.len x12.cap) ∧
  LoopM (σ := Int) (fun s13 K2 h11 =>
  Br (decide (s13 < ((x12.len : Nat) : Int)))
  (∃ a14 : Addr, (s10 = some a14) ∧
  ∃ x15 : Sl, cellOf h11 (a14.add 1) = some (.slice x15.ptr x15.len x15.cap) ∧
  ∃ a16 : Addr, (x15.ptr = some a16 ∧ 0 ≤ s13 ∧ s13 < ((x15.len : Nat) : Int)) ∧
  Runs Tryz.prog (Instr.storeAt 4 (.pointer (some (a16.add (s13.toNat * 1)))) (.bool true)) h11 fun _ h12 =>
  K2 (IntKind.wrap .i64 (s13 + (1 : Int))) h12)
  (RunsA Tryz.prog (Instr.alloc 94 true (.tuple #[])) h11 fun a17 h13 =>
  LoopM (σ := Unit) (fun _ K3 h14 =>
  ∃ a19 : Addr, (s10 = some a19) ∧
  ∃ x20 : Sl, cellOf h14 (a19.add 1) = some (.slice x20.ptr x20.len x20.cap) ∧
  CallM Tryz.prog 126 #[(.slice x20.ptr x20.len x20.cap), (.bool true)] (.one (.sc .bool)) h14 fun r21 h15 =>
  Br (!r21)
  (∃ a22 : Addr, (s10 = some a22) ∧
  ∃ x23 : Sl, cellOf h15 (a22.add 2) = some (.slice x23.ptr x23.len x23.cap) ∧
  LoopM (σ := Int) (fun s24 K4 h16 =>
  Br (decide (s24 < ((x23.len : Nat) : Int)))
  (∃ a25 : Addr, (x23.ptr = some a25 ∧ 0 ≤ s24 ∧ s24 < ((x23.len : Nat) : Int)) ∧
  ∃ x26 : Bool, cellOf h16 (a25.add (s24.toNat * 1)) = some (.bool x26) ∧
  Br (!x26)
  (∃ x27 : Sl, cellOf h16 (a17.add 2) = some (.slice x27.ptr x27.len x27.cap) ∧
  RunsR Tryz.prog (Instr.buildSlice 41 1 #[(0, (.int .i64 s24))]) (.one (.sc .slc)) h16 fun v28 h17 =>
  RunsR Tryz.prog (Builtin.append_ #[41, 41] 41 #[(.slice x27.ptr x27.len x27.cap), (.slice v28.ptr v28.len v28.cap)]) (.one (.sc .slc)) h17 fun v29 h18 =>
  Runs Tryz.prog (Instr.storeAt 41 (.pointer (some (a17.add 2))) (.slice v29.ptr v29.len v29.cap)) h18 fun _ h19 =>
  K4 (IntKind.wrap .i64 (s24 + (1 : Int))) h19)
  (K4 (IntKind.wrap .i64 (s24 + (1 : Int))) h16))
  (∃ x30 : Sl × Sl × Sl, cellsAt h16 a17 0 [(.slice x30.1.ptr x30.1.len x30.1.cap), (.slice x30.2.1.ptr x30.2.1.len x30.2.1.cap), (.slice x30.2.2.ptr x30.2.2.len x30.2.2.cap)] ∧
  Runs Tryz.prog (Instr.storeAt 94 (.pointer (some a1)) (.agg #[(.slice x30.1.ptr x30.1.len x30.1.cap), (.slice x30.2.1.ptr x30.2.1.len x30.2.1.cap), (.slice x30.2.2.ptr x30.2.2.len x30.2.2.cap)])) h16 fun _ h20 =>
  ∃ res31 : Sl × Sl × Sl, cellsAt h20 a1 0 [(.slice res31.1.ptr res31.1.len res31.1.cap), (.slice res31.2.1.ptr res31.2.1.len res31.2.1.cap), (.slice res31.2.2.ptr res31.2.2.len res31.2.2.cap)] ∧
  R (.tuple #[(.agg #[(.slice res31.1.ptr res31.1.len res31.1.cap), (.slice res31.2.1.ptr res31.2.1.len res31.2.1.cap), (.slice res31.2.2.ptr res31.2.2.len res31.2.2.cap)]), (.bool true)]) h20)) (0 : Int) h15)
  (JoinM (σ := Unit) (fun _ h34 =>
  K3 () h34)
  (fun K5 =>
  CallM Tryz.prog 127 #[(.pointer s10)] (.many [(.agg [(.int .i64), (.int .i64)]), (.sc .bool)]) h15 fun r32 h21 =>
  RunsA Tryz.prog (Instr.alloc 147 true (.tuple #[])) h21 fun a33 h22 =>
  Runs Tryz.prog (Instr.storeAt 147 (.pointer (some a33)) (.agg #[(.int .i64 r32.1.1), (.int .i64 r32.1.2)])) h22 fun _ h23 =>
  Br r32.2
  (∃ x34 : Sl, cellOf h23 a17 = some (.slice x34.ptr x34.len x34.cap) ∧
  ∃ x35 : Int × Int, cellsAt h23 a33 0 [(.int .i64 x35.1), (.int .i64 x35.2)] ∧
  RunsR Tryz.prog (Instr.buildSlice 92 1 #[(0, (.agg #[(.int .i64 x35.1), (.int .i64 x35.2)]))]) (.one (.sc .slc)) h23 fun v36 h24 =>
  RunsR Tryz.prog (Builtin.append_ #[92, 92] 92 #[(.slice x34.ptr x34.len x34.cap), (.slice v36.ptr v36.len v36.cap)]) (.one (.sc .slc)) h24 fun v37 h25 =>
  Runs Tryz.prog (Instr.storeAt 92 (.pointer (some a17)) (.slice v37.ptr v37.len v37.cap)) h25 fun _ h26 =>
  ∃ a38 : Addr, (s10 = some a38) ∧
  ∃ x39 : Sl, cellOf h26 (a38.add 2) = some (.slice x39.ptr x39.len x39.cap) ∧
  ∃ x40 : Int, cellOf h26 a33 = some (.int .i64 x40) ∧
  ∃ a41 : Addr, (s10 = some a41) ∧
  ∃ x42 : Sl, cellOf h26 (a41.add 1) = some (.slice x42.ptr x42.len x42.cap) ∧
  ∃ x43 : Int, cellOf h26 (a33.add 1) = some (.int .i64 x43) ∧
  ∃ a44 : Addr, (x39.ptr = some a44 ∧ 0 ≤ x40 ∧ x40 < ((x39.len : Nat) : Int)) ∧
  Runs Tryz.prog (Instr.storeAt 4 (.pointer (some (a44.add (x40.toNat * 1)))) (.bool true)) h26 fun _ h27 =>
  (Held.ok [(a33.add 1, (.int .i64 x43))] h27) ∧
  ∃ a45 : Addr, (x42.ptr = some a45 ∧ 0 ≤ x43 ∧ x43 < ((x42.len : Nat) : Int)) ∧
  Runs Tryz.prog (Instr.storeAt 4 (.pointer (some (a45.add (x43.toNat * 1)))) (.bool false)) h27 fun _ h28 =>
  (Held.ok [] h28) ∧
  K5 () h28)
  (CallM Tryz.prog 128 #[(.pointer s10)] (.one (.sc (.int .i64))) h23 fun r46 h29 =>
  ∃ x47 : Sl, cellOf h29 (a17.add 1) = some (.slice x47.ptr x47.len x47.cap) ∧
  RunsR Tryz.prog (Instr.buildSlice 41 1 #[(0, (.int .i64 r46))]) (.one (.sc .slc)) h29 fun v48 h30 =>
  RunsR Tryz.prog (Builtin.append_ #[41, 41] 41 #[(.slice x47.ptr x47.len x47.cap), (.slice v48.ptr v48.len v48.cap)]) (.one (.sc .slc)) h30 fun v49 h31 =>
  Runs Tryz.prog (Instr.storeAt 41 (.pointer (some (a17.add 1))) (.slice v49.ptr v49.len v49.cap)) h31 fun _ h32 =>
  ∃ a50 : Addr, (s10 = some a50) ∧
  ∃ x51 : Sl, cellOf h32 (a50.add 1) = some (.slice x51.ptr x51.len x51.cap) ∧
  ∃ a52 : Addr, (x51.ptr = some a52 ∧ 0 ≤ r46 ∧ r46 < ((x51.len : Nat) : Int)) ∧
  Runs Tryz.prog (Instr.storeAt 4 (.pointer (some (a52.add (r46.toNat * 1)))) (.bool false)) h32 fun _ h33 =>
  K5 () h33)))) () h13)) (0 : Int) h10)
  (fun K1 =>
  (RunsR Tryz.prog (Instr.makeSlice 97 (.int .i64 n_0) (.int .i64 n_0)) (.one (.sc .slc)) h2 fun v4 h4 =>
  (Held.ok [] h4) ∧
  RunsR Tryz.prog (Instr.makeSlice 97 (.int .i64 ((l_1.len : Nat) : Int)) (.int .i64 ((l_1.len : Nat) : Int))) (.one (.sc .slc)) h4 fun v5 h5 =>
  (Held.ok [] h5) ∧
  RunsA Tryz.prog (Instr.box 174 (.agg #[(.slice l_1.ptr l_1.len l_1.cap), (.slice v4.ptr v4.len v4.cap), (.slice v5.ptr v5.len v5.cap)])) h5 fun a6 h6 =>
  (Held.ok [] h6) ∧
  K1 (some a6) h6) ∧ (RunsR Tryz.prog (Instr.makeSlice 97 (.int .i64 ((l_1.len : Nat) : Int)) (.int .i64 ((l_1.len : Nat) : Int))) (.one (.sc .slc)) h2 fun v7 h7 =>
  (Held.ok [] h7) ∧
  RunsR Tryz.prog (Instr.makeSlice 97 (.int .i64 n_0) (.int .i64 n_0)) (.one (.sc .slc)) h7 fun v8 h8 =>
  (Held.ok [] h8) ∧
  RunsA Tryz.prog (Instr.box 174 (.agg #[(.slice l_1.ptr l_1.len l_1.cap), (.slice v8.ptr v8.len v8.cap), (.slice v7.ptr v7.len v7.cap)])) h8 fun a9 h9 =>
  (Held.ok [] h9) ∧
  K1 (some a9) h9)))
theorem inact_Plan_run (n_0 : Int) (l_1 : Sl) {R : Value → Heap → Prop} {h : Heap} (hm : inact_Plan_m n_0 l_1 R h) : Meets Tryz.prog 91 #[(.int .i64 n_0), (.slice l_1.ptr l_1.len l_1.cap)] h R := fn_tie C_ok Tryz.func91 (.two .n (.scope 1 [] [(5, 6), (9, 14), (42, 108)] [.n, (.join [(6, (.sc .ptr))] [(6, 7), (19, 27)] .n), (.two .n (.inn (.loop [(32, (.sc (.int .i64)))] [(7, 8), (32, 42)] .n))), .n] [(.two .n (.two (.join [] [(9, 12), (48, 88)] .n) .n))] [(0, [(.two (.two .n (.inn (.loop [(93, (.sc (.int .i64)))] [(12, 14), (93, 107)] .n))) .n)])])) hm
abbrev slices_DeleteFunc_api_Step_api_Step_id : FuncId := 92
noncomputable def slices_DeleteFunc_api_Step_api_Step_m (s_0 : Sl) (del_1 : FuncId × Array Value) (R : Value → Heap → Prop) (h : Heap) : Prop :=
  CallM Tryz.prog 129 #[(.slice s_0.ptr s_0.len s_0.cap), (.func (.func del_1.1) #[] del_1.2)] (.one (.sc (.int .i64))) h fun r1 h1 =>
  Br (r1 == (-1 : Int))
  (R (.slice s_0.ptr s_0.len s_0.cap) h1)
  (LoopM (σ := Int × Int) (fun s2 K1 h2 =>
  Br (decide (s2.2 < ((s_0.len : Nat) : Int)))
  (∃ a3 : Addr, (s_0.ptr = some a3 ∧ 0 ≤ s2.2 ∧ s2.2 < ((s_0.len : Nat) : Int)) ∧
  ∃ x4 : Int × Int, cellsAt h2 (a3.add (s2.2.toNat * 2)) 0 [(.int .i64 x4.1), (.int .i64 x4.2)] ∧
  RunsA Tryz.prog (Instr.alloc 147 true (.tuple #[])) h2 fun a5 h3 =>
  Runs Tryz.prog (Instr.storeAt 147 (.pointer (some a5)) (.agg #[(.int .i64 x4.1), (.int .i64 x4.2)])) h3 fun _ h4 =>
  ∃ x6 : Int × Int, cellsAt h4 a5 0 [(.int .i64 x6.1), (.int .i64 x6.2)] ∧
  DynM C del_1.1 ([(.agg #[(.int .i64 x6.1), (.int .i64 x6.2)])] ++ del_1.2.toList) (.one (.sc .bool)) h4 fun r7 h5 =>
  Br (!r7)
  (∃ x8 : Int × Int, cellsAt h5 a5 0 [(.int .i64 x8.1), (.int .i64 x8.2)] ∧
  ∃ a9 : Addr, (s_0.ptr = some a9 ∧ 0 ≤ s2.1 ∧ s2.1 < ((s_0.len : Nat) : Int)) ∧
  Runs Tryz.prog (Instr.storeAt 147 (.pointer (some (a9.add (s2.1.toNat * 2)))) (.agg #[(.int .i64 x8.1), (.int .i64 x8.2)])) h5 fun _ h6 =>
  K1 (IntKind.wrap .i64 (s2.1 + (1 : Int)), IntKind.wrap .i64 (s2.2 + (1 : Int))) h6)
  (K1 (s2.1, IntKind.wrap .i64 (s2.2 + (1 : Int))) h5))
  ((0 ≤ s2.1 ∧ s2.1 ≤ ((s_0.len : Nat) : Int)) ∧
  Runs Tryz.prog (Builtin.clear_ #[92] 0 #[(.slice (if s_0.cap = s2.1.toNat then s_0.ptr else s_0.ptr.map (·.add (s2.1.toNat * 2))) (s_0.len - s2.1.toNat) (s_0.cap - s2.1.toNat))]) h2 fun _ h7 =>
  (0 ≤ s2.1 ∧ s2.1 ≤ ((s_0.cap : Nat) : Int)) ∧
  R (.slice s_0.ptr s2.1.toNat s_0.cap) h7)) (r1, IntKind.wrap .i64 (r1 + (1 : Int))) h1)
theorem slices_DeleteFunc_api_Step_api_Step_run (s_0 : Sl) (del_1 : FuncId × Array Value) {R : Value → Heap → Prop} {h : Heap} (hm : slices_DeleteFunc_api_Step_api_Step_m s_0 del_1 R h) : Meets Tryz.prog 92 #[(.slice s_0.ptr s_0.len s_0.cap), (.func (.func del_1.1) #[] del_1.2)] h R := fn_tie C_ok Tryz.func92 (.two .n (.two .n (.two .n (.two (.two .n (.inn (.loop [(5, (.sc (.int .i64))), (6, (.sc (.int .i64)))] [(5, 8), (16, 36)] .n))) .n)))) hm
abbrev decode_solver_order_1_id : FuncId := 93
noncomputable def decode_solver_order_1_m (x_0 : Int × Int) (cap_1 : Addr) (R : Value → Heap → Prop) (h : Heap) : Prop :=
  RunsA Tryz.prog (Instr.box 147 (.agg #[(.int .i64 x_0.1), (.int .i64 x_0.2)])) h fun a1 h1 =>
  ∃ x2 : Int, cellOf h1 a1 = some (.int .i64 x2) ∧
  ∃ x3 : Option Addr, cellOf h1 cap_1 = some (.pointer x3) ∧
  ∃ a4 : Addr, (x3 = some a4) ∧
  ∃ x5 : Sl, cellOf h1 (a4.add 5) = some (.slice x5.ptr x5.len x5.cap) ∧
  R (.bool (decide (x2 ≥ ((x5.len : Nat) : Int)))) h1
theorem decode_solver_order_1_run (x_0 : Int × Int) (cap_1 : Addr) {R : Value → Heap → Prop} {h : Heap} (hm : decode_solver_order_1_m x_0 cap_1 R h) : Meets Tryz.prog 93 #[(.agg #[(.int .i64 x_0.1), (.int .i64 x_0.2)]), (.pointer (some cap_1))] h R := fn_tie C_ok Tryz.func93 .n hm
abbrev slices_DeleteFunc_int_int_id : FuncId := 94
noncomputable def slices_DeleteFunc_int_int_m (s_0 : Sl) (del_1 : FuncId × Array Value) (R : Value → Heap → Prop) (h : Heap) : Prop :=
  CallM Tryz.prog 130 #[(.slice s_0.ptr s_0.len s_0.cap), (.func (.func del_1.1) #[] del_1.2)] (.one (.sc (.int .i64))) h fun r1 h1 =>
  Br (r1 == (-1 : Int))
  (R (.slice s_0.ptr s_0.len s_0.cap) h1)
  (LoopM (σ := Int × Int) (fun s2 K1 h2 =>
  Br (decide (s2.2 < ((s_0.len : Nat) : Int)))
  (∃ a3 : Addr, (s_0.ptr = some a3 ∧ 0 ≤ s2.2 ∧ s2.2 < ((s_0.len : Nat) : Int)) ∧
  ∃ x4 : Int, cellOf h2 (a3.add (s2.2.toNat * 1)) = some (.int .i64 x4) ∧
  DynM C del_1.1 ([(.int .i64 x4)] ++ del_1.2.toList) (.one (.sc .bool)) h2 fun r5 h3 =>
  Br (!r5)
  (∃ a6 : Addr, (s_0.ptr = some a6 ∧ 0 ≤ s2.1 ∧ s2.1 < ((s_0.len : Nat) : Int)) ∧
  Runs Tryz.prog (Instr.storeAt 3 (.pointer (some (a6.add (s2.1.toNat * 1)))) (.int .i64 x4)) h3 fun _ h4 =>
  K1 (IntKind.wrap .i64 (s2.1 + (1 : Int)), IntKind.wrap .i64 (s2.2 + (1 : Int))) h4)
  (K1 (s2.1, IntKind.wrap .i64 (s2.2 + (1 : Int))) h3))
  ((0 ≤ s2.1 ∧ s2.1 ≤ ((s_0.len : Nat) : Int)) ∧
  Runs Tryz.prog (Builtin.clear_ #[41] 0 #[(.slice (if s_0.cap = s2.1.toNat then s_0.ptr else s_0.ptr.map (·.add (s2.1.toNat * 1))) (s_0.len - s2.1.toNat) (s_0.cap - s2.1.toNat))]) h2 fun _ h5 =>
  (0 ≤ s2.1 ∧ s2.1 ≤ ((s_0.cap : Nat) : Int)) ∧
  R (.slice s_0.ptr s2.1.toNat s_0.cap) h5)) (r1, IntKind.wrap .i64 (r1 + (1 : Int))) h1)
theorem slices_DeleteFunc_int_int_run (s_0 : Sl) (del_1 : FuncId × Array Value) {R : Value → Heap → Prop} {h : Heap} (hm : slices_DeleteFunc_int_int_m s_0 del_1 R h) : Meets Tryz.prog 94 #[(.slice s_0.ptr s_0.len s_0.cap), (.func (.func del_1.1) #[] del_1.2)] h R := fn_tie C_ok Tryz.func94 (.two .n (.two .n (.two .n (.two (.two .n (.inn (.loop [(5, (.sc (.int .i64))), (6, (.sc (.int .i64)))] [(5, 8), (16, 36)] .n))) .n)))) hm
abbrev decode_solver_order_2_id : FuncId := 95
noncomputable def decode_solver_order_2_m (i_0 : Int) (cap_1 : Addr) (R : Value → Heap → Prop) (h : Heap) : Prop :=
  ∃ x1 : Option Addr, cellOf h cap_1 = some (.pointer x1) ∧
  ∃ a2 : Addr, (x1 = some a2) ∧
  ∃ x3 : Sl, cellOf h (a2.add 5) = some (.slice x3.ptr x3.len x3.cap) ∧
  R (.bool (decide (i_0 ≥ ((x3.len : Nat) : Int)))) h
theorem decode_solver_order_2_run (i_0 : Int) (cap_1 : Addr) {R : Value → Heap → Prop} {h : Heap} (hm : decode_solver_order_2_m i_0 cap_1 R h) : Meets Tryz.prog 95 #[(.int .i64 i_0), (.pointer (some cap_1))] h R := fn_tie C_ok Tryz.func95 .n hm
abbrev decode_solver_add_id : FuncId := 96
noncomputable def decode_solver_add_m (s_0 : Option Addr) (times_1 : Int) (c_2 : Int) (way_3 : Sl) (more_4 : Sl) (R : Value → Heap → Prop) (h : Heap) : Prop :=
  ∃ a1 : Addr, (s_0 = some a1) ∧
  ∃ x2 : Sl, cellOf h (a1.add 9) = some (.slice x2.ptr x2.len x2.cap) ∧
  ∃ a3 : Addr, (x2.ptr = some a3 ∧ 0 ≤ c_2 ∧ c_2 < ((x2.len : Nat) : Int)) ∧
  ∃ x4 : Sl, cellOf h (a3.add (c_2.toNat * 1)) = some (.slice x4.ptr x4.len x4.cap) ∧
  LoopM (σ := Int) (fun s5 K1 h1 =>
  Br (decide (s5 < ((x4.len : Nat) : Int)))
  (∃ a6 : Addr, (x4.ptr = some a6 ∧ 0 ≤ s5 ∧ s5 < ((x4.len : Nat) : Int)) ∧
  ∃ x7 : Int, cellOf h1 (a6.add (s5.toNat * 1)) = some (.int .u8 x7) ∧
  ∃ a8 : Addr, (way_3.ptr = some a8 ∧ 0 ≤ s5 ∧ s5 < ((way_3.len : Nat) : Int)) ∧
  ∃ x9 : Int, cellOf h1 (a8.add (s5.toNat * 1)) = some (.int .u8 x9) ∧
  ∃ a10 : Addr, (s_0 = some a10) ∧
  ∃ x11 : Option Addr, cellOf h1 a10 = some (.pointer x11) ∧
  CallM Tryz.prog 104 #[(.pointer x11), (.int .u8 times_1), (.int .u8 x7)] (.one (.sc (.int .u8))) h1 fun r12 h2 =>
  (Held.ok [(a8.add (s5.toNat * 1), (.int .u8 x9))] h2) ∧
  ∃ a13 : Addr, (way_3.ptr = some a13 ∧ 0 ≤ s5 ∧ s5 < ((way_3.len : Nat) : Int)) ∧
  Runs Tryz.prog (Instr.storeAt 5 (.pointer (some (a13.add (s5.toNat * 1)))) (.int .u8 (IntKind.wrap .u8 ((BitVec.ofInt (IntKind.bits .u8) x9 ^^^ (BitVec.ofInt (IntKind.bits .u8) r12)).toNat : Nat)))) h2 fun _ h3 =>
  (Held.ok [] h3) ∧
  K1 (IntKind.wrap .i64 (s5 + (1 : Int))) h3)
  (∃ a14 : Addr, (s_0 = some a14) ∧
  ∃ x15 : Sl, cellOf h1 (a14.add 10) = some (.slice x15.ptr x15.len x15.cap) ∧
  ∃ a16 : Addr, (x15.ptr = some a16 ∧ 0 ≤ c_2 ∧ c_2 < ((x15.len : Nat) : Int)) ∧
  ∃ x17 : Sl, cellOf h1 (a16.add (c_2.toNat * 1)) = some (.slice x17.ptr x17.len x17.cap) ∧
  LoopM (σ := Int) (fun s18 K2 h4 =>
  Br (decide (s18 < ((x17.len : Nat) : Int)))
  (∃ a19 : Addr, (x17.ptr = some a19 ∧ 0 ≤ s18 ∧ s18 < ((x17.len : Nat) : Int)) ∧
  ∃ x20 : Int, cellOf h4 (a19.add (s18.toNat * 1)) = some (.int .u8 x20) ∧
  ∃ a21 : Addr, (more_4.ptr = some a21 ∧ 0 ≤ s18 ∧ s18 < ((more_4.len : Nat) : Int)) ∧
  ∃ x22 : Int, cellOf h4 (a21.add (s18.toNat * 1)) = some (.int .u8 x22) ∧
  ∃ a23 : Addr, (s_0 = some a23) ∧
  ∃ x24 : Option Addr, cellOf h4 a23 = some (.pointer x24) ∧
  CallM Tryz.prog 104 #[(.pointer x24), (.int .u8 times_1), (.int .u8 x20)] (.one (.sc (.int .u8))) h4 fun r25 h5 =>
  (Held.ok [(a21.add (s18.toNat * 1), (.int .u8 x22))] h5) ∧
  ∃ a26 : Addr, (more_4.ptr = some a26 ∧ 0 ≤ s18 ∧ s18 < ((more_4.len : Nat) : Int)) ∧
  Runs Tryz.prog (Instr.storeAt 5 (.pointer (some (a26.add (s18.toNat * 1)))) (.int .u8 (IntKind.wrap .u8 ((BitVec.ofInt (IntKind.bits .u8) x22 ^^^ (BitVec.ofInt (IntKind.bits .u8) r25)).toNat : Nat)))) h5 fun _ h6 =>
  (Held.ok [] h6) ∧
  K2 (IntKind.wrap .i64 (s18 + (1 : Int))) h6)
  (R (.tuple #[]) h4)) (0 : Int) h1)) (0 : Int) h
theorem decode_solver_add_run (s_0 : Option Addr) (times_1 : Int) (c_2 : Int) (way_3 : Sl) (more_4 : Sl) {R : Value → Heap → Prop} {h : Heap} (hm : decode_solver_add_m s_0 times_1 c_2 way_3 more_4 R h) : Meets Tryz.prog 96 #[(.pointer s_0), (.int .u8 times_1), (.int .i64 c_2), (.slice way_3.ptr way_3.len way_3.cap), (.slice more_4.ptr more_4.len more_4.cap)] h R := fn_tie C_ok Tryz.func96 (.two (.two .n (.inn (.loop [(22, (.sc (.int .i64)))] [(10, 12), (22, 41)] .n))) (.two .n (.inn (.loop [(49, (.sc (.int .i64)))] [(12, 14), (49, 68)] .n)))) hm
abbrev bytes_trimLeftByte_id : FuncId := 97
noncomputable def bytes_trimLeftByte_m (s_0 : Sl) (c_1 : Int) (R : Value → Heap → Prop) (h : Heap) : Prop :=
  JoinM (σ := Sl) (fun s5 h3 =>
  Br (((s5.len : Nat) : Int) == (0 : Int))
  (R (.slice none 0 0) h3)
  (R (.slice s5.ptr s5.len s5.cap) h3))
  (fun K1 =>
  LoopM (σ := Sl) (fun s1 K2 h1 =>
  JoinM (σ := Unit) (fun _ h2 =>
  (0 ≤ (1 : Int) ∧ (1 : Int) ≤ ((s1.len : Nat) : Int)) ∧
  K2 (⟨(if s1.cap = (1 : Int).toNat then s1.ptr else s1.ptr.map (·.add ((1 : Int).toNat * 1))), (s1.len - (1 : Int).toNat), (s1.cap - (1 : Int).toNat)⟩ : Sl) h2)
  (fun K3 =>
  Br (decide (((s1.len : Nat) : Int) > (0 : Int))) (∃ a2 : Addr, (s1.ptr = some a2 ∧ 0 ≤ (0 : Int) ∧ (0 : Int) < ((s1.len : Nat) : Int)) ∧
  ∃ x3 : Int, cellOf h1 (a2.add ((0 : Int).toNat * 1)) = some (.int .u8 x3) ∧
  Br (x3 == c_1)
  (K3 () h1)
  (K1 (⟨s1.ptr, s1.len, s1.cap⟩ : Sl) h1)) (K1 (⟨s1.ptr, s1.len, s1.cap⟩ : Sl) h1))) (⟨s_0.ptr, s_0.len, s_0.cap⟩ : Sl) h)
theorem bytes_trimLeftByte_run (s_0 : Sl) (c_1 : Int) {R : Value → Heap → Prop} {h : Heap} (hm : bytes_trimLeftByte_m s_0 c_1 R h) : Meets Tryz.prog 97 #[(.slice s_0.ptr s_0.len s_0.cap), (.int .u8 c_1)] h R := fn_tie C_ok Tryz.func97 (.two .n (.two (.join [(0, (.sc .slc))] [(0, 1), (5, 17)] (.inn (.loop [(0, (.sc .slc))] [(0, 1), (5, 17)] (.two (.join [] [(5, 15)] .n) .n)))) .n)) hm
abbrev bytes_trimRightByte_id : FuncId := 98
noncomputable def bytes_trimRightByte_m (s_0 : Sl) (c_1 : Int) (R : Value → Heap → Prop) (h : Heap) : Prop :=
  JoinM (σ := Sl) (fun s5 h3 =>
  R (.slice s5.ptr s5.len s5.cap) h3)
  (fun K1 =>
  LoopM (σ := Sl) (fun s1 K2 h1 =>
  JoinM (σ := Unit) (fun _ h2 =>
  (0 ≤ (IntKind.wrap .i64 (((s1.len : Nat) : Int) - (1 : Int))) ∧ (IntKind.wrap .i64 (((s1.len : Nat) : Int) - (1 : Int))) ≤ ((s1.cap : Nat) : Int)) ∧
  K2 (⟨s1.ptr, (IntKind.wrap .i64 (((s1.len : Nat) : Int) - (1 : Int))).toNat, s1.cap⟩ : Sl) h2)
  (fun K3 =>
  Br (decide (((s1.len : Nat) : Int) > (0 : Int))) (∃ a2 : Addr, (s1.ptr = some a2 ∧ 0 ≤ (IntKind.wrap .i64 (((s1.len : Nat) : Int) - (1 : Int))) ∧ (IntKind.wrap .i64 (((s1.len : Nat) : Int) - (1 : Int))) < ((s1.len : Nat) : Int)) ∧
  ∃ x3 : Int, cellOf h1 (a2.add ((IntKind.wrap .i64 (((s1.len : Nat) : Int) - (1 : Int))).toNat * 1)) = some (.int .u8 x3) ∧
  Br (x3 == c_1)
  (K3 () h1)
  (K1 (⟨s1.ptr, s1.len, s1.cap⟩ : Sl) h1)) (K1 (⟨s1.ptr, s1.len, s1.cap⟩ : Sl) h1))) (⟨s_0.ptr, s_0.len, s_0.cap⟩ : Sl) h)
theorem bytes_trimRightByte_run (s_0 : Sl) (c_1 : Int) {R : Value → Heap → Prop} {h : Heap} (hm : bytes_trimRightByte_m s_0 c_1 R h) : Meets Tryz.prog 98 #[(.slice s_0.ptr s_0.len s_0.cap), (.int .u8 c_1)] h R := fn_tie C_ok Tryz.func98 (.two .n (.two (.join [(0, (.sc .slc))] [(0, 1), (5, 23)] (.inn (.loop [(0, (.sc .slc))] [(0, 1), (5, 23)] (.two (.join [] [(5, 18)] .n) .n)))) .n)) hm
abbrev gf_Field_Mul_id : FuncId := 104
noncomputable def gf_Field_Mul_m (f_0 : Option Addr) (a_1 : Int) (b_2 : Int) (R : Value → Heap → Prop) (h : Heap) : Prop :=
  JoinM (σ := Unit) (fun _ h1 =>
  CallM Tryz.prog 135 #[(.pointer f_0)] (.one (.sc .ptr)) h1 fun r2 h2 =>
  ∃ a3 : Addr, (r2 = some a3) ∧
  (0 ≤ a_1 ∧ a_1 < ((256 : Nat) : Int)) ∧
  ∃ x4 : Int, cellOf h2 ((a3.add 255).add (a_1.toNat * 1)) = some (.int .i64 x4) ∧
  ∃ a5 : Addr, (r2 = some a5) ∧
  (0 ≤ b_2 ∧ b_2 < ((256 : Nat) : Int)) ∧
  ∃ x6 : Int, cellOf h2 ((a5.add 255).add (b_2.toNat * 1)) = some (.int .i64 x6) ∧
  ((255 : Int) ≠ 0) ∧
  ∃ a7 : Addr, (r2 = some a7) ∧
  (0 ≤ (Int.tmod (IntKind.wrap .i64 (x4 + x6)) (255 : Int)) ∧ (Int.tmod (IntKind.wrap .i64 (x4 + x6)) (255 : Int)) < ((255 : Nat) : Int)) ∧
  ∃ x8 : Int, cellOf h2 (a7.add ((Int.tmod (IntKind.wrap .i64 (x4 + x6)) (255 : Int)).toNat * 1)) = some (.int .u8 x8) ∧
  R (.int .u8 x8) h2)
  (fun K1 =>
  Br (a_1 == (0 : Int)) (R (.int .u8 (0 : Int)) h) (Br (b_2 == (0 : Int))
  (R (.int .u8 (0 : Int)) h)
  (K1 () h)))
theorem gf_Field_Mul_run (f_0 : Option Addr) (a_1 : Int) (b_2 : Int) {R : Value → Heap → Prop} {h : Heap} (hm : gf_Field_Mul_m f_0 a_1 b_2 R h) : Meets Tryz.prog 104 #[(.pointer f_0), (.int .u8 a_1), (.int .u8 b_2)] h R := fn_tie C_ok Tryz.func104 (.two .n (.two (.join [] [(6, 7), (8, 14)] .n) .n)) hm
abbrev soliton_Degree_id : FuncId := 105
noncomputable def soliton_Degree_m (t_0 : Sl) (x_1 : Int) (R : Value → Heap → Prop) (h : Heap) : Prop :=
  JoinM (σ := Unit) (fun _ h1 =>
  LoopM (σ := Int) (fun s4 K2 h2 =>
  Br (decide (s4 < ((t_0.len : Nat) : Int)))
  (∃ a5 : Addr, (t_0.ptr = some a5 ∧ 0 ≤ s4 ∧ s4 < ((t_0.len : Nat) : Int)) ∧
  ∃ x6 : Int, cellOf h2 (a5.add (s4.toNat * 1)) = some (.int .i64 x6) ∧
  Br (decide (x6 > x_1))
  (R (.int .i64 (IntKind.wrap .i64 (s4 + (1 : Int)))) h2)
  (K2 (IntKind.wrap .i64 (s4 + (1 : Int))) h2))
  (R (.int .i64 (0 : Int)) h2)) (0 : Int) h1)
  (fun K1 =>
  Br (((t_0.len : Nat) : Int) == (0 : Int)) (R (.int .i64 (0 : Int)) h) (Br (decide (x_1 < (0 : Int))) (R (.int .i64 (0 : Int)) h) (∃ a1 : Addr, (t_0.ptr = some a1 ∧ 0 ≤ (IntKind.wrap .i64 (((t_0.len : Nat) : Int) - (1 : Int))) ∧ (IntKind.wrap .i64 (((t_0.len : Nat) : Int) - (1 : Int))) < ((t_0.len : Nat) : Int)) ∧
  ∃ x2 : Int, cellOf h (a1.add ((IntKind.wrap .i64 (((t_0.len : Nat) : Int) - (1 : Int))).toNat * 1)) = some (.int .i64 x2) ∧
  Br (decide (x_1 ≥ x2))
  (R (.int .i64 (0 : Int)) h)
  (K1 () h))))
theorem soliton_Degree_run (t_0 : Sl) (x_1 : Int) {R : Value → Heap → Prop} {h : Heap} (hm : soliton_Degree_m t_0 x_1 R h) : Meets Tryz.prog 105 #[(.slice t_0.ptr t_0.len t_0.cap), (.int .i64 x_1)] h R := fn_tie C_ok Tryz.func105 (.two .n (.two (.join [] [(4, 5), (7, 24)] .n) (.two (.two .n (.inn (.loop [(26, (.sc (.int .i64)))] [(4, 7), (26, 37)] .n))) .n))) hm
abbrev draw_Draw_Below_id : FuncId := 106
noncomputable def draw_Draw_Below_m (d_0 : Option Addr) (n_1 : Int) (R : Value → Heap → Prop) (h : Heap) : Prop :=
  JoinM (σ := Unit) (fun _ h1 =>
  CallM Tryz.prog 58 #[(.pointer d_0)] (.one (.sc (.int .u32))) h1 fun r2 h2 =>
  ((IntKind.wrap .u64 n_1) ≠ 0) ∧
  R (.int .i64 (IntKind.wrap .i64 (Int.tmod (IntKind.wrap .u64 r2) (IntKind.wrap .u64 n_1)))) h2)
  (fun K1 =>
  Br (Option.isNone d_0) (R (.int .i64 (0 : Int)) h) (Br (decide (n_1 ≤ (0 : Int)))
  (R (.int .i64 (0 : Int)) h)
  (K1 () h)))
theorem draw_Draw_Below_run (d_0 : Option Addr) (n_1 : Int) {R : Value → Heap → Prop} {h : Heap} (hm : draw_Draw_Below_m d_0 n_1 R h) : Meets Tryz.prog 106 #[(.pointer d_0), (.int .i64 n_1)] h R := fn_tie C_ok Tryz.func106 (.two .n (.two (.join [] [(4, 11)] .n) .n)) hm
abbrev soliton_weight_id : FuncId := 107
noncomputable def soliton_weight_m (l_0 : Int) (k_1 : Int) (R : Value → Heap → Prop) (h : Heap) : Prop :=
  CallM Tryz.prog 136 #[(.int .i64 l_0)] (.one (.sc (.int .i64))) h fun r1 h1 =>
  (l_0 ≠ 0) ∧
  JoinM (σ := Int) (fun s2 h2 =>
  JoinM (σ := Int) (fun s4 h4 =>
  R (.int .i64 s4) h4)
  (fun K2 =>
  (r1 ≠ 0) ∧
  Br (decide (k_1 < (IntKind.wrap .i64 (Int.tdiv l_0 r1))))
  (((IntKind.wrap .i64 (l_0 * k_1)) ≠ 0) ∧
  K2 (IntKind.wrap .i64 (s2 + (IntKind.wrap .i64 (Int.tdiv (IntKind.wrap .i64 ((1048576 : Int) * r1)) (IntKind.wrap .i64 (l_0 * k_1)))))) h2)
  (Br (k_1 == (IntKind.wrap .i64 (Int.tdiv l_0 r1)))
  (CallM Tryz.prog 137 #[(.int .u64 (IntKind.wrap .u64 r1))] (.one (.sc (.int .i64))) h2 fun r3 h3 =>
  (l_0 ≠ 0) ∧
  K2 (IntKind.wrap .i64 (s2 + (IntKind.wrap .i64 (Int.tdiv (IntKind.wrap .i64 ((IntKind.wrap .i64 ((1048576 : Int) * r1)) * r3)) l_0)))) h3)
  (K2 s2 h2))))
  (fun K1 =>
  Br (decide (k_1 > (1 : Int)))
  (((IntKind.wrap .i64 (k_1 * (IntKind.wrap .i64 (k_1 - (1 : Int))))) ≠ 0) ∧
  K1 (IntKind.wrap .i64 (Int.tdiv (1048576 : Int) (IntKind.wrap .i64 (k_1 * (IntKind.wrap .i64 (k_1 - (1 : Int))))))) h1)
  (K1 (IntKind.wrap .i64 (Int.tdiv (1048576 : Int) l_0)) h1))
theorem soliton_weight_run (l_0 : Int) (k_1 : Int) {R : Value → Heap → Prop} {h : Heap} (hm : soliton_weight_m l_0 k_1 R h) : Meets Tryz.prog 107 #[(.int .i64 l_0), (.int .i64 k_1)] h R := fn_tie C_ok Tryz.func107 (.two .n (.two .n (.two .n (.two (.join [(6, (.sc (.int .i64)))] [(6, 7), (12, 19)] .n) (.two (.join [(6, (.sc (.int .i64)))] [(6, 8), (19, 48)] .n) .n))))) hm
abbrev slices_Clone_int_int_id : FuncId := 108
noncomputable def slices_Clone_int_int_m (s_0 : Sl) (R : Value → Heap → Prop) (h : Heap) : Prop :=
  Br (Option.isNone s_0.ptr)
  (R (.slice none 0 0) h)
  (RunsR Tryz.prog (Instr.buildSlice 41 0 #[]) (.one (.sc .slc)) h fun v1 h1 =>
  RunsR Tryz.prog (Builtin.append_ #[41, 41] 41 #[(.slice v1.ptr v1.len v1.cap), (.slice s_0.ptr s_0.len s_0.cap)]) (.one (.sc .slc)) h1 fun v2 h2 =>
  R (.slice v2.ptr v2.len v2.cap) h2)
theorem slices_Clone_int_int_run (s_0 : Sl) {R : Value → Heap → Prop} {h : Heap} (hm : slices_Clone_int_int_m s_0 R h) : Meets Tryz.prog 108 #[(.slice s_0.ptr s_0.len s_0.cap)] h R := fn_tie C_ok Tryz.func108 .n hm
abbrev mat_begins_id : FuncId := 110
noncomputable def mat_begins_m (a_0 : Sl) (top_1 : Int) (col_2 : Int) (R : Value → Heap → Prop) (h : Heap) : Prop :=
  LoopM (σ := Int) (fun s1 K1 h1 =>
  Br (decide (s1 ≥ ((a_0.len : Nat) : Int)))
  (R (.int .i64 (-1 : Int)) h1)
  (∃ a2 : Addr, (a_0.ptr = some a2 ∧ 0 ≤ s1 ∧ s1 < ((a_0.len : Nat) : Int)) ∧
  ∃ x3 : Sl, cellOf h1 (a2.add (s1.toNat * 1)) = some (.slice x3.ptr x3.len x3.cap) ∧
  ∃ a4 : Addr, (x3.ptr = some a4 ∧ 0 ≤ col_2 ∧ col_2 < ((x3.len : Nat) : Int)) ∧
  ∃ x5 : Int, cellOf h1 (a4.add (col_2.toNat * 1)) = some (.int .u8 x5) ∧
  Br (x5 != (0 : Int))
  (R (.int .i64 s1) h1)
  (K1 (IntKind.wrap .i64 (s1 + (1 : Int))) h1))) top_1 h
theorem mat_begins_run (a_0 : Sl) (top_1 : Int) (col_2 : Int) {R : Value → Heap → Prop} {h : Heap} (hm : mat_begins_m a_0 top_1 col_2 R h) : Meets Tryz.prog 110 #[(.slice a_0.ptr a_0.len a_0.cap), (.int .i64 top_1), (.int .i64 col_2)] h R := fn_tie C_ok Tryz.func110 (.two .n (.scope 0 [(7, (.sc (.int .i64)))] [(6, 8), (9, 24)] [.n] [.n] [(1, [.n])])) hm
abbrev row_Scale_id : FuncId := 111
noncomputable def row_Scale_m (f_0 : Option Addr) (c_1 : Int) (a_2 : Sl) (R : Value → Heap → Prop) (h : Heap) : Prop :=
  CallM Tryz.prog 139 #[(.pointer f_0)] (.one (.sc .ptr)) h fun r1 h1 =>
  RunsR Tryz.prog (Instr.makeSlice 23 (.int .i64 ((a_2.len : Nat) : Int)) (.int .i64 ((a_2.len : Nat) : Int))) (.one (.sc .slc)) h1 fun v2 h2 =>
  LoopM (σ := Int) (fun s3 K1 h3 =>
  Br (decide (s3 < ((a_2.len : Nat) : Int)))
  (∃ a4 : Addr, (a_2.ptr = some a4 ∧ 0 ≤ s3 ∧ s3 < ((a_2.len : Nat) : Int)) ∧
  ∃ x5 : Int, cellOf h3 (a4.add (s3.toNat * 1)) = some (.int .u8 x5) ∧
  CallM Tryz.prog 104 #[(.pointer r1), (.int .u8 c_1), (.int .u8 x5)] (.one (.sc (.int .u8))) h3 fun r6 h4 =>
  ∃ a7 : Addr, (v2.ptr = some a7 ∧ 0 ≤ s3 ∧ s3 < ((v2.len : Nat) : Int)) ∧
  Runs Tryz.prog (Instr.storeAt 5 (.pointer (some (a7.add (s3.toNat * 1)))) (.int .u8 r6)) h4 fun _ h5 =>
  K1 (IntKind.wrap .i64 (s3 + (1 : Int))) h5)
  (R (.slice v2.ptr v2.len v2.cap) h3)) (0 : Int) h2
theorem row_Scale_run (f_0 : Option Addr) (c_1 : Int) (a_2 : Sl) {R : Value → Heap → Prop} {h : Heap} (hm : row_Scale_m f_0 c_1 a_2 R h) : Meets Tryz.prog 111 #[(.pointer f_0), (.int .u8 c_1), (.slice a_2.ptr a_2.len a_2.cap)] h R := fn_tie C_ok Tryz.func111 (.two .n (.two .n (.two .n (.two (.two .n (.inn (.loop [(17, (.sc (.int .i64)))] [(8, 10), (17, 30)] .n))) .n)))) hm
abbrev gf_Field_Inv_id : FuncId := 112
noncomputable def gf_Field_Inv_m (f_0 : Option Addr) (a_1 : Int) (R : Value → Heap → Prop) (h : Heap) : Prop :=
  Br (a_1 == (0 : Int))
  (R (.int .u8 (0 : Int)) h)
  (CallM Tryz.prog 135 #[(.pointer f_0)] (.one (.sc .ptr)) h fun r1 h1 =>
  ∃ a2 : Addr, (r1 = some a2) ∧
  (0 ≤ a_1 ∧ a_1 < ((256 : Nat) : Int)) ∧
  ∃ x3 : Int, cellOf h1 ((a2.add 255).add (a_1.toNat * 1)) = some (.int .i64 x3) ∧
  ((255 : Int) ≠ 0) ∧
  ∃ a4 : Addr, (r1 = some a4) ∧
  (0 ≤ (Int.tmod (IntKind.wrap .i64 ((255 : Int) - x3)) (255 : Int)) ∧ (Int.tmod (IntKind.wrap .i64 ((255 : Int) - x3)) (255 : Int)) < ((255 : Nat) : Int)) ∧
  ∃ x5 : Int, cellOf h1 (a4.add ((Int.tmod (IntKind.wrap .i64 ((255 : Int) - x3)) (255 : Int)).toNat * 1)) = some (.int .u8 x5) ∧
  R (.int .u8 x5) h1)
theorem gf_Field_Inv_run (f_0 : Option Addr) (a_1 : Int) {R : Value → Heap → Prop} {h : Heap} (hm : gf_Field_Inv_m f_0 a_1 R h) : Meets Tryz.prog 112 #[(.pointer f_0), (.int .u8 a_1)] h R := fn_tie C_ok Tryz.func112 .n hm
abbrev mat_add_id : FuncId := 113
noncomputable def mat_add_m (f_0 : Option Addr) (c_1 : Int) (a_2 : Sl) (to_3 : Sl) (R : Value → Heap → Prop) (h : Heap) : Prop :=
  Br (c_1 == (0 : Int))
  (R (.tuple #[]) h)
  (LoopM (σ := Int) (fun s1 K1 h1 =>
  Br (decide (s1 < ((a_2.len : Nat) : Int)))
  (∃ a2 : Addr, (a_2.ptr = some a2 ∧ 0 ≤ s1 ∧ s1 < ((a_2.len : Nat) : Int)) ∧
  ∃ x3 : Int, cellOf h1 (a2.add (s1.toNat * 1)) = some (.int .u8 x3) ∧
  ∃ a4 : Addr, (to_3.ptr = some a4 ∧ 0 ≤ s1 ∧ s1 < ((to_3.len : Nat) : Int)) ∧
  ∃ x5 : Int, cellOf h1 (a4.add (s1.toNat * 1)) = some (.int .u8 x5) ∧
  CallM Tryz.prog 104 #[(.pointer f_0), (.int .u8 c_1), (.int .u8 x3)] (.one (.sc (.int .u8))) h1 fun r6 h2 =>
  (Held.ok [(a4.add (s1.toNat * 1), (.int .u8 x5))] h2) ∧
  ∃ a7 : Addr, (to_3.ptr = some a7 ∧ 0 ≤ s1 ∧ s1 < ((to_3.len : Nat) : Int)) ∧
  Runs Tryz.prog (Instr.storeAt 5 (.pointer (some (a7.add (s1.toNat * 1)))) (.int .u8 (IntKind.wrap .u8 ((BitVec.ofInt (IntKind.bits .u8) x5 ^^^ (BitVec.ofInt (IntKind.bits .u8) r6)).toNat : Nat)))) h2 fun _ h3 =>
  (Held.ok [] h3) ∧
  K1 (IntKind.wrap .i64 (s1 + (1 : Int))) h3)
  (R (.tuple #[]) h1)) (0 : Int) h)
theorem mat_add_run (f_0 : Option Addr) (c_1 : Int) (a_2 : Sl) (to_3 : Sl) {R : Value → Heap → Prop} {h : Heap} (hm : mat_add_m f_0 c_1 a_2 to_3 R h) : Meets Tryz.prog 113 #[(.pointer f_0), (.int .u8 c_1), (.slice a_2.ptr a_2.len a_2.cap), (.slice to_3.ptr to_3.len to_3.cap)] h R := fn_tie C_ok Tryz.func113 (.two .n (.two .n (.inn (.loop [(14, (.sc (.int .i64)))] [(8, 10), (14, 30)] .n)))) hm
noncomputable def slices_IndexFunc_byte_byte_m (s_0 : Sl) (f_1 : FuncId × Array Value) (R : Value → Heap → Prop) (h : Heap) : Prop :=
  LoopM (σ := Int) (fun s1 K1 h1 =>
  Br (decide (s1 < ((s_0.len : Nat) : Int)))
  (∃ a2 : Addr, (s_0.ptr = some a2 ∧ 0 ≤ s1 ∧ s1 < ((s_0.len : Nat) : Int)) ∧
  ∃ x3 : Int, cellOf h1 (a2.add (s1.toNat * 1)) = some (.int .u8 x3) ∧
  DynM C f_1.1 ([(.int .u8 x3)] ++ f_1.2.toList) (.one (.sc .bool)) h1 fun r4 h2 =>
  Br r4
  (R (.int .i64 s1) h2)
  (K1 (IntKind.wrap .i64 (s1 + (1 : Int))) h2))
  (R (.int .i64 (-1 : Int)) h1)) (0 : Int) h
theorem slices_IndexFunc_byte_byte_run (s_0 : Sl) (f_1 : FuncId × Array Value) {R : Value → Heap → Prop} {h : Heap} (hm : slices_IndexFunc_byte_byte_m s_0 f_1 R h) : Meets Tryz.prog 114 #[(.slice s_0.ptr s_0.len s_0.cap), (.func (.func f_1.1) #[] f_1.2)] h R := fn_tie C_ok Tryz.func114 (.two .n (.two (.two .n (.inn (.loop [(8, (.sc (.int .i64)))] [(4, 6), (8, 19)] .n))) .n)) hm
abbrev row_Lead_1_id : FuncId := 115
noncomputable def row_Lead_1_m (x_0 : Int) (R : Value → Heap → Prop) (h : Heap) : Prop :=
  R (.bool (x_0 != (0 : Int))) h
theorem row_Lead_1_run (x_0 : Int) {R : Value → Heap → Prop} {h : Heap} (hm : row_Lead_1_m x_0 R h) : Meets Tryz.prog 115 #[(.int .u8 x_0)] h R := fn_tie C_ok Tryz.func115 .n hm
abbrev gf_times_id : FuncId := 116
noncomputable def gf_times_m (a_0 : Int) (b_1 : Int) (R : Value → Heap → Prop) (h : Heap) : Prop :=
  LoopM (σ := Int × Int × Int) (fun s1 K1 h1 =>
  Br (s1.2.1 == (0 : Int))
  (R (.int .u8 s1.2.2) h1)
  (JoinM (σ := Int) (fun s2 h2 =>
  (0 ≤ (1 : Int)) ∧
  JoinM (σ := Int) (fun s3 h3 =>
  (0 ≤ (1 : Int)) ∧
  K1 (s3, Int.fdiv s1.2.1 (2 ^ min (1 : Int).toNat (IntKind.bits .u8)), s2) h3)
  (fun K3 =>
  Br ((IntKind.wrap .u8 ((BitVec.ofInt (IntKind.bits .u8) s1.1 &&& (BitVec.ofInt (IntKind.bits .u8) (128 : Int))).toNat : Nat)) != (0 : Int))
  (K3 (IntKind.wrap .u8 ((BitVec.ofInt (IntKind.bits .u8) (IntKind.wrap .u8 (s1.1 * 2 ^ min (1 : Int).toNat (IntKind.bits .u8))) ^^^ (BitVec.ofInt (IntKind.bits .u8) (27 : Int))).toNat : Nat)) h2)
  (K3 (IntKind.wrap .u8 (s1.1 * 2 ^ min (1 : Int).toNat (IntKind.bits .u8))) h2)))
  (fun K2 =>
  Br ((IntKind.wrap .u8 ((BitVec.ofInt (IntKind.bits .u8) s1.2.1 &&& (BitVec.ofInt (IntKind.bits .u8) (1 : Int))).toNat : Nat)) == (1 : Int))
  (K2 (IntKind.wrap .u8 ((BitVec.ofInt (IntKind.bits .u8) s1.2.2 ^^^ (BitVec.ofInt (IntKind.bits .u8) s1.1)).toNat : Nat)) h1)
  (K2 s1.2.2 h1)))) (a_0, b_1, (0 : Int)) h
theorem gf_times_run (a_0 : Int) (b_1 : Int) {R : Value → Heap → Prop} {h : Heap} (hm : gf_times_m a_0 b_1 R h) : Meets Tryz.prog 116 #[(.int .u8 a_0), (.int .u8 b_1)] h R := fn_tie C_ok Tryz.func116 (.two .n (.scope 0 [(0, (.sc (.int .u8))), (1, (.sc (.int .u8))), (5, (.sc (.int .u8)))] [(0, 2), (4, 26)] [.n] [(.two .n (.two (.join [(5, (.sc (.int .u8)))] [(5, 6), (10, 16)] .n) (.two .n (.two .n (.two (.join [(0, (.sc (.int .u8)))] [(0, 1), (21, 24)] .n) .n)))))] [])) hm
abbrev row_Unit_id : FuncId := 117
noncomputable def row_Unit_m (n_0 : Int) (at_1 : Int) (R : Value → Heap → Prop) (h : Heap) : Prop :=
  JoinM (σ := Unit) (fun _ h1 =>
  RunsR Tryz.prog (Instr.makeSlice 23 (.int .i64 n_0) (.int .i64 n_0)) (.one (.sc .slc)) h1 fun v2 h2 =>
  ∃ a3 : Addr, (v2.ptr = some a3 ∧ 0 ≤ at_1 ∧ at_1 < ((v2.len : Nat) : Int)) ∧
  Runs Tryz.prog (Instr.storeAt 5 (.pointer (some (a3.add (at_1.toNat * 1)))) (.int .u8 (1 : Int))) h2 fun _ h3 =>
  R (.slice v2.ptr v2.len v2.cap) h3)
  (fun K1 =>
  Br (decide (n_0 < (1 : Int))) (R (.slice none 0 0) h) (Br (decide (n_0 > (64 : Int))) (R (.slice none 0 0) h) (Br (decide (at_1 < (0 : Int))) (R (.slice none 0 0) h) (Br (decide (at_1 ≥ n_0))
  (R (.slice none 0 0) h)
  (K1 () h)))))
theorem row_Unit_run (n_0 : Int) (at_1 : Int) {R : Value → Heap → Prop} {h : Heap} (hm : row_Unit_m n_0 at_1 R h) : Meets Tryz.prog 117 #[(.int .i64 n_0), (.int .i64 at_1)] h R := fn_tie C_ok Tryz.func117 (.two .n (.two (.join [] [(4, 5), (6, 21)] .n) .n)) hm
abbrev gf_Field_Exp_id : FuncId := 118
noncomputable def gf_Field_Exp_m (f_0 : Option Addr) (n_1 : Int) (R : Value → Heap → Prop) (h : Heap) : Prop :=
  ((255 : Int) ≠ 0) ∧
  JoinM (σ := Int) (fun s1 h1 =>
  CallM Tryz.prog 135 #[(.pointer f_0)] (.one (.sc .ptr)) h1 fun r2 h2 =>
  ∃ a3 : Addr, (r2 = some a3) ∧
  (0 ≤ s1 ∧ s1 < ((255 : Nat) : Int)) ∧
  ∃ x4 : Int, cellOf h2 (a3.add (s1.toNat * 1)) = some (.int .u8 x4) ∧
  R (.int .u8 x4) h2)
  (fun K1 =>
  Br (decide ((Int.tmod n_1 (255 : Int)) < (0 : Int)))
  (K1 (IntKind.wrap .i64 ((Int.tmod n_1 (255 : Int)) + (255 : Int))) h)
  (K1 (Int.tmod n_1 (255 : Int)) h))
theorem gf_Field_Exp_run (f_0 : Option Addr) (n_1 : Int) {R : Value → Heap → Prop} {h : Heap} (hm : gf_Field_Exp_m f_0 n_1 R h) : Meets Tryz.prog 118 #[(.pointer f_0), (.int .i64 n_1)] h R := fn_tie C_ok Tryz.func118 (.two .n (.two .n (.two (.join [(1, (.sc (.int .i64)))] [(1, 2), (7, 11)] .n) .n))) hm
abbrev wellspringref01_Reduce_id : FuncId := 119
noncomputable def wellspringref01_Reduce_m (a_0 : Sl) (R : Value → Heap → Prop) (h : Heap) : Prop :=
  CallM Tryz.prog 72 #[(.slice a_0.ptr a_0.len a_0.cap)] (.one (.sc .bool)) h fun r1 h1 =>
  Br (!r1)
  (R (.slice none 0 0) h1)
  (LoopM (σ := Sl × Int) (fun s2 K1 h2 =>
  Br (decide (s2.2 < ((a_0.len : Nat) : Int)))
  (∃ a3 : Addr, (a_0.ptr = some a3 ∧ 0 ≤ s2.2 ∧ s2.2 < ((a_0.len : Nat) : Int)) ∧
  ∃ x4 : Sl, cellOf h2 (a3.add (s2.2.toNat * 1)) = some (.slice x4.ptr x4.len x4.cap) ∧
  RunsR Tryz.prog (Builtin.append_ #[23, 23] 23 #[(.slice none 0 0), (.slice x4.ptr x4.len x4.cap)]) (.one (.sc .slc)) h2 fun v5 h3 =>
  RunsR Tryz.prog (Instr.buildSlice 70 1 #[(0, (.slice v5.ptr v5.len v5.cap))]) (.one (.sc .slc)) h3 fun v6 h4 =>
  RunsR Tryz.prog (Builtin.append_ #[70, 70] 70 #[(.slice s2.1.ptr s2.1.len s2.1.cap), (.slice v6.ptr v6.len v6.cap)]) (.one (.sc .slc)) h4 fun v7 h5 =>
  K1 ((⟨v7.ptr, v7.len, v7.cap⟩ : Sl), IntKind.wrap .i64 (s2.2 + (1 : Int))) h5)
  (JoinM (σ := Int) (fun s50 h20 =>
  (0 ≤ s50 ∧ s50 ≤ ((s2.1.cap : Nat) : Int)) ∧
  R (.slice s2.1.ptr s50.toNat s2.1.cap) h20)
  (fun K2 =>
  LoopM (σ := Int × Int) (fun s8 K3 h6 =>
  JoinM (σ := Unit) (fun _ h7 =>
  LoopM (σ := Int × Int) (fun s12 K5 h8 =>
  Br (decide (s12.2 < ((s2.1.len : Nat) : Int)))
  (∃ a13 : Addr, (s2.1.ptr = some a13 ∧ 0 ≤ s12.2 ∧ s12.2 < ((s2.1.len : Nat) : Int)) ∧
  ∃ x14 : Sl, cellOf h8 (a13.add (s12.2.toNat * 1)) = some (.slice x14.ptr x14.len x14.cap) ∧
  ∃ a15 : Addr, (x14.ptr = some a15 ∧ 0 ≤ s8.2 ∧ s8.2 < ((x14.len : Nat) : Int)) ∧
  ∃ x16 : Int, cellOf h8 (a15.add (s8.2.toNat * 1)) = some (.int .u8 x16) ∧
  Br (x16 != (0 : Int)) (Br (decide (s12.1 < (0 : Int)))
  (K5 (s12.2, IntKind.wrap .i64 (s12.2 + (1 : Int))) h8)
  (K5 (s12.1, IntKind.wrap .i64 (s12.2 + (1 : Int))) h8)) (K5 (s12.1, IntKind.wrap .i64 (s12.2 + (1 : Int))) h8))
  (Br (decide (s12.1 < (0 : Int)))
  (K3 (s8.1, IntKind.wrap .i64 (s8.2 + (1 : Int))) h8)
  (JoinM (σ := Unit) (fun _ h11 =>
  JoinM (σ := Unit) (fun _ h15 =>
  LoopM (σ := Int) (fun s34 K8 h16 =>
  Br (decide (s34 < ((s2.1.len : Nat) : Int)))
  (JoinM (σ := Bool) (fun s39 h17 =>
  Br s39
  (∃ a40 : Addr, (s2.1.ptr = some a40 ∧ 0 ≤ s34 ∧ s34 < ((s2.1.len : Nat) : Int)) ∧
  ∃ x41 : Sl, cellOf h17 (a40.add (s34.toNat * 1)) = some (.slice x41.ptr x41.len x41.cap) ∧
  ∃ a42 : Addr, (x41.ptr = some a42 ∧ 0 ≤ s8.2 ∧ s8.2 < ((x41.len : Nat) : Int)) ∧
  ∃ x43 : Int, cellOf h17 (a42.add (s8.2.toNat * 1)) = some (.int .u8 x43) ∧
  ∃ a44 : Addr, (s2.1.ptr = some a44 ∧ 0 ≤ s8.1 ∧ s8.1 < ((s2.1.len : Nat) : Int)) ∧
  ∃ x45 : Sl, cellOf h17 (a44.add (s8.1.toNat * 1)) = some (.slice x45.ptr x45.len x45.cap) ∧
  ∃ a46 : Addr, (s2.1.ptr = some a46 ∧ 0 ≤ s34 ∧ s34 < ((s2.1.len : Nat) : Int)) ∧
  ∃ x47 : Sl, cellOf h17 (a46.add (s34.toNat * 1)) = some (.slice x47.ptr x47.len x47.cap) ∧
  CallM Tryz.prog 76 #[(.int .u8 x43), (.slice x45.ptr x45.len x45.cap), (.slice x47.ptr x47.len x47.cap)] (.one (.sc .slc)) h17 fun r48 h18 =>
  (Held.ok [(a40.add (s34.toNat * 1), (.slice x41.ptr x41.len x41.cap))] h18) ∧
  ∃ a49 : Addr, (s2.1.ptr = some a49 ∧ 0 ≤ s34 ∧ s34 < ((s2.1.len : Nat) : Int)) ∧
  Runs Tryz.prog (Instr.storeAt 23 (.pointer (some (a49.add (s34.toNat * 1)))) (.slice r48.ptr r48.len r48.cap)) h18 fun _ h19 =>
  (Held.ok [] h19) ∧
  K8 (IntKind.wrap .i64 (s34 + (1 : Int))) h19)
  (K8 (IntKind.wrap .i64 (s34 + (1 : Int))) h17))
  (fun K9 =>
  Br (s34 != s8.1) (∃ a35 : Addr, (s2.1.ptr = some a35 ∧ 0 ≤ s34 ∧ s34 < ((s2.1.len : Nat) : Int)) ∧
  ∃ x36 : Sl, cellOf h16 (a35.add (s34.toNat * 1)) = some (.slice x36.ptr x36.len x36.cap) ∧
  ∃ a37 : Addr, (x36.ptr = some a37 ∧ 0 ≤ s8.2 ∧ s8.2 < ((x36.len : Nat) : Int)) ∧
  ∃ x38 : Int, cellOf h16 (a37.add (s8.2.toNat * 1)) = some (.int .u8 x38) ∧
  K9 (x38 != (0 : Int)) h16) (K9 false h16)))
  (K3 (IntKind.wrap .i64 (s8.1 + (1 : Int)), IntKind.wrap .i64 (s8.2 + (1 : Int))) h16)) (0 : Int) h15)
  (fun K7 =>
  ∃ a24 : Addr, (s2.1.ptr = some a24 ∧ 0 ≤ s8.1 ∧ s8.1 < ((s2.1.len : Nat) : Int)) ∧
  ∃ x25 : Sl, cellOf h11 (a24.add (s8.1.toNat * 1)) = some (.slice x25.ptr x25.len x25.cap) ∧
  ∃ a26 : Addr, (x25.ptr = some a26 ∧ 0 ≤ s8.2 ∧ s8.2 < ((x25.len : Nat) : Int)) ∧
  ∃ x27 : Int, cellOf h11 (a26.add (s8.2.toNat * 1)) = some (.int .u8 x27) ∧
  ∃ a28 : Addr, (s2.1.ptr = some a28 ∧ 0 ≤ s8.1 ∧ s8.1 < ((s2.1.len : Nat) : Int)) ∧
  ∃ x29 : Sl, cellOf h11 (a28.add (s8.1.toNat * 1)) = some (.slice x29.ptr x29.len x29.cap) ∧
  CallM Tryz.prog 74 #[(.int .u8 x27)] (.one (.sc (.int .u8))) h11 fun r30 h12 =>
  (Held.ok [(a28.add (s8.1.toNat * 1), (.slice x29.ptr x29.len x29.cap)), (a24.add (s8.1.toNat * 1), (.slice x25.ptr x25.len x25.cap))] h12) ∧
  CallM Tryz.prog 75 #[(.int .u8 r30), (.slice x29.ptr x29.len x29.cap)] (.one (.sc .slc)) h12 fun r31 h13 =>
  (Held.ok [(a24.add (s8.1.toNat * 1), (.slice x25.ptr x25.len x25.cap))] h13) ∧
  ∃ a32 : Addr, (s2.1.ptr = some a32 ∧ 0 ≤ s8.1 ∧ s8.1 < ((s2.1.len : Nat) : Int)) ∧
  Runs Tryz.prog (Instr.storeAt 23 (.pointer (some (a32.add (s8.1.toNat * 1)))) (.slice r31.ptr r31.len r31.cap)) h13 fun _ h14 =>
  (Held.ok [] h14) ∧
  K7 () h14))
  (fun K6 =>
  ∃ a17 : Addr, (s2.1.ptr = some a17 ∧ 0 ≤ s8.1 ∧ s8.1 < ((s2.1.len : Nat) : Int)) ∧
  ∃ x18 : Sl, cellOf h8 (a17.add (s8.1.toNat * 1)) = some (.slice x18.ptr x18.len x18.cap) ∧
  ∃ a19 : Addr, (s2.1.ptr = some a19 ∧ 0 ≤ s12.1 ∧ s12.1 < ((s2.1.len : Nat) : Int)) ∧
  ∃ x20 : Sl, cellOf h8 (a19.add (s12.1.toNat * 1)) = some (.slice x20.ptr x20.len x20.cap) ∧
  ∃ a21 : Addr, (s2.1.ptr = some a21 ∧ 0 ≤ s12.1 ∧ s12.1 < ((s2.1.len : Nat) : Int)) ∧
  Runs Tryz.prog (Instr.storeAt 23 (.pointer (some (a21.add (s12.1.toNat * 1)))) (.slice x18.ptr x18.len x18.cap)) h8 fun _ h9 =>
  (Held.ok [] h9) ∧
  ∃ a22 : Addr, (s2.1.ptr = some a22 ∧ 0 ≤ s8.1 ∧ s8.1 < ((s2.1.len : Nat) : Int)) ∧
  Runs Tryz.prog (Instr.storeAt 23 (.pointer (some (a22.add (s8.1.toNat * 1)))) (.slice x20.ptr x20.len x20.cap)) h9 fun _ h10 =>
  (Held.ok [] h10) ∧
  K6 () h10)))) ((-1 : Int), s8.1) h7)
  (fun K4 =>
  Br (decide (((s2.1.len : Nat) : Int) > (0 : Int))) (∃ a9 : Addr, (s2.1.ptr = some a9 ∧ 0 ≤ (0 : Int) ∧ (0 : Int) < ((s2.1.len : Nat) : Int)) ∧
  ∃ x10 : Sl, cellOf h6 (a9.add ((0 : Int).toNat * 1)) = some (.slice x10.ptr x10.len x10.cap) ∧
  Br (decide (s8.2 < ((x10.len : Nat) : Int)))
  (K4 () h6)
  (K2 s8.1 h6)) (K2 s8.1 h6))) ((0 : Int), (0 : Int)) h2))) ((⟨none, 0, 0⟩ : Sl), (0 : Int)) h1)
theorem wellspringref01_Reduce_run (a_0 : Sl) {R : Value → Heap → Prop} {h : Heap} (hm : wellspringref01_Reduce_m a_0 R h) : Meets Tryz.prog 119 #[(.slice a_0.ptr a_0.len a_0.cap)] h R := fn_tie C_ok Tryz.func119 (.two .n (.two .n (.two .n (.two (.two .n (.inn (.loop [(3, (.sc .slc)), (15, (.sc (.int .i64)))] [(3, 5), (15, 27)] .n))) (.two .n (.two (.join [(5, (.sc (.int .i64)))] [(5, 10), (27, 132)] (.two .n (.inn (.loop [(5, (.sc (.int .i64))), (6, (.sc (.int .i64)))] [(5, 10), (27, 132)] (.two (.join [] [(27, 38)] .n) (.two (.inn (.two .n (.two (.two .n (.inn (.loop [(7, (.sc (.int .i64))), (8, (.sc (.int .i64)))] [(7, 9), (41, 60)] .n))) (.two .n (.two (.join [] [(62, 76)] .n) (.two (.join [] [(76, 92)] .n) (.two (.two .n (.inn (.loop [(94, (.sc (.int .i64)))] [(9, 10), (94, 130)] (.two .n (.two .n (.two (.inn (.two .n (.two (.join [(109, (.sc .bool))] [(97, 110)] .n) .n))) .n)))))) .n))))))) .n)))))) .n)))))) hm
abbrev wellspringref01_Mul_id : FuncId := 120
noncomputable def wellspringref01_Mul_m (a_0 : Int) (b_1 : Int) (R : Value → Heap → Prop) (h : Heap) : Prop :=
  LoopM (σ := Int × Int) (fun s1 K1 h1 =>
  Br (decide (s1.2 < (8 : Int)))
  ((0 ≤ s1.2) ∧
  Br ((IntKind.wrap .u8 ((BitVec.ofInt (IntKind.bits .u8) (Int.fdiv b_1 (2 ^ min s1.2.toNat (IntKind.bits .u8))) &&& (BitVec.ofInt (IntKind.bits .u8) (1 : Int))).toNat : Nat)) == (1 : Int))
  ((0 ≤ s1.2) ∧
  K1 (IntKind.wrap .u16 ((BitVec.ofInt (IntKind.bits .u16) s1.1 ^^^ (BitVec.ofInt (IntKind.bits .u16) (IntKind.wrap .u16 ((IntKind.wrap .u16 a_0) * 2 ^ min s1.2.toNat (IntKind.bits .u16))))).toNat : Nat), IntKind.wrap .i64 (s1.2 + (1 : Int))) h1)
  (K1 (s1.1, IntKind.wrap .i64 (s1.2 + (1 : Int))) h1))
  (LoopM (σ := Int × Int) (fun s2 K2 h2 =>
  Br (decide (s2.2 ≥ (8 : Int)))
  ((0 ≤ s2.2) ∧
  Br ((IntKind.wrap .u16 ((BitVec.ofInt (IntKind.bits .u16) (Int.fdiv s2.1 (2 ^ min s2.2.toNat (IntKind.bits .u16))) &&& (BitVec.ofInt (IntKind.bits .u16) (1 : Int))).toNat : Nat)) == (1 : Int))
  ((0 ≤ (IntKind.wrap .i64 (s2.2 - (8 : Int)))) ∧
  K2 (IntKind.wrap .u16 ((BitVec.ofInt (IntKind.bits .u16) s2.1 ^^^ (BitVec.ofInt (IntKind.bits .u16) (IntKind.wrap .u16 ((283 : Int) * 2 ^ min (IntKind.wrap .i64 (s2.2 - (8 : Int))).toNat (IntKind.bits .u16))))).toNat : Nat), IntKind.wrap .i64 (s2.2 - (1 : Int))) h2)
  (K2 (s2.1, IntKind.wrap .i64 (s2.2 - (1 : Int))) h2))
  (R (.int .u8 (IntKind.wrap .u8 s2.1)) h2)) (s1.1, (15 : Int)) h1)) ((0 : Int), (0 : Int)) h
theorem wellspringref01_Mul_run (a_0 : Int) (b_1 : Int) {R : Value → Heap → Prop} {h : Heap} (hm : wellspringref01_Mul_m a_0 b_1 R h) : Meets Tryz.prog 120 #[(.int .u8 a_0), (.int .u8 b_1)] h R := fn_tie C_ok Tryz.func120 (.two .n (.two .n (.two (.two .n (.inn (.loop [(5, (.sc (.int .u16))), (6, (.sc (.int .i64)))] [(5, 7), (8, 23)] .n))) (.two (.two .n (.inn (.loop [(5, (.sc (.int .u16))), (7, (.sc (.int .i64)))] [(5, 6), (7, 8), (23, 37)] .n))) .n)))) hm
abbrev wellspringref01_Exp_id : FuncId := 121
noncomputable def wellspringref01_Exp_m (n_0 : Int) (R : Value → Heap → Prop) (h : Heap) : Prop :=
  ((255 : Int) ≠ 0) ∧
  JoinM (σ := Int) (fun s1 h1 =>
  LoopM (σ := Int × Int) (fun s2 K2 h2 =>
  Br (decide (s2.2 < s1))
  (CallM Tryz.prog 120 #[(.int .u8 s2.1), (.int .u8 (3 : Int))] (.one (.sc (.int .u8))) h2 fun r3 h3 =>
  K2 (r3, IntKind.wrap .i64 (s2.2 + (1 : Int))) h3)
  (R (.int .u8 s2.1) h2)) ((1 : Int), (0 : Int)) h1)
  (fun K1 =>
  Br (decide ((Int.tmod n_0 (255 : Int)) < (0 : Int)))
  (K1 (IntKind.wrap .i64 ((Int.tmod n_0 (255 : Int)) + (255 : Int))) h)
  (K1 (Int.tmod n_0 (255 : Int)) h))
theorem wellspringref01_Exp_run (n_0 : Int) {R : Value → Heap → Prop} {h : Heap} (hm : wellspringref01_Exp_m n_0 R h) : Meets Tryz.prog 121 #[(.int .i64 n_0)] h R := fn_tie C_ok Tryz.func121 (.two .n (.two .n (.two (.join [(0, (.sc (.int .i64)))] [(0, 1), (7, 11)] .n) (.two .n (.two (.two .n (.inn (.loop [(3, (.sc (.int .u8))), (4, (.sc (.int .i64)))] [(3, 5), (11, 18)] .n))) .n))))) hm
abbrev wellspringref01_Degree_id : FuncId := 122
noncomputable def wellspringref01_Degree_m (t_0 : Sl) (x_1 : Int) (R : Value → Heap → Prop) (h : Heap) : Prop :=
  LoopM (σ := Int) (fun s1 K1 h1 =>
  JoinM (σ := Unit) (fun _ h2 =>
  ∃ a3 : Addr, (t_0.ptr = some a3 ∧ 0 ≤ s1 ∧ s1 < ((t_0.len : Nat) : Int)) ∧
  ∃ x4 : Int, cellOf h2 (a3.add (s1.toNat * 1)) = some (.int .i64 x4) ∧
  Br (decide (x4 > x_1))
  (R (.int .i64 (IntKind.wrap .i64 (s1 + (1 : Int)))) h2)
  (K1 (IntKind.wrap .i64 (s1 + (1 : Int))) h2))
  (fun K2 =>
  Br (decide (s1 < ((t_0.len : Nat) : Int))) (Br (decide (x_1 ≥ (0 : Int)))
  (K2 () h1)
  (R (.int .i64 (0 : Int)) h1)) (R (.int .i64 (0 : Int)) h1))) (0 : Int) h
theorem wellspringref01_Degree_run (t_0 : Sl) (x_1 : Int) {R : Value → Heap → Prop} {h : Heap} (hm : wellspringref01_Degree_m t_0 x_1 R h) : Meets Tryz.prog 122 #[(.slice t_0.ptr t_0.len t_0.cap), (.int .i64 x_1)] h R := fn_tie C_ok Tryz.func122 (.two .n (.two (.two .n (.inn (.loop [(5, (.sc (.int .i64)))] [(4, 24)] (.two (.join [] [(6, 14)] .n) .n)))) .n)) hm
abbrev wellspringref01_Draw_Below_id : FuncId := 123
noncomputable def wellspringref01_Draw_Below_m (d_0 : Option Addr) (n_1 : Int) (R : Value → Heap → Prop) (h : Heap) : Prop :=
  Br (decide (n_1 ≤ (0 : Int)))
  (R (.int .i64 (0 : Int)) h)
  (CallM Tryz.prog 81 #[(.pointer d_0)] (.one (.sc (.int .u32))) h fun r1 h1 =>
  ((IntKind.wrap .u64 n_1) ≠ 0) ∧
  R (.int .i64 (IntKind.wrap .i64 (Int.tmod (IntKind.wrap .u64 r1) (IntKind.wrap .u64 n_1)))) h1)
theorem wellspringref01_Draw_Below_run (d_0 : Option Addr) (n_1 : Int) {R : Value → Heap → Prop} {h : Heap} (hm : wellspringref01_Draw_Below_m d_0 n_1 R h) : Meets Tryz.prog 123 #[(.pointer d_0), (.int .i64 n_1)] h R := fn_tie C_ok Tryz.func123 .n hm
abbrev peel_peeler_next_id : FuncId := 124
noncomputable def peel_peeler_next_m (p_0 : Option Addr) (R : Value → Heap → Prop) (h : Heap) : Prop :=
  ∃ a1 : Addr, (p_0 = some a1) ∧
  ∃ x2 : Sl, cellOf h a1 = some (.slice x2.ptr x2.len x2.cap) ∧
  LoopM (σ := Int) (fun s3 K1 h1 =>
  Br (decide (s3 < ((x2.len : Nat) : Int)))
  (∃ a4 : Addr, (x2.ptr = some a4 ∧ 0 ≤ s3 ∧ s3 < ((x2.len : Nat) : Int)) ∧
  ∃ x5 : Sl × Sl, cellsAt h1 (a4.add (s3.toNat * 2)) 0 [(.slice x5.1.ptr x5.1.len x5.1.cap), (.slice x5.2.ptr x5.2.len x5.2.cap)] ∧
  RunsA Tryz.prog (Instr.alloc 90 true (.tuple #[])) h1 fun a6 h2 =>
  Runs Tryz.prog (Instr.storeAt 90 (.pointer (some a6)) (.agg #[(.slice x5.1.ptr x5.1.len x5.1.cap), (.slice x5.2.ptr x5.2.len x5.2.cap)])) h2 fun _ h3 =>
  ∃ x7 : Sl, cellOf h3 a6 = some (.slice x7.ptr x7.len x7.cap) ∧
  LoopM (σ := Int × Int) (fun s8 K2 h4 =>
  Br (decide (s8.2 < ((x7.len : Nat) : Int)))
  (∃ a9 : Addr, (x7.ptr = some a9 ∧ 0 ≤ s8.2 ∧ s8.2 < ((x7.len : Nat) : Int)) ∧
  ∃ x10 : Int, cellOf h4 (a9.add (s8.2.toNat * 1)) = some (.int .i64 x10) ∧
  ∃ a11 : Addr, (p_0 = some a11) ∧
  ∃ x12 : Sl, cellOf h4 (a11.add 1) = some (.slice x12.ptr x12.len x12.cap) ∧
  ∃ a13 : Addr, (x12.ptr = some a13 ∧ 0 ≤ x10 ∧ x10 < ((x12.len : Nat) : Int)) ∧
  ∃ x14 : Bool, cellOf h4 (a13.add (x10.toNat * 1)) = some (.bool x14) ∧
  Br (!x14)
  (K2 (IntKind.wrap .i64 (s8.1 + (1 : Int)), IntKind.wrap .i64 (s8.2 + (1 : Int))) h4)
  (K2 (s8.1, IntKind.wrap .i64 (s8.2 + (1 : Int))) h4))
  (Br (s8.1 == (1 : Int))
  (R (.int .i64 s3) h4)
  (K1 (IntKind.wrap .i64 (s3 + (1 : Int))) h4))) ((0 : Int), (0 : Int)) h3)
  (R (.int .i64 (-1 : Int)) h1)) (0 : Int) h
theorem peel_peeler_next_run (p_0 : Option Addr) {R : Value → Heap → Prop} {h : Heap} (hm : peel_peeler_next_m p_0 R h) : Meets Tryz.prog 124 #[(.pointer p_0)] h R := fn_tie C_ok Tryz.func124 (.two .n (.two (.two .n (.inn (.loop [(13, (.sc (.int .i64)))] [(2, 6), (7, 8), (13, 40)] (.two .n (.two .n (.two (.inn (.two .n (.two .n (.two (.two .n (.inn (.loop [(5, (.sc (.int .i64))), (21, (.sc (.int .i64)))] [(5, 6), (7, 8), (21, 36)] .n))) .n)))) .n)))))) .n)) hm
abbrev inact_right_id : FuncId := 125
noncomputable def inact_right_m (n_0 : Int) (l_1 : Sl) (R : Value → Heap → Prop) (h : Heap) : Prop :=
  JoinM (σ := Unit) (fun _ h1 =>
  LoopM (σ := Int) (fun s2 K2 h2 =>
  Br (decide (s2 < ((l_1.len : Nat) : Int)))
  (∃ a3 : Addr, (l_1.ptr = some a3 ∧ 0 ≤ s2 ∧ s2 < ((l_1.len : Nat) : Int)) ∧
  ∃ x4 : Sl, cellOf h2 (a3.add (s2.toNat * 1)) = some (.slice x4.ptr x4.len x4.cap) ∧
  LoopM (σ := Int) (fun s5 K3 h3 =>
  Br (decide (s5 < ((x4.len : Nat) : Int)))
  (∃ a6 : Addr, (x4.ptr = some a6 ∧ 0 ≤ s5 ∧ s5 < ((x4.len : Nat) : Int)) ∧
  ∃ x7 : Int, cellOf h3 (a6.add (s5.toNat * 1)) = some (.int .i64 x7) ∧
  Br (decide (x7 < (0 : Int))) (R (.bool false) h3) (Br (decide (x7 ≥ n_0)) (R (.bool false) h3) (Br (decide (s5 > (0 : Int))) (∃ a8 : Addr, (x4.ptr = some a8 ∧ 0 ≤ (IntKind.wrap .i64 (s5 - (1 : Int))) ∧ (IntKind.wrap .i64 (s5 - (1 : Int))) < ((x4.len : Nat) : Int)) ∧
  ∃ x9 : Int, cellOf h3 (a8.add ((IntKind.wrap .i64 (s5 - (1 : Int))).toNat * 1)) = some (.int .i64 x9) ∧
  Br (decide (x9 ≥ x7))
  (R (.bool false) h3)
  (K3 (IntKind.wrap .i64 (s5 + (1 : Int))) h3)) (K3 (IntKind.wrap .i64 (s5 + (1 : Int))) h3))))
  (K2 (IntKind.wrap .i64 (s2 + (1 : Int))) h3)) (0 : Int) h2)
  (R (.bool true) h2)) (0 : Int) h1)
  (fun K1 =>
  Br (decide (n_0 < (0 : Int))) (R (.bool false) h) (Br (decide (n_0 > (64 : Int)))
  (R (.bool false) h)
  (K1 () h)))
theorem inact_right_run (n_0 : Int) (l_1 : Sl) {R : Value → Heap → Prop} {h : Heap} (hm : inact_right_m n_0 l_1 R h) : Meets Tryz.prog 125 #[(.int .i64 n_0), (.slice l_1.ptr l_1.len l_1.cap)] h R := fn_tie C_ok Tryz.func125 (.two .n (.two (.join [] [(4, 5), (9, 15)] .n) (.two (.two .n (.inn (.loop [(17, (.sc (.int .i64)))] [(4, 5), (6, 9), (17, 50)] (.two .n (.two .n (.two (.inn (.two .n (.two .n (.inn (.loop [(23, (.sc (.int .i64)))] [(4, 5), (7, 9), (23, 49)] .n))))) .n)))))) .n))) hm
abbrev slices_Contains_bool_bool_id : FuncId := 126
noncomputable def slices_Contains_bool_bool_m (s_0 : Sl) (v_1 : Bool) (R : Value → Heap → Prop) (h : Heap) : Prop :=
  CallM Tryz.prog 140 #[(.slice s_0.ptr s_0.len s_0.cap), (.bool v_1)] (.one (.sc (.int .i64))) h fun r1 h1 =>
  R (.bool (decide (r1 ≥ (0 : Int)))) h1
theorem slices_Contains_bool_bool_run (s_0 : Sl) (v_1 : Bool) {R : Value → Heap → Prop} {h : Heap} (hm : slices_Contains_bool_bool_m s_0 v_1 R h) : Meets Tryz.prog 126 #[(.slice s_0.ptr s_0.len s_0.cap), (.bool v_1)] h R := fn_tie C_ok Tryz.func126 .n hm
abbrev inact_planner_step_id : FuncId := 127
noncomputable def inact_planner_step_m (p_0 : Option Addr) (R : Value → Heap → Prop) (h : Heap) : Prop :=
  RunsA Tryz.prog (Instr.alloc 147 true (.tuple #[])) h fun a1 h1 =>
  ∃ a2 : Addr, (p_0 = some a2) ∧
  ∃ x3 : Sl, cellOf h1 a2 = some (.slice x3.ptr x3.len x3.cap) ∧
  LoopM (σ := Int) (fun s4 K1 h2 =>
  Br (decide (s4 < ((x3.len : Nat) : Int)))
  (∃ a5 : Addr, (x3.ptr = some a5 ∧ 0 ≤ s4 ∧ s4 < ((x3.len : Nat) : Int)) ∧
  ∃ x6 : Sl, cellOf h2 (a5.add (s4.toNat * 1)) = some (.slice x6.ptr x6.len x6.cap) ∧
  ∃ a7 : Addr, (p_0 = some a7) ∧
  ∃ x8 : Sl, cellOf h2 (a7.add 2) = some (.slice x8.ptr x8.len x8.cap) ∧
  ∃ a9 : Addr, (x8.ptr = some a9 ∧ 0 ≤ s4 ∧ s4 < ((x8.len : Nat) : Int)) ∧
  ∃ x10 : Bool, cellOf h2 (a9.add (s4.toNat * 1)) = some (.bool x10) ∧
  Br x10
  (K1 (IntKind.wrap .i64 (s4 + (1 : Int))) h2)
  (CallM Tryz.prog 141 #[(.pointer p_0), (.slice x6.ptr x6.len x6.cap)] (.many [(.sc (.int .i64)), (.sc .bool)]) h2 fun r11 h3 =>
  Br r11.2
  (Runs Tryz.prog (Instr.storeAt 147 (.pointer (some a1)) (.agg #[(.int .i64 s4), (.int .i64 r11.1)])) h3 fun _ h4 =>
  ∃ res12 : Int × Int, cellsAt h4 a1 0 [(.int .i64 res12.1), (.int .i64 res12.2)] ∧
  R (.tuple #[(.agg #[(.int .i64 res12.1), (.int .i64 res12.2)]), (.bool true)]) h4)
  (K1 (IntKind.wrap .i64 (s4 + (1 : Int))) h3)))
  (Runs Tryz.prog (Instr.storeAt 147 (.pointer (some a1)) (.agg #[(.int .i64 (0 : Int)), (.int .i64 (0 : Int))])) h2 fun _ h5 =>
  ∃ res13 : Int × Int, cellsAt h5 a1 0 [(.int .i64 res13.1), (.int .i64 res13.2)] ∧
  R (.tuple #[(.agg #[(.int .i64 res13.1), (.int .i64 res13.2)]), (.bool false)]) h5)) (0 : Int) h1
theorem inact_planner_step_run (p_0 : Option Addr) {R : Value → Heap → Prop} {h : Heap} (hm : inact_planner_step_m p_0 R h) : Meets Tryz.prog 127 #[(.pointer p_0)] h R := fn_tie C_ok Tryz.func127 (.two .n (.two (.two .n (.inn (.loop [(13, (.sc (.int .i64)))] [(3, 8), (13, 36)] .n))) .n)) hm
abbrev inact_planner_most_id : FuncId := 128
noncomputable def inact_planner_most_m (p_0 : Option Addr) (R : Value → Heap → Prop) (h : Heap) : Prop :=
  ∃ a1 : Addr, (p_0 = some a1) ∧
  ∃ x2 : Sl, cellOf h (a1.add 1) = some (.slice x2.ptr x2.len x2.cap) ∧
  RunsR Tryz.prog (Instr.makeSlice 41 (.int .i64 ((x2.len : Nat) : Int)) (.int .i64 ((x2.len : Nat) : Int))) (.one (.sc .slc)) h fun v3 h1 =>
  ∃ a4 : Addr, (p_0 = some a4) ∧
  ∃ x5 : Sl, cellOf h1 a4 = some (.slice x5.ptr x5.len x5.cap) ∧
  LoopM (σ := Int) (fun s6 K1 h2 =>
  Br (decide (s6 < ((x5.len : Nat) : Int)))
  (∃ a7 : Addr, (x5.ptr = some a7 ∧ 0 ≤ s6 ∧ s6 < ((x5.len : Nat) : Int)) ∧
  ∃ x8 : Sl, cellOf h2 (a7.add (s6.toNat * 1)) = some (.slice x8.ptr x8.len x8.cap) ∧
  LoopM (σ := Int) (fun s9 K2 h3 =>
  Br (decide (s9 < ((x8.len : Nat) : Int)))
  (∃ a10 : Addr, (x8.ptr = some a10 ∧ 0 ≤ s9 ∧ s9 < ((x8.len : Nat) : Int)) ∧
  ∃ x11 : Int, cellOf h3 (a10.add (s9.toNat * 1)) = some (.int .i64 x11) ∧
  ∃ a12 : Addr, (p_0 = some a12) ∧
  ∃ x13 : Sl, cellOf h3 (a12.add 2) = some (.slice x13.ptr x13.len x13.cap) ∧
  ∃ a14 : Addr, (x13.ptr = some a14 ∧ 0 ≤ s6 ∧ s6 < ((x13.len : Nat) : Int)) ∧
  ∃ x15 : Bool, cellOf h3 (a14.add (s6.toNat * 1)) = some (.bool x15) ∧
  Br (!x15)
  (∃ a16 : Addr, (v3.ptr = some a16 ∧ 0 ≤ x11 ∧ x11 < ((v3.len : Nat) : Int)) ∧
  ∃ x17 : Int, cellOf h3 (a16.add (x11.toNat * 1)) = some (.int .i64 x17) ∧
  ∃ a18 : Addr, (v3.ptr = some a18 ∧ 0 ≤ x11 ∧ x11 < ((v3.len : Nat) : Int)) ∧
  Runs Tryz.prog (Instr.storeAt 3 (.pointer (some (a18.add (x11.toNat * 1)))) (.int .i64 (IntKind.wrap .i64 (x17 + (1 : Int))))) h3 fun _ h4 =>
  K2 (IntKind.wrap .i64 (s9 + (1 : Int))) h4)
  (K2 (IntKind.wrap .i64 (s9 + (1 : Int))) h3))
  (K1 (IntKind.wrap .i64 (s6 + (1 : Int))) h3)) (0 : Int) h2)
  (∃ a19 : Addr, (p_0 = some a19) ∧
  ∃ x20 : Sl, cellOf h2 (a19.add 1) = some (.slice x20.ptr x20.len x20.cap) ∧
  LoopM (σ := Int × Int) (fun s21 K3 h5 =>
  Br (decide (s21.2 < ((x20.len : Nat) : Int)))
  (∃ a22 : Addr, (x20.ptr = some a22 ∧ 0 ≤ s21.2 ∧ s21.2 < ((x20.len : Nat) : Int)) ∧
  ∃ x23 : Bool, cellOf h5 (a22.add (s21.2.toNat * 1)) = some (.bool x23) ∧
  Br x23 (Br (decide (s21.1 < (0 : Int))) (K3 (s21.2, IntKind.wrap .i64 (s21.2 + (1 : Int))) h5) (∃ a24 : Addr, (v3.ptr = some a24 ∧ 0 ≤ s21.2 ∧ s21.2 < ((v3.len : Nat) : Int)) ∧
  ∃ x25 : Int, cellOf h5 (a24.add (s21.2.toNat * 1)) = some (.int .i64 x25) ∧
  ∃ a26 : Addr, (v3.ptr = some a26 ∧ 0 ≤ s21.1 ∧ s21.1 < ((v3.len : Nat) : Int)) ∧
  ∃ x27 : Int, cellOf h5 (a26.add (s21.1.toNat * 1)) = some (.int .i64 x27) ∧
  Br (decide (x25 > x27))
  (K3 (s21.2, IntKind.wrap .i64 (s21.2 + (1 : Int))) h5)
  (K3 (s21.1, IntKind.wrap .i64 (s21.2 + (1 : Int))) h5))) (K3 (s21.1, IntKind.wrap .i64 (s21.2 + (1 : Int))) h5))
  (R (.int .i64 s21.1) h5)) ((-1 : Int), (0 : Int)) h2)) (0 : Int) h1
theorem inact_planner_most_run (p_0 : Option Addr) {R : Value → Heap → Prop} {h : Heap} (hm : inact_planner_most_m p_0 R h) : Meets Tryz.prog 128 #[(.pointer p_0)] h R := fn_tie C_ok Tryz.func128 (.two .n (.two .n (.two (.two .n (.inn (.loop [(22, (.sc (.int .i64)))] [(4, 6), (7, 8), (22, 49)] (.two .n (.two .n (.two (.inn (.two .n (.two .n (.inn (.loop [(29, (.sc (.int .i64)))] [(7, 8), (29, 48)] .n))))) .n)))))) (.two .n (.two (.two .n (.inn (.loop [(8, (.sc (.int .i64))), (54, (.sc (.int .i64)))] [(8, 11), (54, 77)] .n))) .n))))) hm
abbrev slices_IndexFunc_api_Step_api_Step_id : FuncId := 129
noncomputable def slices_IndexFunc_api_Step_api_Step_m (s_0 : Sl) (f_1 : FuncId × Array Value) (R : Value → Heap → Prop) (h : Heap) : Prop :=
  LoopM (σ := Int) (fun s1 K1 h1 =>
  Br (decide (s1 < ((s_0.len : Nat) : Int)))
  (∃ a2 : Addr, (s_0.ptr = some a2 ∧ 0 ≤ s1 ∧ s1 < ((s_0.len : Nat) : Int)) ∧
  ∃ x3 : Int × Int, cellsAt h1 (a2.add (s1.toNat * 2)) 0 [(.int .i64 x3.1), (.int .i64 x3.2)] ∧
  DynM C f_1.1 ([(.agg #[(.int .i64 x3.1), (.int .i64 x3.2)])] ++ f_1.2.toList) (.one (.sc .bool)) h1 fun r4 h2 =>
  Br r4
  (R (.int .i64 s1) h2)
  (K1 (IntKind.wrap .i64 (s1 + (1 : Int))) h2))
  (R (.int .i64 (-1 : Int)) h1)) (0 : Int) h
theorem slices_IndexFunc_api_Step_api_Step_run (s_0 : Sl) (f_1 : FuncId × Array Value) {R : Value → Heap → Prop} {h : Heap} (hm : slices_IndexFunc_api_Step_api_Step_m s_0 f_1 R h) : Meets Tryz.prog 129 #[(.slice s_0.ptr s_0.len s_0.cap), (.func (.func f_1.1) #[] f_1.2)] h R := fn_tie C_ok Tryz.func129 (.two .n (.two (.two .n (.inn (.loop [(8, (.sc (.int .i64)))] [(4, 6), (8, 19)] .n))) .n)) hm
abbrev slices_IndexFunc_int_int_id : FuncId := 130
noncomputable def slices_IndexFunc_int_int_m (s_0 : Sl) (f_1 : FuncId × Array Value) (R : Value → Heap → Prop) (h : Heap) : Prop :=
  LoopM (σ := Int) (fun s1 K1 h1 =>
  Br (decide (s1 < ((s_0.len : Nat) : Int)))
  (∃ a2 : Addr, (s_0.ptr = some a2 ∧ 0 ≤ s1 ∧ s1 < ((s_0.len : Nat) : Int)) ∧
  ∃ x3 : Int, cellOf h1 (a2.add (s1.toNat * 1)) = some (.int .i64 x3) ∧
  DynM C f_1.1 ([(.int .i64 x3)] ++ f_1.2.toList) (.one (.sc .bool)) h1 fun r4 h2 =>
  Br r4
  (R (.int .i64 s1) h2)
  (K1 (IntKind.wrap .i64 (s1 + (1 : Int))) h2))
  (R (.int .i64 (-1 : Int)) h1)) (0 : Int) h
theorem slices_IndexFunc_int_int_run (s_0 : Sl) (f_1 : FuncId × Array Value) {R : Value → Heap → Prop} {h : Heap} (hm : slices_IndexFunc_int_int_m s_0 f_1 R h) : Meets Tryz.prog 130 #[(.slice s_0.ptr s_0.len s_0.cap), (.func (.func f_1.1) #[] f_1.2)] h R := fn_tie C_ok Tryz.func130 (.two .n (.two (.two .n (.inn (.loop [(8, (.sc (.int .i64)))] [(4, 6), (8, 19)] .n))) .n)) hm
abbrev gf_Field_own_id : FuncId := 135
noncomputable def gf_Field_own_m (f_0 : Option Addr) (R : Value → Heap → Prop) (h : Heap) : Prop :=
  Br (Option.isNone f_0)
  (CallM Tryz.prog 39 #[] (.one (.sc .ptr)) h fun r1 h1 =>
  R (.pointer r1) h1)
  (R (.pointer f_0) h)
theorem gf_Field_own_run (f_0 : Option Addr) {R : Value → Heap → Prop} {h : Heap} (hm : gf_Field_own_m f_0 R h) : Meets Tryz.prog 135 #[(.pointer f_0)] h R := fn_tie C_ok Tryz.func135 .n hm
abbrev soliton_root_id : FuncId := 136
noncomputable def soliton_root_m (l_0 : Int) (R : Value → Heap → Prop) (h : Heap) : Prop :=
  LoopM (σ := Int) (fun s1 K1 h1 =>
  Br (decide ((IntKind.wrap .i64 (s1 * s1)) < l_0))
  (K1 (IntKind.wrap .i64 (s1 + (1 : Int))) h1)
  (R (.int .i64 s1) h1)) (0 : Int) h
theorem soliton_root_run (l_0 : Int) {R : Value → Heap → Prop} {h : Heap} (hm : soliton_root_m l_0 R h) : Meets Tryz.prog 136 #[(.int .i64 l_0)] h R := fn_tie C_ok Tryz.func136 (.two .n (.two .n (.two (.inn (.loop [(3, (.sc (.int .i64)))] [(3, 11)] .n)) .n))) hm
abbrev row_sure_id : FuncId := 139
noncomputable def row_sure_m (f_0 : Option Addr) (R : Value → Heap → Prop) (h : Heap) : Prop :=
  Br (Option.isNone f_0)
  (CallM Tryz.prog 39 #[] (.one (.sc .ptr)) h fun r1 h1 =>
  R (.pointer r1) h1)
  (R (.pointer f_0) h)
theorem row_sure_run (f_0 : Option Addr) {R : Value → Heap → Prop} {h : Heap} (hm : row_sure_m f_0 R h) : Meets Tryz.prog 139 #[(.pointer f_0)] h R := fn_tie C_ok Tryz.func139 .n hm
abbrev slices_Index_bool_bool_id : FuncId := 140
noncomputable def slices_Index_bool_bool_m (s_0 : Sl) (v_1 : Bool) (R : Value → Heap → Prop) (h : Heap) : Prop :=
  LoopM (σ := Int) (fun s1 K1 h1 =>
  Br (decide (s1 < ((s_0.len : Nat) : Int)))
  (∃ a2 : Addr, (s_0.ptr = some a2 ∧ 0 ≤ s1 ∧ s1 < ((s_0.len : Nat) : Int)) ∧
  ∃ x3 : Bool, cellOf h1 (a2.add (s1.toNat * 1)) = some (.bool x3) ∧
  Br (v_1 == x3)
  (R (.int .i64 s1) h1)
  (K1 (IntKind.wrap .i64 (s1 + (1 : Int))) h1))
  (R (.int .i64 (-1 : Int)) h1)) (0 : Int) h
theorem slices_Index_bool_bool_run (s_0 : Sl) (v_1 : Bool) {R : Value → Heap → Prop} {h : Heap} (hm : slices_Index_bool_bool_m s_0 v_1 R h) : Meets Tryz.prog 140 #[(.slice s_0.ptr s_0.len s_0.cap), (.bool v_1)] h R := fn_tie C_ok Tryz.func140 (.two .n (.two (.two .n (.inn (.loop [(8, (.sc (.int .i64)))] [(4, 6), (8, 19)] .n))) .n)) hm
abbrev inact_planner_single_id : FuncId := 141
noncomputable def inact_planner_single_m (p_0 : Option Addr) (r_1 : Sl) (R : Value → Heap → Prop) (h : Heap) : Prop :=
  LoopM (σ := Int × Int × Int) (fun s1 K1 h1 =>
  Br (decide (s1.2.2 < ((r_1.len : Nat) : Int)))
  (∃ a2 : Addr, (r_1.ptr = some a2 ∧ 0 ≤ s1.2.2 ∧ s1.2.2 < ((r_1.len : Nat) : Int)) ∧
  ∃ x3 : Int, cellOf h1 (a2.add (s1.2.2.toNat * 1)) = some (.int .i64 x3) ∧
  ∃ a4 : Addr, (p_0 = some a4) ∧
  ∃ x5 : Sl, cellOf h1 (a4.add 1) = some (.slice x5.ptr x5.len x5.cap) ∧
  ∃ a6 : Addr, (x5.ptr = some a6 ∧ 0 ≤ x3 ∧ x3 < ((x5.len : Nat) : Int)) ∧
  ∃ x7 : Bool, cellOf h1 (a6.add (x3.toNat * 1)) = some (.bool x7) ∧
  Br x7
  (K1 (x3, IntKind.wrap .i64 (s1.2.1 + (1 : Int)), IntKind.wrap .i64 (s1.2.2 + (1 : Int))) h1)
  (K1 (s1.1, s1.2.1, IntKind.wrap .i64 (s1.2.2 + (1 : Int))) h1))
  (R (.tuple #[(.int .i64 s1.1), (.bool (s1.2.1 == (1 : Int)))]) h1)) ((0 : Int), (0 : Int), (0 : Int)) h
theorem inact_planner_single_run (p_0 : Option Addr) (r_1 : Sl) {R : Value → Heap → Prop} {h : Heap} (hm : inact_planner_single_m p_0 r_1 R h) : Meets Tryz.prog 141 #[(.pointer p_0), (.slice r_1.ptr r_1.len r_1.cap)] h R := fn_tie C_ok Tryz.func141 (.two .n (.two .n (.two (.two .n (.inn (.loop [(6, (.sc (.int .i64))), (7, (.sc (.int .i64))), (12, (.sc (.int .i64)))] [(6, 8), (9, 10), (12, 27)] .n))) .n))) hm
end Go.Proofs.YtkcplnfomahleaaGreatDoor
