/- Part of the proofs that wellspringlaw30's laws answer true whatever the input reads, and leave it as it was; no condition. -/
import Derived.Test.YtmaknfkhibljfaaGreatTabA
set_option linter.unusedVariables false
set_option linter.unusedSimpArgs false
namespace Go.Proofs.YtmaknfkhibljfaaGreat
open Go Go.Vc Go.Proofs
set_option maxRecDepth 1000000
abbrev wellspringref15_SameMani_id : FuncId := 41
noncomputable def wellspringref15_SameMani_m (a_0 : Int × Int × Int × Int × Int × Int × Sl × Sl) (b_1 : Int × Int × Int × Int × Int × Int × Sl × Sl) (R : Value → Heap → Prop) (h : Heap) : Prop :=
  RunsA Tryz.prog (Instr.box 40 (.agg #[(.int .i64 a_0.1), (.int .i64 a_0.2.1), (.int .i64 a_0.2.2.1), (.int .i64 a_0.2.2.2.1), (.int .i64 a_0.2.2.2.2.1), (.int .i64 a_0.2.2.2.2.2.1), (.slice a_0.2.2.2.2.2.2.1.ptr a_0.2.2.2.2.2.2.1.len a_0.2.2.2.2.2.2.1.cap), (.slice a_0.2.2.2.2.2.2.2.ptr a_0.2.2.2.2.2.2.2.len a_0.2.2.2.2.2.2.2.cap)])) h fun a1 h1 =>
  RunsA Tryz.prog (Instr.box 40 (.agg #[(.int .i64 b_1.1), (.int .i64 b_1.2.1), (.int .i64 b_1.2.2.1), (.int .i64 b_1.2.2.2.1), (.int .i64 b_1.2.2.2.2.1), (.int .i64 b_1.2.2.2.2.2.1), (.slice b_1.2.2.2.2.2.2.1.ptr b_1.2.2.2.2.2.2.1.len b_1.2.2.2.2.2.2.1.cap), (.slice b_1.2.2.2.2.2.2.2.ptr b_1.2.2.2.2.2.2.2.len b_1.2.2.2.2.2.2.2.cap)])) h1 fun a2 h2 =>
  JoinM (σ := Unit) (fun _ h4 =>
  ∃ x18 : Sl, cellOf h4 (a1.add 7) = some (.slice x18.ptr x18.len x18.cap) ∧
  LoopM (σ := Int) (fun s19 K2 h5 =>
  Br (decide (s19 < ((x18.len : Nat) : Int)))
  (JoinM (σ := Addr × Addr) (fun s30 h14 =>
  ∃ x31 : ByteArray, cellOf h14 s30.1 = some (.string x31) ∧
  ∃ x32 : ByteArray, cellOf h14 s30.2 = some (.string x32) ∧
  Br (!(x31.toList == x32.toList)) (R (.bool false) h14) (∃ x33 : Int, cellOf h14 (s30.1.add 1) = some (.int .i64 x33) ∧
  ∃ x34 : Int, cellOf h14 (s30.2.add 1) = some (.int .i64 x34) ∧
  Br (x33 != x34) (R (.bool false) h14) (∃ x35 : Int, cellOf h14 (s30.1.add 2) = some (.int .i64 x35) ∧
  ∃ x36 : Int, cellOf h14 (s30.2.add 2) = some (.int .i64 x36) ∧
  Br (x35 != x36) (R (.bool false) h14) (∃ x37 : Sl, cellOf h14 (s30.1.add 3) = some (.slice x37.ptr x37.len x37.cap) ∧
  ∃ x38 : Sl, cellOf h14 (s30.2.add 3) = some (.slice x38.ptr x38.len x38.cap) ∧
  CallM Tryz.prog 42 #[(.slice x37.ptr x37.len x37.cap), (.slice x38.ptr x38.len x38.cap)] (.one (.sc .bool)) h14 fun r39 h15 =>
  Br (!r39)
  (R (.bool false) h15)
  (K2 (IntKind.wrap .i64 (s19 + (1 : Int))) h15)))))
  (fun K3 =>
  ∃ x20 : Sl, cellOf h5 (a1.add 7) = some (.slice x20.ptr x20.len x20.cap) ∧
  ∃ a21 : Addr, (x20.ptr = some a21 ∧ 0 ≤ s19 ∧ s19 < ((x20.len : Nat) : Int)) ∧
  ∃ x22 : ByteArray × Int × Int × Sl, cellsAt h5 (a21.add (s19.toNat * 4)) 0 [(.string x22.1), (.int .i64 x22.2.1), (.int .i64 x22.2.2.1), (.slice x22.2.2.2.ptr x22.2.2.2.len x22.2.2.2.cap)] ∧
  ∃ x23 : Sl, cellOf h5 (a2.add 7) = some (.slice x23.ptr x23.len x23.cap) ∧
  ∃ a24 : Addr, (x23.ptr = some a24 ∧ 0 ≤ s19 ∧ s19 < ((x23.len : Nat) : Int)) ∧
  ∃ x25 : ByteArray × Int × Int × Sl, cellsAt h5 (a24.add (s19.toNat * 4)) 0 [(.string x25.1), (.int .i64 x25.2.1), (.int .i64 x25.2.2.1), (.slice x25.2.2.2.ptr x25.2.2.2.len x25.2.2.2.cap)] ∧
  (RunsA Tryz.prog (Instr.alloc 133 true (.tuple #[])) h5 fun a26 h6 =>
  (Held.ok [(a24.add (s19.toNat * 4), (.string x25.1)), ((a24.add (s19.toNat * 4)).add 1, (.int .i64 x25.2.1)), ((a24.add (s19.toNat * 4)).add 2, (.int .i64 x25.2.2.1)), ((a24.add (s19.toNat * 4)).add 3, (.slice x25.2.2.2.ptr x25.2.2.2.len x25.2.2.2.cap)), (a2.add 7, (.slice x23.ptr x23.len x23.cap)), (a21.add (s19.toNat * 4), (.string x22.1)), ((a21.add (s19.toNat * 4)).add 1, (.int .i64 x22.2.1)), ((a21.add (s19.toNat * 4)).add 2, (.int .i64 x22.2.2.1)), ((a21.add (s19.toNat * 4)).add 3, (.slice x22.2.2.2.ptr x22.2.2.2.len x22.2.2.2.cap)), (a1.add 7, (.slice x20.ptr x20.len x20.cap))] h6) ∧
  RunsA Tryz.prog (Instr.alloc 133 true (.tuple #[])) h6 fun a27 h7 =>
  (Held.ok [(a24.add (s19.toNat * 4), (.string x25.1)), ((a24.add (s19.toNat * 4)).add 1, (.int .i64 x25.2.1)), ((a24.add (s19.toNat * 4)).add 2, (.int .i64 x25.2.2.1)), ((a24.add (s19.toNat * 4)).add 3, (.slice x25.2.2.2.ptr x25.2.2.2.len x25.2.2.2.cap)), (a2.add 7, (.slice x23.ptr x23.len x23.cap)), (a21.add (s19.toNat * 4), (.string x22.1)), ((a21.add (s19.toNat * 4)).add 1, (.int .i64 x22.2.1)), ((a21.add (s19.toNat * 4)).add 2, (.int .i64 x22.2.2.1)), ((a21.add (s19.toNat * 4)).add 3, (.slice x22.2.2.2.ptr x22.2.2.2.len x22.2.2.2.cap)), (a1.add 7, (.slice x20.ptr x20.len x20.cap))] h7) ∧
  Runs Tryz.prog (Instr.storeAt 133 (.pointer (some a26)) (.agg #[(.string x22.1), (.int .i64 x22.2.1), (.int .i64 x22.2.2.1), (.slice x22.2.2.2.ptr x22.2.2.2.len x22.2.2.2.cap)])) h7 fun _ h8 =>
  (Held.ok [(a24.add (s19.toNat * 4), (.string x25.1)), ((a24.add (s19.toNat * 4)).add 1, (.int .i64 x25.2.1)), ((a24.add (s19.toNat * 4)).add 2, (.int .i64 x25.2.2.1)), ((a24.add (s19.toNat * 4)).add 3, (.slice x25.2.2.2.ptr x25.2.2.2.len x25.2.2.2.cap)), (a2.add 7, (.slice x23.ptr x23.len x23.cap))] h8) ∧
  Runs Tryz.prog (Instr.storeAt 133 (.pointer (some a27)) (.agg #[(.string x25.1), (.int .i64 x25.2.1), (.int .i64 x25.2.2.1), (.slice x25.2.2.2.ptr x25.2.2.2.len x25.2.2.2.cap)])) h8 fun _ h9 =>
  (Held.ok [] h9) ∧
  K3 (a26, a27) h9) ∧ (RunsA Tryz.prog (Instr.alloc 133 true (.tuple #[])) h5 fun a28 h10 =>
  (Held.ok [(a24.add (s19.toNat * 4), (.string x25.1)), ((a24.add (s19.toNat * 4)).add 1, (.int .i64 x25.2.1)), ((a24.add (s19.toNat * 4)).add 2, (.int .i64 x25.2.2.1)), ((a24.add (s19.toNat * 4)).add 3, (.slice x25.2.2.2.ptr x25.2.2.2.len x25.2.2.2.cap)), (a2.add 7, (.slice x23.ptr x23.len x23.cap)), (a21.add (s19.toNat * 4), (.string x22.1)), ((a21.add (s19.toNat * 4)).add 1, (.int .i64 x22.2.1)), ((a21.add (s19.toNat * 4)).add 2, (.int .i64 x22.2.2.1)), ((a21.add (s19.toNat * 4)).add 3, (.slice x22.2.2.2.ptr x22.2.2.2.len x22.2.2.2.cap)), (a1.add 7, (.slice x20.ptr x20.len x20.cap))] h10) ∧
  RunsA Tryz.prog (Instr.alloc 133 true (.tuple #[])) h10 fun a29 h11 =>
  (Held.ok [(a24.add (s19.toNat * 4), (.string x25.1)), ((a24.add (s19.toNat * 4)).add 1, (.int .i64 x25.2.1)), ((a24.add (s19.toNat * 4)).add 2, (.int .i64 x25.2.2.1)), ((a24.add (s19.toNat * 4)).add 3, (.slice x25.2.2.2.ptr x25.2.2.2.len x25.2.2.2.cap)), (a2.add 7, (.slice x23.ptr x23.len x23.cap)), (a21.add (s19.toNat * 4), (.string x22.1)), ((a21.add (s19.toNat * 4)).add 1, (.int .i64 x22.2.1)), ((a21.add (s19.toNat * 4)).add 2, (.int .i64 x22.2.2.1)), ((a21.add (s19.toNat * 4)).add 3, (.slice x22.2.2.2.ptr x22.2.2.2.len x22.2.2.2.cap)), (a1.add 7, (.slice x20.ptr x20.len x20.cap))] h11) ∧
  Runs Tryz.prog (Instr.storeAt 133 (.pointer (some a29)) (.agg #[(.string x22.1), (.int .i64 x22.2.1), (.int .i64 x22.2.2.1), (.slice x22.2.2.2.ptr x22.2.2.2.len x22.2.2.2.cap)])) h11 fun _ h12 =>
  (Held.ok [(a24.add (s19.toNat * 4), (.string x25.1)), ((a24.add (s19.toNat * 4)).add 1, (.int .i64 x25.2.1)), ((a24.add (s19.toNat * 4)).add 2, (.int .i64 x25.2.2.1)), ((a24.add (s19.toNat * 4)).add 3, (.slice x25.2.2.2.ptr x25.2.2.2.len x25.2.2.2.cap)), (a2.add 7, (.slice x23.ptr x23.len x23.cap))] h12) ∧
  Runs Tryz.prog (Instr.storeAt 133 (.pointer (some a28)) (.agg #[(.string x25.1), (.int .i64 x25.2.1), (.int .i64 x25.2.2.1), (.slice x25.2.2.2.ptr x25.2.2.2.len x25.2.2.2.cap)])) h12 fun _ h13 =>
  (Held.ok [] h13) ∧
  K3 (a29, a28) h13)))
  (R (.bool true) h5)) (0 : Int) h4)
  (fun K1 =>
  ∃ x3 : Int, cellOf h2 a1 = some (.int .i64 x3) ∧
  ∃ x4 : Int, cellOf h2 a2 = some (.int .i64 x4) ∧
  Br (x3 != x4) (R (.bool false) h2) (∃ x5 : Int, cellOf h2 (a1.add 1) = some (.int .i64 x5) ∧
  ∃ x6 : Int, cellOf h2 (a2.add 1) = some (.int .i64 x6) ∧
  Br (x5 != x6) (R (.bool false) h2) (∃ x7 : Int × Int × Int, cellsAt h2 (a1.add 2) 0 [(.int .i64 x7.1), (.int .i64 x7.2.1), (.int .i64 x7.2.2)] ∧
  ∃ x8 : Int × Int × Int, cellsAt h2 (a2.add 2) 0 [(.int .i64 x8.1), (.int .i64 x8.2.1), (.int .i64 x8.2.2)] ∧
  ∃ b9 : Bool, (RawBin Tryz.prog .neq 37 (.tmp 22) (.tmp 24) (.agg #[(.int .i64 x7.1), (.int .i64 x7.2.1), (.int .i64 x7.2.2)]) (.agg #[(.int .i64 x8.1), (.int .i64 x8.2.1), (.int .i64 x8.2.2)]) (.bool b9)) ∧
  Br b9 (R (.bool false) h2) (∃ x10 : Int, cellOf h2 (a1.add 5) = some (.int .i64 x10) ∧
  ∃ x11 : Int, cellOf h2 (a2.add 5) = some (.int .i64 x11) ∧
  Br (x10 != x11) (R (.bool false) h2) (∃ x12 : Sl, cellOf h2 (a1.add 6) = some (.slice x12.ptr x12.len x12.cap) ∧
  ∃ x13 : Sl, cellOf h2 (a2.add 6) = some (.slice x13.ptr x13.len x13.cap) ∧
  CallM Tryz.prog 42 #[(.slice x12.ptr x12.len x12.cap), (.slice x13.ptr x13.len x13.cap)] (.one (.sc .bool)) h2 fun r14 h3 =>
  Br (!r14) (R (.bool false) h3) (∃ x15 : Sl, cellOf h3 (a1.add 7) = some (.slice x15.ptr x15.len x15.cap) ∧
  ∃ x16 : Sl, cellOf h3 (a2.add 7) = some (.slice x16.ptr x16.len x16.cap) ∧
  Br (((x15.len : Nat) : Int) != ((x16.len : Nat) : Int))
  (R (.bool false) h3)
  (K1 () h3)))))))
theorem wellspringref15_SameMani_run (a_0 : Int × Int × Int × Int × Int × Int × Sl × Sl) (b_1 : Int × Int × Int × Int × Int × Int × Sl × Sl) {R : Value → Heap → Prop} {h : Heap} (hm : wellspringref15_SameMani_m a_0 b_1 R h) : Meets Tryz.prog 41 #[(.agg #[(.int .i64 a_0.1), (.int .i64 a_0.2.1), (.int .i64 a_0.2.2.1), (.int .i64 a_0.2.2.2.1), (.int .i64 a_0.2.2.2.2.1), (.int .i64 a_0.2.2.2.2.2.1), (.slice a_0.2.2.2.2.2.2.1.ptr a_0.2.2.2.2.2.2.1.len a_0.2.2.2.2.2.2.1.cap), (.slice a_0.2.2.2.2.2.2.2.ptr a_0.2.2.2.2.2.2.2.len a_0.2.2.2.2.2.2.2.cap)]), (.agg #[(.int .i64 b_1.1), (.int .i64 b_1.2.1), (.int .i64 b_1.2.2.1), (.int .i64 b_1.2.2.2.1), (.int .i64 b_1.2.2.2.2.1), (.int .i64 b_1.2.2.2.2.2.1), (.slice b_1.2.2.2.2.2.2.1.ptr b_1.2.2.2.2.2.2.1.len b_1.2.2.2.2.2.2.1.cap), (.slice b_1.2.2.2.2.2.2.2.ptr b_1.2.2.2.2.2.2.2.len b_1.2.2.2.2.2.2.2.cap)])] h R := fn_tie C_ok Tryz.func41 (.two .n (.two (.join [] [(4, 5), (8, 51)] .n) (.two (.two .n (.inn (.loop [(54, (.sc (.int .i64)))] [(4, 8), (54, 95)] (.two .n (.two .n (.two (.inn (.two .n (.two (.join [(6, (.sc .adr)), (7, (.sc .adr))] [(6, 8), (57, 67)] .n) .n))) .n)))))) .n))) hm
abbrev wellspringkeep_Same_int_id : FuncId := 42
noncomputable def wellspringkeep_Same_int_m (a_0 : Sl) (b_1 : Sl) (R : Value → Heap → Prop) (h : Heap) : Prop :=
  Br (((a_0.len : Nat) : Int) != ((b_1.len : Nat) : Int))
  (R (.bool false) h)
  (LoopM (σ := Int) (fun s1 K1 h1 =>
  Br (decide (s1 < ((a_0.len : Nat) : Int)))
  (∃ a2 : Addr, (a_0.ptr = some a2 ∧ 0 ≤ s1 ∧ s1 < ((a_0.len : Nat) : Int)) ∧
  ∃ x3 : Int, cellOf h1 (a2.add (s1.toNat * 1)) = some (.int .i64 x3) ∧
  ∃ a4 : Addr, (b_1.ptr = some a4 ∧ 0 ≤ s1 ∧ s1 < ((b_1.len : Nat) : Int)) ∧
  ∃ x5 : Int, cellOf h1 (a4.add (s1.toNat * 1)) = some (.int .i64 x5) ∧
  Br (x3 != x5)
  (R (.bool false) h1)
  (K1 (IntKind.wrap .i64 (s1 + (1 : Int))) h1))
  (R (.bool true) h1)) (0 : Int) h)
theorem wellspringkeep_Same_int_run (a_0 : Sl) (b_1 : Sl) {R : Value → Heap → Prop} {h : Heap} (hm : wellspringkeep_Same_int_m a_0 b_1 R h) : Meets Tryz.prog 42 #[(.slice a_0.ptr a_0.len a_0.cap), (.slice b_1.ptr b_1.len b_1.cap)] h R := fn_tie C_ok Tryz.func42 (.two .n (.two .n (.two (.two .n (.inn (.loop [(13, (.sc (.int .i64)))] [(4, 6), (13, 26)] .n))) .n))) hm
abbrev wellspringref29_Store_Live_id : FuncId := 43
noncomputable def wellspringref29_Store_Live_m (s_0 : Option Addr) (R : Value → Heap → Prop) (h : Heap) : Prop :=
  ∃ a1 : Addr, (s_0 = some a1) ∧
  ∃ x2 : Sl, cellOf h (a1.add 6) = some (.slice x2.ptr x2.len x2.cap) ∧
  CallM Tryz.prog 86 #[(.pointer s_0), (.slice x2.ptr x2.len x2.cap)] (.one (.sc .slc)) h fun r3 h1 =>
  R (.slice r3.ptr r3.len r3.cap) h1
theorem wellspringref29_Store_Live_run (s_0 : Option Addr) {R : Value → Heap → Prop} {h : Heap} (hm : wellspringref29_Store_Live_m s_0 R h) : Meets Tryz.prog 43 #[(.pointer s_0)] h R := fn_tie C_ok Tryz.func43 .n hm
abbrev store_Store_Down_id : FuncId := 44
noncomputable def store_Store_Down_m (s_0 : Option Addr) (R : Value → Heap → Prop) (h : Heap) : Prop :=
  Br (!(Option.isNone s_0)) (∃ a1 : Addr, (s_0 = some a1) ∧
  ∃ x2 : Option Addr, cellOf h (a1.add 8) = some (.pointer x2) ∧
  CallM Tryz.prog 46 #[(.pointer x2)] (.one (.sc .bool)) h fun r3 h1 =>
  (Held.ok [] h1) ∧
  Br (!r3) ((Held.ok [] h1) ∧
  R (.bool true) h1) (∃ a4 : Addr, (s_0 = some a4) ∧
  ∃ x5 : Option Addr, cellOf h1 (a4.add 8) = some (.pointer x5) ∧
  ∃ a6 : Addr, (s_0 = some a6) ∧
  ∃ x7 : Int, cellOf h1 (a6.add 9) = some (.int .i64 x7) ∧
  CallM Tryz.prog 47 #[(.pointer x5)] (.one (.sc (.int .i64))) h1 fun r8 h2 =>
  (Held.ok [(a6.add 9, (.int .i64 x7))] h2) ∧
  R (.bool (r8 != x7)) h2)) ((Held.ok [] h) ∧
  (Held.ok [] h) ∧
  R (.bool false) h)
theorem store_Store_Down_run (s_0 : Option Addr) {R : Value → Heap → Prop} {h : Heap} (hm : store_Store_Down_m s_0 R h) : Meets Tryz.prog 44 #[(.pointer s_0)] h R := fn_tie C_ok Tryz.func44 .n hm
abbrev wellspringref29_Store_Down_id : FuncId := 45
noncomputable def wellspringref29_Store_Down_m (s_0 : Option Addr) (R : Value → Heap → Prop) (h : Heap) : Prop :=
  ∃ a1 : Addr, (s_0 = some a1) ∧
  ∃ x2 : Option Addr, cellOf h (a1.add 8) = some (.pointer x2) ∧
  ∃ a3 : Addr, (x2 = some a3) ∧
  ∃ x4 : Bool, cellOf h a3 = some (.bool x4) ∧
  Br x4 (R (.bool true) h) (∃ a5 : Addr, (s_0 = some a5) ∧
  ∃ x6 : Option Addr, cellOf h (a5.add 8) = some (.pointer x6) ∧
  ∃ a7 : Addr, (x6 = some a7) ∧
  ∃ x8 : Int, cellOf h (a7.add 3) = some (.int .i64 x8) ∧
  ∃ a9 : Addr, (s_0 = some a9) ∧
  ∃ x10 : Int, cellOf h (a9.add 9) = some (.int .i64 x10) ∧
  R (.bool (x8 != x10)) h)
theorem wellspringref29_Store_Down_run (s_0 : Option Addr) {R : Value → Heap → Prop} {h : Heap} (hm : wellspringref29_Store_Down_m s_0 R h) : Meets Tryz.prog 45 #[(.pointer s_0)] h R := fn_tie C_ok Tryz.func45 .n hm
abbrev power_Power_On_id : FuncId := 46
noncomputable def power_Power_On_m (p_0 : Option Addr) (R : Value → Heap → Prop) (h : Heap) : Prop :=
  Br (!(Option.isNone p_0)) (∃ a1 : Addr, (p_0 = some a1) ∧
  ∃ x2 : Bool, cellOf h a1 = some (.bool x2) ∧
  R (.bool (!x2)) h) (R (.bool false) h)
theorem power_Power_On_run (p_0 : Option Addr) {R : Value → Heap → Prop} {h : Heap} (hm : power_Power_On_m p_0 R h) : Meets Tryz.prog 46 #[(.pointer p_0)] h R := fn_tie C_ok Tryz.func46 .n hm
abbrev power_Power_Offs_id : FuncId := 47
noncomputable def power_Power_Offs_m (p_0 : Option Addr) (R : Value → Heap → Prop) (h : Heap) : Prop :=
  Br (Option.isNone p_0)
  (R (.int .i64 (0 : Int)) h)
  (∃ a1 : Addr, (p_0 = some a1) ∧
  ∃ x2 : Int, cellOf h (a1.add 3) = some (.int .i64 x2) ∧
  R (.int .i64 x2) h)
theorem power_Power_Offs_run (p_0 : Option Addr) {R : Value → Heap → Prop} {h : Heap} (hm : power_Power_Offs_m p_0 R h) : Meets Tryz.prog 47 #[(.pointer p_0)] h R := fn_tie C_ok Tryz.func47 .n hm
abbrev wellspringlaw22_Same_id : FuncId := 48
noncomputable def wellspringlaw22_Same_m (d_0 : Option Addr) (r_1 : Option Addr) (R : Value → Heap → Prop) (h : Heap) : Prop :=
  Br (!((!(Option.isNone d_0)) == (!(Option.isNone r_1))))
  (R (.bool false) h)
  (Br (Option.isNone d_0)
  (R (.bool true) h)
  (∃ a1 : Addr, (r_1 = some a1) ∧
  ∃ x2 : Sl, cellOf h (a1.add 2) = some (.slice x2.ptr x2.len x2.cap) ∧
  ∃ a3 : Addr, (r_1 = some a3) ∧
  ∃ x4 : Sl, cellOf h (a3.add 2) = some (.slice x4.ptr x4.len x4.cap) ∧
  RunsR Tryz.prog (Instr.buildSlice 22 4 #[(0, (.int .i64 (-1 : Int))), (1, (.int .i64 (0 : Int))), (2, (.int .i64 (IntKind.wrap .i64 (((x2.len : Nat) : Int) - (1 : Int))))), (3, (.int .i64 ((x4.len : Nat) : Int)))]) (.one (.sc .slc)) h fun v5 h1 =>
  (Held.ok [(a3.add 2, (.slice x4.ptr x4.len x4.cap)), (a1.add 2, (.slice x2.ptr x2.len x2.cap))] h1) ∧
  LoopM (σ := Int) (fun s6 K1 h2 =>
  Br (decide (s6 < ((v5.len : Nat) : Int)))
  (∃ a7 : Addr, (v5.ptr = some a7 ∧ 0 ≤ s6 ∧ s6 < ((v5.len : Nat) : Int)) ∧
  ∃ x8 : Int, cellOf h2 (a7.add (s6.toNat * 1)) = some (.int .i64 x8) ∧
  JoinM (σ := Sl) (fun s15 h3 =>
  CallM Tryz.prog 88 #[(.pointer d_0), (.int .i64 x8)] (.one (.sc .slc)) h3 fun r16 h4 =>
  CallM Tryz.prog 87 #[(.slice r16.ptr r16.len r16.cap), (.slice s15.ptr s15.len s15.cap)] (.one (.sc .bool)) h4 fun r17 h5 =>
  Br (!r17)
  (R (.bool false) h5)
  (K1 (IntKind.wrap .i64 (s6 + (1 : Int))) h5))
  (fun K2 =>
  Br (decide (x8 ≥ (0 : Int))) (∃ a9 : Addr, (r_1 = some a9) ∧
  ∃ x10 : Sl, cellOf h2 (a9.add 2) = some (.slice x10.ptr x10.len x10.cap) ∧
  Br (decide (x8 < ((x10.len : Nat) : Int)))
  (∃ a11 : Addr, (r_1 = some a11) ∧
  ∃ x12 : Sl, cellOf h2 (a11.add 2) = some (.slice x12.ptr x12.len x12.cap) ∧
  ∃ a13 : Addr, (x12.ptr = some a13 ∧ 0 ≤ x8 ∧ x8 < ((x12.len : Nat) : Int)) ∧
  ∃ x14 : Sl, cellOf h2 (a13.add (x8.toNat * 1)) = some (.slice x14.ptr x14.len x14.cap) ∧
  K2 (⟨x14.ptr, x14.len, x14.cap⟩ : Sl) h2)
  (K2 (⟨none, 0, 0⟩ : Sl) h2)) (K2 (⟨none, 0, 0⟩ : Sl) h2)))
  (∃ a18 : Addr, (r_1 = some a18) ∧
  ∃ x19 : Sl, cellOf h2 (a18.add 2) = some (.slice x19.ptr x19.len x19.cap) ∧
  CallM Tryz.prog 83 #[(.pointer d_0)] (.one (.sc (.int .i64))) h2 fun r20 h6 =>
  (Held.ok [(a18.add 2, (.slice x19.ptr x19.len x19.cap))] h6) ∧
  Br (r20 == ((x19.len : Nat) : Int)) (CallM Tryz.prog 90 #[(.pointer d_0)] (.one (.sc (.int .i64))) h6 fun r21 h7 =>
  (Held.ok [(a18.add 2, (.slice x19.ptr x19.len x19.cap))] h7) ∧
  CallM Tryz.prog 91 #[(.pointer d_0)] (.one (.sc (.int .i64))) h7 fun r22 h8 =>
  (Held.ok [(a18.add 2, (.slice x19.ptr x19.len x19.cap))] h8) ∧
  CallM Tryz.prog 50 #[(.pointer d_0)] (.one (.sc .slc)) h8 fun r23 h9 =>
  (Held.ok [(a18.add 2, (.slice x19.ptr x19.len x19.cap))] h9) ∧
  CallM Tryz.prog 13 #[(.pointer d_0)] (.one (.sc .bool)) h9 fun r24 h10 =>
  (Held.ok [(a18.add 2, (.slice x19.ptr x19.len x19.cap))] h10) ∧
  CallM Tryz.prog 89 #[(.int .i64 r21), (.int .i64 r22), (.slice r23.ptr r23.len r23.cap), (.bool r24), (.pointer r_1)] (.one (.sc .bool)) h10 fun r25 h11 =>
  (Held.ok [(a18.add 2, (.slice x19.ptr x19.len x19.cap))] h11) ∧
  R (.bool r25) h11) ((Held.ok [(a18.add 2, (.slice x19.ptr x19.len x19.cap))] h6) ∧
  (Held.ok [(a18.add 2, (.slice x19.ptr x19.len x19.cap))] h6) ∧
  (Held.ok [(a18.add 2, (.slice x19.ptr x19.len x19.cap))] h6) ∧
  (Held.ok [(a18.add 2, (.slice x19.ptr x19.len x19.cap))] h6) ∧
  (Held.ok [(a18.add 2, (.slice x19.ptr x19.len x19.cap))] h6) ∧
  R (.bool false) h6))) (0 : Int) h1))
theorem wellspringlaw22_Same_run (d_0 : Option Addr) (r_1 : Option Addr) {R : Value → Heap → Prop} {h : Heap} (hm : wellspringlaw22_Same_m d_0 r_1 R h) : Meets Tryz.prog 48 #[(.pointer d_0), (.pointer r_1)] h R := fn_tie C_ok Tryz.func48 (.two .n (.two .n (.two .n (.two (.two .n (.inn (.loop [(28, (.sc (.int .i64)))] [(4, 5), (6, 8), (28, 57)] (.two .n (.two .n (.two (.inn (.two .n (.two .n (.two (.join [(7, (.sc .slc))] [(7, 8), (32, 50)] .n) .n)))) .n)))))) .n)))) hm
abbrev mani_May_id : FuncId := 49
noncomputable def mani_May_m (m_0 : Int × Int × Int × Int × Int × Int × Sl × Sl) (R : Value → Heap → Prop) (h : Heap) : Prop :=
  RunsA Tryz.prog (Instr.box 40 (.agg #[(.int .i64 m_0.1), (.int .i64 m_0.2.1), (.int .i64 m_0.2.2.1), (.int .i64 m_0.2.2.2.1), (.int .i64 m_0.2.2.2.2.1), (.int .i64 m_0.2.2.2.2.2.1), (.slice m_0.2.2.2.2.2.2.1.ptr m_0.2.2.2.2.2.2.1.len m_0.2.2.2.2.2.2.1.cap), (.slice m_0.2.2.2.2.2.2.2.ptr m_0.2.2.2.2.2.2.2.len m_0.2.2.2.2.2.2.2.cap)])) h fun a1 h1 =>
  JoinM (σ := Unit) (fun _ h6 =>
  JoinM (σ := Unit) (fun _ h8 =>
  ∃ x15 : Sl, cellOf h8 (a1.add 7) = some (.slice x15.ptr x15.len x15.cap) ∧
  LoopM (σ := Int) (fun s16 K3 h9 =>
  Br (decide (s16 < ((x15.len : Nat) : Int)))
  (∃ a17 : Addr, (x15.ptr = some a17 ∧ 0 ≤ s16 ∧ s16 < ((x15.len : Nat) : Int)) ∧
  ∃ x18 : ByteArray × Int × Int × Sl, cellsAt h9 (a17.add (s16.toNat * 4)) 0 [(.string x18.1), (.int .i64 x18.2.1), (.int .i64 x18.2.2.1), (.slice x18.2.2.2.ptr x18.2.2.2.len x18.2.2.2.cap)] ∧
  RunsA Tryz.prog (Instr.alloc 133 true (.tuple #[])) h9 fun a19 h10 =>
  Runs Tryz.prog (Instr.storeAt 133 (.pointer (some a19)) (.agg #[(.string x18.1), (.int .i64 x18.2.1), (.int .i64 x18.2.2.1), (.slice x18.2.2.2.ptr x18.2.2.2.len x18.2.2.2.cap)])) h10 fun _ h11 =>
  JoinM (σ := Unit) (fun _ h13 =>
  ∃ x28 : Sl, cellOf h13 (a1.add 7) = some (.slice x28.ptr x28.len x28.cap) ∧
  (0 ≤ s16 ∧ s16 ≤ ((x28.cap : Nat) : Int)) ∧
  CallM Tryz.prog 95 #[(.slice x28.ptr s16.toNat x28.cap), (.func (.func 96) #[] #[(.pointer (some a19))])] (.one (.sc .bool)) h13 fun r29 h14 =>
  Br r29
  (R (.bool false) h14)
  (K3 (IntKind.wrap .i64 (s16 + (1 : Int))) h14))
  (fun K4 =>
  ∃ x20 : Int × Int × Int × Int × Int × Int × Sl × Sl, cellsAt h11 a1 0 [(.int .i64 x20.1), (.int .i64 x20.2.1), (.int .i64 x20.2.2.1), (.int .i64 x20.2.2.2.1), (.int .i64 x20.2.2.2.2.1), (.int .i64 x20.2.2.2.2.2.1), (.slice x20.2.2.2.2.2.2.1.ptr x20.2.2.2.2.2.2.1.len x20.2.2.2.2.2.2.1.cap), (.slice x20.2.2.2.2.2.2.2.ptr x20.2.2.2.2.2.2.2.len x20.2.2.2.2.2.2.2.cap)] ∧
  ∃ x21 : ByteArray × Int × Int × Sl, cellsAt h11 a19 0 [(.string x21.1), (.int .i64 x21.2.1), (.int .i64 x21.2.2.1), (.slice x21.2.2.2.ptr x21.2.2.2.len x21.2.2.2.cap)] ∧
  CallM Tryz.prog 94 #[(.agg #[(.int .i64 x20.1), (.int .i64 x20.2.1), (.int .i64 x20.2.2.1), (.int .i64 x20.2.2.2.1), (.int .i64 x20.2.2.2.2.1), (.int .i64 x20.2.2.2.2.2.1), (.slice x20.2.2.2.2.2.2.1.ptr x20.2.2.2.2.2.2.1.len x20.2.2.2.2.2.2.1.cap), (.slice x20.2.2.2.2.2.2.2.ptr x20.2.2.2.2.2.2.2.len x20.2.2.2.2.2.2.2.cap)]), (.agg #[(.string x21.1), (.int .i64 x21.2.1), (.int .i64 x21.2.2.1), (.slice x21.2.2.2.ptr x21.2.2.2.len x21.2.2.2.cap)])] (.one (.sc .bool)) h11 fun r22 h12 =>
  (Held.ok [] h12) ∧
  Br (!r22) (R (.bool false) h12) (Br (decide (s16 > (0 : Int))) (∃ x23 : Sl, cellOf h12 (a1.add 7) = some (.slice x23.ptr x23.len x23.cap) ∧
  ∃ a24 : Addr, (x23.ptr = some a24 ∧ 0 ≤ (IntKind.wrap .i64 (s16 - (1 : Int))) ∧ (IntKind.wrap .i64 (s16 - (1 : Int))) < ((x23.len : Nat) : Int)) ∧
  ∃ x25 : ByteArray, cellOf h12 (a24.add ((IntKind.wrap .i64 (s16 - (1 : Int))).toNat * 4)) = some (.string x25) ∧
  ∃ x26 : ByteArray, cellOf h12 a19 = some (.string x26) ∧
  Br (!(Op.bytesLess x25.toList x26.toList))
  (R (.bool false) h12)
  (K4 () h12)) (K4 () h12))))
  (R (.bool true) h9)) (0 : Int) h8)
  (fun K2 =>
  ∃ x11 : Sl, cellOf h6 (a1.add 6) = some (.slice x11.ptr x11.len x11.cap) ∧
  CallM Tryz.prog 93 #[(.slice x11.ptr x11.len x11.cap), (.int .i64 (63 : Int))] (.one (.sc .bool)) h6 fun r12 h7 =>
  Br (!r12) (R (.bool false) h7) (∃ x13 : Sl, cellOf h7 (a1.add 7) = some (.slice x13.ptr x13.len x13.cap) ∧
  Br (decide (((x13.len : Nat) : Int) > (12 : Int)))
  (R (.bool false) h7)
  (K2 () h7))))
  (fun K1 =>
  ∃ x2 : Int, cellOf h1 a1 = some (.int .i64 x2) ∧
  CallM Tryz.prog 92 #[(.int .i64 x2), (.int .i64 (1 : Int)), (.int .i64 (2147483647 : Int))] (.one (.sc .bool)) h1 fun r3 h2 =>
  Br (!r3) (R (.bool false) h2) (∃ x4 : Int, cellOf h2 (a1.add 1) = some (.int .i64 x4) ∧
  CallM Tryz.prog 92 #[(.int .i64 x4), (.int .i64 (0 : Int)), (.int .i64 (16777216 : Int))] (.one (.sc .bool)) h2 fun r5 h3 =>
  Br (!r5) (R (.bool false) h3) (∃ x6 : Int × Int × Int, cellsAt h3 (a1.add 2) 0 [(.int .i64 x6.1), (.int .i64 x6.2.1), (.int .i64 x6.2.2)] ∧
  CallM Tryz.prog 58 #[(.agg #[(.int .i64 x6.1), (.int .i64 x6.2.1), (.int .i64 x6.2.2)])] (.one (.sc .bool)) h3 fun r7 h4 =>
  Br (!r7) (R (.bool false) h4) (∃ x8 : Int, cellOf h4 (a1.add 5) = some (.int .i64 x8) ∧
  CallM Tryz.prog 92 #[(.int .i64 x8), (.int .i64 (0 : Int)), (.int .i64 (16 : Int))] (.one (.sc .bool)) h4 fun r9 h5 =>
  Br (!r9)
  (R (.bool false) h5)
  (K1 () h5)))))
theorem mani_May_run (m_0 : Int × Int × Int × Int × Int × Int × Sl × Sl) {R : Value → Heap → Prop} {h : Heap} (hm : mani_May_m m_0 R h) : Meets Tryz.prog 49 #[(.agg #[(.int .i64 m_0.1), (.int .i64 m_0.2.1), (.int .i64 m_0.2.2.1), (.int .i64 m_0.2.2.2.1), (.int .i64 m_0.2.2.2.2.1), (.int .i64 m_0.2.2.2.2.2.1), (.slice m_0.2.2.2.2.2.2.1.ptr m_0.2.2.2.2.2.2.1.len m_0.2.2.2.2.2.2.1.cap), (.slice m_0.2.2.2.2.2.2.2.ptr m_0.2.2.2.2.2.2.2.len m_0.2.2.2.2.2.2.2.cap)])] h R := fn_tie C_ok Tryz.func49 (.two .n (.two (.join [] [(2, 3), (5, 27)] .n) (.two (.join [] [(2, 3), (27, 37)] .n) (.two (.two .n (.inn (.loop [(40, (.sc (.int .i64)))] [(2, 5), (40, 72)] (.two .n (.two .n (.two (.inn (.two .n (.two (.join [] [(2, 3), (45, 65)] .n) .n))) .n)))))) .n)))) hm
abbrev drive_Drive_All_id : FuncId := 50
noncomputable def drive_Drive_All_m (d_0 : Option Addr) (R : Value → Heap → Prop) (h : Heap) : Prop :=
  Br (Option.isNone d_0)
  (R (.slice none 0 0) h)
  (∃ a1 : Addr, (d_0 = some a1) ∧
  ∃ x2 : Sl, cellOf h (a1.add 2) = some (.slice x2.ptr x2.len x2.cap) ∧
  CallM Tryz.prog 97 #[(.slice x2.ptr x2.len x2.cap)] (.one (.sc .slc)) h fun r3 h1 =>
  R (.slice r3.ptr r3.len r3.cap) h1)
theorem drive_Drive_All_run (d_0 : Option Addr) {R : Value → Heap → Prop} {h : Heap} (hm : drive_Drive_All_m d_0 R h) : Meets Tryz.prog 50 #[(.pointer d_0)] h R := fn_tie C_ok Tryz.func50 .n hm
abbrev slices_ContainsFunc_ss_byte_byte_id : FuncId := 51
noncomputable def slices_ContainsFunc_ss_byte_byte_m (s_0 : Sl) (f_1 : FuncId × Array Value × Array Value) (R : Value → Heap → Prop) (h : Heap) : Prop :=
  CallM Tryz.prog 98 #[(.slice s_0.ptr s_0.len s_0.cap), (.func (.func f_1.1) f_1.2.1 f_1.2.2)] (.one (.sc (.int .i64))) h fun r1 h1 =>
  R (.bool (decide (r1 ≥ (0 : Int)))) h1
theorem slices_ContainsFunc_ss_byte_byte_run (s_0 : Sl) (f_1 : FuncId × Array Value × Array Value) {R : Value → Heap → Prop} {h : Heap} (hm : slices_ContainsFunc_ss_byte_byte_m s_0 f_1 R h) : Meets Tryz.prog 51 #[(.slice s_0.ptr s_0.len s_0.cap), (.func (.func f_1.1) f_1.2.1 f_1.2.2)] h R := fn_tie C_ok Tryz.func51 .n hm
abbrev scan_Whole_1_id : FuncId := 52
noncomputable def scan_Whole_1_m (c_0 : Sl) (cap_1 : Addr) (R : Value → Heap → Prop) (h : Heap) : Prop :=
  ∃ x1 : Sl, cellOf h cap_1 = some (.slice x1.ptr x1.len x1.cap) ∧
  CallM Tryz.prog 53 #[(.slice c_0.ptr c_0.len c_0.cap), (.slice x1.ptr x1.len x1.cap)] (.one (.sc .bool)) h fun r2 h1 =>
  R (.bool r2) h1
theorem scan_Whole_1_run (c_0 : Sl) (cap_1 : Addr) {R : Value → Heap → Prop} {h : Heap} (hm : scan_Whole_1_m c_0 cap_1 R h) : Meets Tryz.prog 52 #[(.slice c_0.ptr c_0.len c_0.cap), (.pointer (some cap_1))] h R := fn_tie C_ok Tryz.func52 .n hm
abbrev bytes_Equal_id : FuncId := 53
noncomputable def bytes_Equal_m (a_0 : Sl) (b_1 : Sl) (R : Value → Heap → Prop) (h : Heap) : Prop :=
  RunsR Tryz.prog (convert 90 9 (.slice a_0.ptr a_0.len a_0.cap)) (.one (.sc .str)) h fun v1 h1 =>
  RunsR Tryz.prog (convert 90 9 (.slice b_1.ptr b_1.len b_1.cap)) (.one (.sc .str)) h1 fun v2 h2 =>
  R (.bool (v1.toList == v2.toList)) h2
theorem bytes_Equal_run (a_0 : Sl) (b_1 : Sl) {R : Value → Heap → Prop} {h : Heap} (hm : bytes_Equal_m a_0 b_1 R h) : Meets Tryz.prog 53 #[(.slice a_0.ptr a_0.len a_0.cap), (.slice b_1.ptr b_1.len b_1.cap)] h R := fn_tie C_ok Tryz.func53 .n hm
abbrev mani_Own_id : FuncId := 54
noncomputable def mani_Own_m (m_0 : Int × Int × Int × Int × Int × Int × Sl × Sl) (R : Value → Heap → Prop) (h : Heap) : Prop :=
  RunsA Tryz.prog (Instr.box 40 (.agg #[(.int .i64 m_0.1), (.int .i64 m_0.2.1), (.int .i64 m_0.2.2.1), (.int .i64 m_0.2.2.2.1), (.int .i64 m_0.2.2.2.2.1), (.int .i64 m_0.2.2.2.2.2.1), (.slice m_0.2.2.2.2.2.2.1.ptr m_0.2.2.2.2.2.2.1.len m_0.2.2.2.2.2.2.1.cap), (.slice m_0.2.2.2.2.2.2.2.ptr m_0.2.2.2.2.2.2.2.len m_0.2.2.2.2.2.2.2.cap)])) h fun a1 h1 =>
  RunsA Tryz.prog (Instr.alloc 40 true (.tuple #[])) h1 fun a2 h2 =>
  JoinM (σ := Unit) (fun _ h7 =>
  ∃ x8 : Sl, cellOf h7 (a1.add 7) = some (.slice x8.ptr x8.len x8.cap) ∧
  LoopM (σ := Int) (fun s9 K2 h8 =>
  Br (decide (s9 < ((x8.len : Nat) : Int)))
  (∃ x10 : Sl, cellOf h8 (a1.add 7) = some (.slice x10.ptr x10.len x10.cap) ∧
  ∃ x11 : Sl, cellOf h8 (a1.add 7) = some (.slice x11.ptr x11.len x11.cap) ∧
  ∃ a12 : Addr, (x11.ptr = some a12 ∧ 0 ≤ s9 ∧ s9 < ((x11.len : Nat) : Int)) ∧
  ∃ x13 : Sl, cellOf h8 ((a12.add (s9.toNat * 4)).add 3) = some (.slice x13.ptr x13.len x13.cap) ∧
  CallM Tryz.prog 99 #[(.slice x13.ptr x13.len x13.cap)] (.one (.sc .slc)) h8 fun r14 h9 =>
  (Held.ok [(a1.add 7, (.slice x11.ptr x11.len x11.cap)), (a1.add 7, (.slice x10.ptr x10.len x10.cap))] h9) ∧
  ∃ a15 : Addr, (x10.ptr = some a15 ∧ 0 ≤ s9 ∧ s9 < ((x10.len : Nat) : Int)) ∧
  Runs Tryz.prog (Instr.storeAt 22 (.pointer (some ((a15.add (s9.toNat * 4)).add 3))) (.slice r14.ptr r14.len r14.cap)) h9 fun _ h10 =>
  (Held.ok [] h10) ∧
  K2 (IntKind.wrap .i64 (s9 + (1 : Int))) h10)
  (∃ x16 : Int × Int × Int × Int × Int × Int × Sl × Sl, cellsAt h8 a1 0 [(.int .i64 x16.1), (.int .i64 x16.2.1), (.int .i64 x16.2.2.1), (.int .i64 x16.2.2.2.1), (.int .i64 x16.2.2.2.2.1), (.int .i64 x16.2.2.2.2.2.1), (.slice x16.2.2.2.2.2.2.1.ptr x16.2.2.2.2.2.2.1.len x16.2.2.2.2.2.2.1.cap), (.slice x16.2.2.2.2.2.2.2.ptr x16.2.2.2.2.2.2.2.len x16.2.2.2.2.2.2.2.cap)] ∧
  Runs Tryz.prog (Instr.storeAt 40 (.pointer (some a2)) (.agg #[(.int .i64 x16.1), (.int .i64 x16.2.1), (.int .i64 x16.2.2.1), (.int .i64 x16.2.2.2.1), (.int .i64 x16.2.2.2.2.1), (.int .i64 x16.2.2.2.2.2.1), (.slice x16.2.2.2.2.2.2.1.ptr x16.2.2.2.2.2.2.1.len x16.2.2.2.2.2.2.1.cap), (.slice x16.2.2.2.2.2.2.2.ptr x16.2.2.2.2.2.2.2.len x16.2.2.2.2.2.2.2.cap)])) h8 fun _ h11 =>
  ∃ res17 : Int × Int × Int × Int × Int × Int × Sl × Sl, cellsAt h11 a2 0 [(.int .i64 res17.1), (.int .i64 res17.2.1), (.int .i64 res17.2.2.1), (.int .i64 res17.2.2.2.1), (.int .i64 res17.2.2.2.2.1), (.int .i64 res17.2.2.2.2.2.1), (.slice res17.2.2.2.2.2.2.1.ptr res17.2.2.2.2.2.2.1.len res17.2.2.2.2.2.2.1.cap), (.slice res17.2.2.2.2.2.2.2.ptr res17.2.2.2.2.2.2.2.len res17.2.2.2.2.2.2.2.cap)] ∧
  R (.agg #[(.int .i64 res17.1), (.int .i64 res17.2.1), (.int .i64 res17.2.2.1), (.int .i64 res17.2.2.2.1), (.int .i64 res17.2.2.2.2.1), (.int .i64 res17.2.2.2.2.2.1), (.slice res17.2.2.2.2.2.2.1.ptr res17.2.2.2.2.2.2.1.len res17.2.2.2.2.2.2.1.cap), (.slice res17.2.2.2.2.2.2.2.ptr res17.2.2.2.2.2.2.2.len res17.2.2.2.2.2.2.2.cap)]) h11)) (0 : Int) h7)
  (fun K1 =>
  ∃ x3 : Sl, cellOf h2 (a1.add 6) = some (.slice x3.ptr x3.len x3.cap) ∧
  ∃ x4 : Sl, cellOf h2 (a1.add 7) = some (.slice x4.ptr x4.len x4.cap) ∧
  CallM Tryz.prog 99 #[(.slice x3.ptr x3.len x3.cap)] (.one (.sc .slc)) h2 fun r5 h3 =>
  (Held.ok [(a1.add 7, (.slice x4.ptr x4.len x4.cap))] h3) ∧
  CallM Tryz.prog 100 #[(.slice x4.ptr x4.len x4.cap)] (.one (.sc .slc)) h3 fun r6 h4 =>
  (Held.ok [] h4) ∧
  Runs Tryz.prog (Instr.storeAt 22 (.pointer (some (a1.add 6))) (.slice r5.ptr r5.len r5.cap)) h4 fun _ h5 =>
  (Held.ok [] h5) ∧
  Runs Tryz.prog (Instr.storeAt 38 (.pointer (some (a1.add 7))) (.slice r6.ptr r6.len r6.cap)) h5 fun _ h6 =>
  (Held.ok [] h6) ∧
  K1 () h6)
theorem mani_Own_run (m_0 : Int × Int × Int × Int × Int × Int × Sl × Sl) {R : Value → Heap → Prop} {h : Heap} (hm : mani_Own_m m_0 R h) : Meets Tryz.prog 54 #[(.agg #[(.int .i64 m_0.1), (.int .i64 m_0.2.1), (.int .i64 m_0.2.2.1), (.int .i64 m_0.2.2.2.1), (.int .i64 m_0.2.2.2.2.1), (.int .i64 m_0.2.2.2.2.2.1), (.slice m_0.2.2.2.2.2.2.1.ptr m_0.2.2.2.2.2.2.1.len m_0.2.2.2.2.2.2.1.cap), (.slice m_0.2.2.2.2.2.2.2.ptr m_0.2.2.2.2.2.2.2.len m_0.2.2.2.2.2.2.2.cap)])] h R := fn_tie C_ok Tryz.func54 (.two .n (.two (.join [] [(4, 12)] .n) (.two (.two .n (.inn (.loop [(15, (.sc (.int .i64)))] [(3, 4), (15, 31)] .n))) .n))) hm
abbrev wellspringplay_Small_id : FuncId := 55
noncomputable def wellspringplay_Small_m (a_0 : Int) (b_1 : Int) (c_2 : Int) (R : Value → Heap → Prop) (h : Heap) : Prop :=
  RunsA Tryz.prog (Instr.alloc 37 true (.tuple #[])) h fun a1 h1 =>
  CallM Tryz.prog 6 #[(.int .i64 a_0), (.int .i64 (6 : Int))] (.one (.sc (.int .i64))) h1 fun r2 h2 =>
  CallM Tryz.prog 6 #[(.int .i64 b_1), (.int .i64 (3 : Int))] (.one (.sc (.int .i64))) h2 fun r3 h3 =>
  CallM Tryz.prog 6 #[(.int .i64 c_2), (.int .i64 (9 : Int))] (.one (.sc (.int .i64))) h3 fun r4 h4 =>
  Runs Tryz.prog (Instr.storeAt 37 (.pointer (some a1)) (.agg #[(.int .i64 (IntKind.wrap .i64 ((1 : Int) + r2))), (.int .i64 (IntKind.wrap .i64 ((1 : Int) + r3))), (.int .i64 (IntKind.wrap .i64 ((1 : Int) + r4)))])) h4 fun _ h5 =>
  ∃ res5 : Int × Int × Int, cellsAt h5 a1 0 [(.int .i64 res5.1), (.int .i64 res5.2.1), (.int .i64 res5.2.2)] ∧
  R (.agg #[(.int .i64 res5.1), (.int .i64 res5.2.1), (.int .i64 res5.2.2)]) h5
theorem wellspringplay_Small_run (a_0 : Int) (b_1 : Int) (c_2 : Int) {R : Value → Heap → Prop} {h : Heap} (hm : wellspringplay_Small_m a_0 b_1 c_2 R h) : Meets Tryz.prog 55 #[(.int .i64 a_0), (.int .i64 b_1), (.int .i64 c_2)] h R := fn_tie C_ok Tryz.func55 .n hm
abbrev wellspringplay_Num_id : FuncId := 56
noncomputable def wellspringplay_Num_m (l_0 : Sl) (k_1 : Int) (R : Value → Heap → Prop) (h : Heap) : Prop :=
  Br (decide (k_1 < ((l_0.len : Nat) : Int)))
  (∃ a1 : Addr, (l_0.ptr = some a1 ∧ 0 ≤ k_1 ∧ k_1 < ((l_0.len : Nat) : Int)) ∧
  ∃ x2 : Int, cellOf h (a1.add (k_1.toNat * 1)) = some (.int .i64 x2) ∧
  R (.int .i64 x2) h)
  (R (.int .i64 (0 : Int)) h)
theorem wellspringplay_Num_run (l_0 : Sl) (k_1 : Int) {R : Value → Heap → Prop} {h : Heap} (hm : wellspringplay_Num_m l_0 k_1 R h) : Meets Tryz.prog 56 #[(.slice l_0.ptr l_0.len l_0.cap), (.int .i64 k_1)] h R := fn_tie C_ok Tryz.func56 .n hm
abbrev store_places_id : FuncId := 57
noncomputable def store_places_m (cells_0 : Sl) (R : Value → Heap → Prop) (h : Heap) : Prop :=
  LoopM (σ := Sl × Int) (fun s1 K1 h1 =>
  Br (decide (s1.2 < ((cells_0.len : Nat) : Int)))
  (∃ a2 : Addr, (cells_0.ptr = some a2 ∧ 0 ≤ s1.2 ∧ s1.2 < ((cells_0.len : Nat) : Int)) ∧
  ∃ x3 : Int, cellOf h1 (a2.add (s1.2.toNat * 1)) = some (.int .i64 x3) ∧
  JoinM (σ := Unit) (fun _ h2 =>
  Br (decide (x3 > (0 : Int)))
  (RunsR Tryz.prog (Instr.buildSlice 22 1 #[(0, (.int .i64 s1.2))]) (.one (.sc .slc)) h2 fun v5 h3 =>
  RunsR Tryz.prog (Builtin.append_ #[22, 22] 22 #[(.slice s1.1.ptr s1.1.len s1.1.cap), (.slice v5.ptr v5.len v5.cap)]) (.one (.sc .slc)) h3 fun v6 h4 =>
  K1 ((⟨v6.ptr, v6.len, v6.cap⟩ : Sl), IntKind.wrap .i64 (s1.2 + (1 : Int))) h4)
  (K1 ((⟨s1.1.ptr, s1.1.len, s1.1.cap⟩ : Sl), IntKind.wrap .i64 (s1.2 + (1 : Int))) h2))
  (fun K2 =>
  Br (decide (x3 < (0 : Int))) (R (.tuple #[(.slice none 0 0), (.bool false)]) h1) (Br (decide (x3 > (512 : Int)))
  (R (.tuple #[(.slice none 0 0), (.bool false)]) h1)
  (K2 () h1))))
  (Br (decide (((cells_0.len : Nat) : Int) ≤ (64 : Int))) (R (.tuple #[(.slice s1.1.ptr s1.1.len s1.1.cap), (.bool (decide (((s1.1.len : Nat) : Int) > (0 : Int))))]) h1) (R (.tuple #[(.slice s1.1.ptr s1.1.len s1.1.cap), (.bool false)]) h1))) ((⟨none, 0, 0⟩ : Sl), (0 : Int)) h
theorem store_places_run (cells_0 : Sl) {R : Value → Heap → Prop} {h : Heap} (hm : store_places_m cells_0 R h) : Meets Tryz.prog 57 #[(.slice cells_0.ptr cells_0.len cells_0.cap)] h R := fn_tie C_ok Tryz.func57 (.two .n (.two .n (.two (.two .n (.inn (.loop [(4, (.sc .slc)), (9, (.sc (.int .i64)))] [(2, 7), (9, 27)] (.two .n (.two .n (.two (.inn (.two .n (.two (.join [] [(2, 4), (14, 20)] .n) .n))) .n)))))) .n))) hm
abbrev pre_May_id : FuncId := 58
noncomputable def pre_May_m (p_0 : Int × Int × Int) (R : Value → Heap → Prop) (h : Heap) : Prop :=
  RunsA Tryz.prog (Instr.box 37 (.agg #[(.int .i64 p_0.1), (.int .i64 p_0.2.1), (.int .i64 p_0.2.2)])) h fun a1 h1 =>
  ∃ x2 : Int, cellOf h1 a1 = some (.int .i64 x2) ∧
  Br (decide (x2 ≥ (1 : Int))) (∃ x3 : Int, cellOf h1 a1 = some (.int .i64 x3) ∧
  Br (decide (x3 ≤ (16 : Int))) (∃ x4 : Int, cellOf h1 (a1.add 1) = some (.int .i64 x4) ∧
  Br (decide (x4 ≥ (1 : Int))) (∃ x5 : Int, cellOf h1 (a1.add 1) = some (.int .i64 x5) ∧
  Br (decide (x5 ≤ (4 : Int))) (∃ x6 : Int, cellOf h1 (a1.add 2) = some (.int .i64 x6) ∧
  Br (decide (x6 ≥ (1 : Int))) (∃ x7 : Int, cellOf h1 (a1.add 2) = some (.int .i64 x7) ∧
  R (.bool (decide (x7 ≤ (24 : Int)))) h1) (R (.bool false) h1)) (R (.bool false) h1)) (R (.bool false) h1)) (R (.bool false) h1)) (R (.bool false) h1)
theorem pre_May_run (p_0 : Int × Int × Int) {R : Value → Heap → Prop} {h : Heap} (hm : pre_May_m p_0 R h) : Meets Tryz.prog 58 #[(.agg #[(.int .i64 p_0.1), (.int .i64 p_0.2.1), (.int .i64 p_0.2.2)])] h R := fn_tie C_ok Tryz.func58 .n hm
abbrev wellspringref29_MayFormat_id : FuncId := 59
noncomputable def wellspringref29_MayFormat_m (p_0 : Int × Int × Int) (extra_1 : Int) (cells_2 : Sl) (R : Value → Heap → Prop) (h : Heap) : Prop :=
  RunsA Tryz.prog (Instr.box 37 (.agg #[(.int .i64 p_0.1), (.int .i64 p_0.2.1), (.int .i64 p_0.2.2)])) h fun a1 h1 =>
  RunsA Tryz.prog (Instr.alloc 40 true (.tuple #[])) h1 fun a2 h2 =>
  JoinM (σ := Unit) (fun _ h8 =>
  ∃ x10 : Int × Int × Int, cellsAt h8 a1 0 [(.int .i64 x10.1), (.int .i64 x10.2.1), (.int .i64 x10.2.2)] ∧
  RunsA Tryz.prog (Instr.alloc 40 true (.tuple #[])) h8 fun a11 h9 =>
  Runs Tryz.prog (Instr.storeAt 40 (.pointer (some a11)) (.agg #[(.int .i64 (1 : Int)), (.int .i64 (0 : Int)), (.int .i64 x10.1), (.int .i64 x10.2.1), (.int .i64 x10.2.2), (.int .i64 extra_1), (.slice none 0 0), (.slice none 0 0)])) h9 fun _ h10 =>
  LoopM (σ := Int) (fun s12 K2 h11 =>
  Br (decide (s12 < ((cells_2.len : Nat) : Int)))
  (∃ a13 : Addr, (cells_2.ptr = some a13 ∧ 0 ≤ s12 ∧ s12 < ((cells_2.len : Nat) : Int)) ∧
  ∃ x14 : Int, cellOf h11 (a13.add (s12.toNat * 1)) = some (.int .i64 x14) ∧
  JoinM (σ := Unit) (fun _ h14 =>
  Br (decide (x14 > (0 : Int)))
  (∃ x18 : Sl, cellOf h14 (a11.add 6) = some (.slice x18.ptr x18.len x18.cap) ∧
  RunsR Tryz.prog (Instr.buildSlice 22 1 #[(0, (.int .i64 s12))]) (.one (.sc .slc)) h14 fun v19 h15 =>
  RunsR Tryz.prog (Builtin.append_ #[22, 22] 22 #[(.slice x18.ptr x18.len x18.cap), (.slice v19.ptr v19.len v19.cap)]) (.one (.sc .slc)) h15 fun v20 h16 =>
  Runs Tryz.prog (Instr.storeAt 22 (.pointer (some (a11.add 6))) (.slice v20.ptr v20.len v20.cap)) h16 fun _ h17 =>
  K2 (IntKind.wrap .i64 (s12 + (1 : Int))) h17)
  (K2 (IntKind.wrap .i64 (s12 + (1 : Int))) h14))
  (fun K3 =>
  Br (decide (x14 < (0 : Int))) (Runs Tryz.prog (Instr.storeAt 40 (.pointer (some a2)) (.agg #[(.int .i64 (0 : Int)), (.int .i64 (0 : Int)), (.int .i64 (0 : Int)), (.int .i64 (0 : Int)), (.int .i64 (0 : Int)), (.int .i64 (0 : Int)), (.slice none 0 0), (.slice none 0 0)])) h11 fun _ h12 =>
  ∃ res15 : Int × Int × Int × Int × Int × Int × Sl × Sl, cellsAt h12 a2 0 [(.int .i64 res15.1), (.int .i64 res15.2.1), (.int .i64 res15.2.2.1), (.int .i64 res15.2.2.2.1), (.int .i64 res15.2.2.2.2.1), (.int .i64 res15.2.2.2.2.2.1), (.slice res15.2.2.2.2.2.2.1.ptr res15.2.2.2.2.2.2.1.len res15.2.2.2.2.2.2.1.cap), (.slice res15.2.2.2.2.2.2.2.ptr res15.2.2.2.2.2.2.2.len res15.2.2.2.2.2.2.2.cap)] ∧
  R (.tuple #[(.agg #[(.int .i64 res15.1), (.int .i64 res15.2.1), (.int .i64 res15.2.2.1), (.int .i64 res15.2.2.2.1), (.int .i64 res15.2.2.2.2.1), (.int .i64 res15.2.2.2.2.2.1), (.slice res15.2.2.2.2.2.2.1.ptr res15.2.2.2.2.2.2.1.len res15.2.2.2.2.2.2.1.cap), (.slice res15.2.2.2.2.2.2.2.ptr res15.2.2.2.2.2.2.2.len res15.2.2.2.2.2.2.2.cap)]), (.int .i64 (1 : Int))]) h12) (Br (decide (x14 > (512 : Int)))
  (Runs Tryz.prog (Instr.storeAt 40 (.pointer (some a2)) (.agg #[(.int .i64 (0 : Int)), (.int .i64 (0 : Int)), (.int .i64 (0 : Int)), (.int .i64 (0 : Int)), (.int .i64 (0 : Int)), (.int .i64 (0 : Int)), (.slice none 0 0), (.slice none 0 0)])) h11 fun _ h13 =>
  ∃ res16 : Int × Int × Int × Int × Int × Int × Sl × Sl, cellsAt h13 a2 0 [(.int .i64 res16.1), (.int .i64 res16.2.1), (.int .i64 res16.2.2.1), (.int .i64 res16.2.2.2.1), (.int .i64 res16.2.2.2.2.1), (.int .i64 res16.2.2.2.2.2.1), (.slice res16.2.2.2.2.2.2.1.ptr res16.2.2.2.2.2.2.1.len res16.2.2.2.2.2.2.1.cap), (.slice res16.2.2.2.2.2.2.2.ptr res16.2.2.2.2.2.2.2.len res16.2.2.2.2.2.2.2.cap)] ∧
  R (.tuple #[(.agg #[(.int .i64 res16.1), (.int .i64 res16.2.1), (.int .i64 res16.2.2.1), (.int .i64 res16.2.2.2.1), (.int .i64 res16.2.2.2.2.1), (.int .i64 res16.2.2.2.2.2.1), (.slice res16.2.2.2.2.2.2.1.ptr res16.2.2.2.2.2.2.1.len res16.2.2.2.2.2.2.1.cap), (.slice res16.2.2.2.2.2.2.2.ptr res16.2.2.2.2.2.2.2.len res16.2.2.2.2.2.2.2.cap)]), (.int .i64 (1 : Int))]) h13)
  (K3 () h11))))
  (∃ x21 : Sl, cellOf h11 (a11.add 6) = some (.slice x21.ptr x21.len x21.cap) ∧
  Br (((x21.len : Nat) : Int) == (0 : Int))
  (Runs Tryz.prog (Instr.storeAt 40 (.pointer (some a2)) (.agg #[(.int .i64 (0 : Int)), (.int .i64 (0 : Int)), (.int .i64 (0 : Int)), (.int .i64 (0 : Int)), (.int .i64 (0 : Int)), (.int .i64 (0 : Int)), (.slice none 0 0), (.slice none 0 0)])) h11 fun _ h18 =>
  ∃ res22 : Int × Int × Int × Int × Int × Int × Sl × Sl, cellsAt h18 a2 0 [(.int .i64 res22.1), (.int .i64 res22.2.1), (.int .i64 res22.2.2.1), (.int .i64 res22.2.2.2.1), (.int .i64 res22.2.2.2.2.1), (.int .i64 res22.2.2.2.2.2.1), (.slice res22.2.2.2.2.2.2.1.ptr res22.2.2.2.2.2.2.1.len res22.2.2.2.2.2.2.1.cap), (.slice res22.2.2.2.2.2.2.2.ptr res22.2.2.2.2.2.2.2.len res22.2.2.2.2.2.2.2.cap)] ∧
  R (.tuple #[(.agg #[(.int .i64 res22.1), (.int .i64 res22.2.1), (.int .i64 res22.2.2.1), (.int .i64 res22.2.2.2.1), (.int .i64 res22.2.2.2.2.1), (.int .i64 res22.2.2.2.2.2.1), (.slice res22.2.2.2.2.2.2.1.ptr res22.2.2.2.2.2.2.1.len res22.2.2.2.2.2.2.1.cap), (.slice res22.2.2.2.2.2.2.2.ptr res22.2.2.2.2.2.2.2.len res22.2.2.2.2.2.2.2.cap)]), (.int .i64 (1 : Int))]) h18)
  (∃ x23 : Sl, cellOf h11 (a11.add 6) = some (.slice x23.ptr x23.len x23.cap) ∧
  LoopM (σ := Int) (fun s24 K4 h19 =>
  Br (decide (s24 < ((x23.len : Nat) : Int)))
  (∃ a25 : Addr, (x23.ptr = some a25 ∧ 0 ≤ s24 ∧ s24 < ((x23.len : Nat) : Int)) ∧
  ∃ x26 : Int, cellOf h19 (a25.add (s24.toNat * 1)) = some (.int .i64 x26) ∧
  ∃ a27 : Addr, (cells_2.ptr = some a27 ∧ 0 ≤ x26 ∧ x26 < ((cells_2.len : Nat) : Int)) ∧
  ∃ x28 : Int, cellOf h19 (a27.add (x26.toNat * 1)) = some (.int .i64 x28) ∧
  ∃ x29 : Int × Int × Int × Int × Int × Int × Sl × Sl, cellsAt h19 a11 0 [(.int .i64 x29.1), (.int .i64 x29.2.1), (.int .i64 x29.2.2.1), (.int .i64 x29.2.2.2.1), (.int .i64 x29.2.2.2.2.1), (.int .i64 x29.2.2.2.2.2.1), (.slice x29.2.2.2.2.2.2.1.ptr x29.2.2.2.2.2.2.1.len x29.2.2.2.2.2.2.1.cap), (.slice x29.2.2.2.2.2.2.2.ptr x29.2.2.2.2.2.2.2.len x29.2.2.2.2.2.2.2.cap)] ∧
  CallM Tryz.prog 102 #[(.agg #[(.int .i64 x29.1), (.int .i64 x29.2.1), (.int .i64 x29.2.2.1), (.int .i64 x29.2.2.2.1), (.int .i64 x29.2.2.2.2.1), (.int .i64 x29.2.2.2.2.2.1), (.slice x29.2.2.2.2.2.2.1.ptr x29.2.2.2.2.2.2.1.len x29.2.2.2.2.2.2.1.cap), (.slice x29.2.2.2.2.2.2.2.ptr x29.2.2.2.2.2.2.2.len x29.2.2.2.2.2.2.2.cap)])] (.one (.sc .slc)) h19 fun r30 h20 =>
  (Held.ok [(a27.add (x26.toNat * 1), (.int .i64 x28))] h20) ∧
  Br (decide (x28 < ((r30.len : Nat) : Int)))
  (Runs Tryz.prog (Instr.storeAt 40 (.pointer (some a2)) (.agg #[(.int .i64 (0 : Int)), (.int .i64 (0 : Int)), (.int .i64 (0 : Int)), (.int .i64 (0 : Int)), (.int .i64 (0 : Int)), (.int .i64 (0 : Int)), (.slice none 0 0), (.slice none 0 0)])) h20 fun _ h21 =>
  ∃ res31 : Int × Int × Int × Int × Int × Int × Sl × Sl, cellsAt h21 a2 0 [(.int .i64 res31.1), (.int .i64 res31.2.1), (.int .i64 res31.2.2.1), (.int .i64 res31.2.2.2.1), (.int .i64 res31.2.2.2.2.1), (.int .i64 res31.2.2.2.2.2.1), (.slice res31.2.2.2.2.2.2.1.ptr res31.2.2.2.2.2.2.1.len res31.2.2.2.2.2.2.1.cap), (.slice res31.2.2.2.2.2.2.2.ptr res31.2.2.2.2.2.2.2.len res31.2.2.2.2.2.2.2.cap)] ∧
  R (.tuple #[(.agg #[(.int .i64 res31.1), (.int .i64 res31.2.1), (.int .i64 res31.2.2.1), (.int .i64 res31.2.2.2.1), (.int .i64 res31.2.2.2.2.1), (.int .i64 res31.2.2.2.2.2.1), (.slice res31.2.2.2.2.2.2.1.ptr res31.2.2.2.2.2.2.1.len res31.2.2.2.2.2.2.1.cap), (.slice res31.2.2.2.2.2.2.2.ptr res31.2.2.2.2.2.2.2.len res31.2.2.2.2.2.2.2.cap)]), (.int .i64 (7 : Int))]) h21)
  (K4 (IntKind.wrap .i64 (s24 + (1 : Int))) h20))
  (∃ x32 : Int × Int × Int × Int × Int × Int × Sl × Sl, cellsAt h19 a11 0 [(.int .i64 x32.1), (.int .i64 x32.2.1), (.int .i64 x32.2.2.1), (.int .i64 x32.2.2.2.1), (.int .i64 x32.2.2.2.2.1), (.int .i64 x32.2.2.2.2.2.1), (.slice x32.2.2.2.2.2.2.1.ptr x32.2.2.2.2.2.2.1.len x32.2.2.2.2.2.2.1.cap), (.slice x32.2.2.2.2.2.2.2.ptr x32.2.2.2.2.2.2.2.len x32.2.2.2.2.2.2.2.cap)] ∧
  Runs Tryz.prog (Instr.storeAt 40 (.pointer (some a2)) (.agg #[(.int .i64 x32.1), (.int .i64 x32.2.1), (.int .i64 x32.2.2.1), (.int .i64 x32.2.2.2.1), (.int .i64 x32.2.2.2.2.1), (.int .i64 x32.2.2.2.2.2.1), (.slice x32.2.2.2.2.2.2.1.ptr x32.2.2.2.2.2.2.1.len x32.2.2.2.2.2.2.1.cap), (.slice x32.2.2.2.2.2.2.2.ptr x32.2.2.2.2.2.2.2.len x32.2.2.2.2.2.2.2.cap)])) h19 fun _ h22 =>
  ∃ res33 : Int × Int × Int × Int × Int × Int × Sl × Sl, cellsAt h22 a2 0 [(.int .i64 res33.1), (.int .i64 res33.2.1), (.int .i64 res33.2.2.1), (.int .i64 res33.2.2.2.1), (.int .i64 res33.2.2.2.2.1), (.int .i64 res33.2.2.2.2.2.1), (.slice res33.2.2.2.2.2.2.1.ptr res33.2.2.2.2.2.2.1.len res33.2.2.2.2.2.2.1.cap), (.slice res33.2.2.2.2.2.2.2.ptr res33.2.2.2.2.2.2.2.len res33.2.2.2.2.2.2.2.cap)] ∧
  R (.tuple #[(.agg #[(.int .i64 res33.1), (.int .i64 res33.2.1), (.int .i64 res33.2.2.1), (.int .i64 res33.2.2.2.1), (.int .i64 res33.2.2.2.2.1), (.int .i64 res33.2.2.2.2.2.1), (.slice res33.2.2.2.2.2.2.1.ptr res33.2.2.2.2.2.2.1.len res33.2.2.2.2.2.2.1.cap), (.slice res33.2.2.2.2.2.2.2.ptr res33.2.2.2.2.2.2.2.len res33.2.2.2.2.2.2.2.cap)]), (.int .i64 (0 : Int))]) h22)) (0 : Int) h11))) (0 : Int) h10)
  (fun K1 =>
  ∃ x3 : Int × Int × Int, cellsAt h2 a1 0 [(.int .i64 x3.1), (.int .i64 x3.2.1), (.int .i64 x3.2.2)] ∧
  CallM Tryz.prog 101 #[(.agg #[(.int .i64 x3.1), (.int .i64 x3.2.1), (.int .i64 x3.2.2)])] (.one (.sc .bool)) h2 fun r4 h3 =>
  Br (!r4) (Runs Tryz.prog (Instr.storeAt 40 (.pointer (some a2)) (.agg #[(.int .i64 (0 : Int)), (.int .i64 (0 : Int)), (.int .i64 (0 : Int)), (.int .i64 (0 : Int)), (.int .i64 (0 : Int)), (.int .i64 (0 : Int)), (.slice none 0 0), (.slice none 0 0)])) h3 fun _ h4 =>
  ∃ res5 : Int × Int × Int × Int × Int × Int × Sl × Sl, cellsAt h4 a2 0 [(.int .i64 res5.1), (.int .i64 res5.2.1), (.int .i64 res5.2.2.1), (.int .i64 res5.2.2.2.1), (.int .i64 res5.2.2.2.2.1), (.int .i64 res5.2.2.2.2.2.1), (.slice res5.2.2.2.2.2.2.1.ptr res5.2.2.2.2.2.2.1.len res5.2.2.2.2.2.2.1.cap), (.slice res5.2.2.2.2.2.2.2.ptr res5.2.2.2.2.2.2.2.len res5.2.2.2.2.2.2.2.cap)] ∧
  R (.tuple #[(.agg #[(.int .i64 res5.1), (.int .i64 res5.2.1), (.int .i64 res5.2.2.1), (.int .i64 res5.2.2.2.1), (.int .i64 res5.2.2.2.2.1), (.int .i64 res5.2.2.2.2.2.1), (.slice res5.2.2.2.2.2.2.1.ptr res5.2.2.2.2.2.2.1.len res5.2.2.2.2.2.2.1.cap), (.slice res5.2.2.2.2.2.2.2.ptr res5.2.2.2.2.2.2.2.len res5.2.2.2.2.2.2.2.cap)]), (.int .i64 (1 : Int))]) h4) (Br (decide (extra_1 < (0 : Int))) (Runs Tryz.prog (Instr.storeAt 40 (.pointer (some a2)) (.agg #[(.int .i64 (0 : Int)), (.int .i64 (0 : Int)), (.int .i64 (0 : Int)), (.int .i64 (0 : Int)), (.int .i64 (0 : Int)), (.int .i64 (0 : Int)), (.slice none 0 0), (.slice none 0 0)])) h3 fun _ h5 =>
  ∃ res6 : Int × Int × Int × Int × Int × Int × Sl × Sl, cellsAt h5 a2 0 [(.int .i64 res6.1), (.int .i64 res6.2.1), (.int .i64 res6.2.2.1), (.int .i64 res6.2.2.2.1), (.int .i64 res6.2.2.2.2.1), (.int .i64 res6.2.2.2.2.2.1), (.slice res6.2.2.2.2.2.2.1.ptr res6.2.2.2.2.2.2.1.len res6.2.2.2.2.2.2.1.cap), (.slice res6.2.2.2.2.2.2.2.ptr res6.2.2.2.2.2.2.2.len res6.2.2.2.2.2.2.2.cap)] ∧
  R (.tuple #[(.agg #[(.int .i64 res6.1), (.int .i64 res6.2.1), (.int .i64 res6.2.2.1), (.int .i64 res6.2.2.2.1), (.int .i64 res6.2.2.2.2.1), (.int .i64 res6.2.2.2.2.2.1), (.slice res6.2.2.2.2.2.2.1.ptr res6.2.2.2.2.2.2.1.len res6.2.2.2.2.2.2.1.cap), (.slice res6.2.2.2.2.2.2.2.ptr res6.2.2.2.2.2.2.2.len res6.2.2.2.2.2.2.2.cap)]), (.int .i64 (1 : Int))]) h5) (Br (decide (extra_1 > (16 : Int))) (Runs Tryz.prog (Instr.storeAt 40 (.pointer (some a2)) (.agg #[(.int .i64 (0 : Int)), (.int .i64 (0 : Int)), (.int .i64 (0 : Int)), (.int .i64 (0 : Int)), (.int .i64 (0 : Int)), (.int .i64 (0 : Int)), (.slice none 0 0), (.slice none 0 0)])) h3 fun _ h6 =>
  ∃ res7 : Int × Int × Int × Int × Int × Int × Sl × Sl, cellsAt h6 a2 0 [(.int .i64 res7.1), (.int .i64 res7.2.1), (.int .i64 res7.2.2.1), (.int .i64 res7.2.2.2.1), (.int .i64 res7.2.2.2.2.1), (.int .i64 res7.2.2.2.2.2.1), (.slice res7.2.2.2.2.2.2.1.ptr res7.2.2.2.2.2.2.1.len res7.2.2.2.2.2.2.1.cap), (.slice res7.2.2.2.2.2.2.2.ptr res7.2.2.2.2.2.2.2.len res7.2.2.2.2.2.2.2.cap)] ∧
  R (.tuple #[(.agg #[(.int .i64 res7.1), (.int .i64 res7.2.1), (.int .i64 res7.2.2.1), (.int .i64 res7.2.2.2.1), (.int .i64 res7.2.2.2.2.1), (.int .i64 res7.2.2.2.2.2.1), (.slice res7.2.2.2.2.2.2.1.ptr res7.2.2.2.2.2.2.1.len res7.2.2.2.2.2.2.1.cap), (.slice res7.2.2.2.2.2.2.2.ptr res7.2.2.2.2.2.2.2.len res7.2.2.2.2.2.2.2.cap)]), (.int .i64 (1 : Int))]) h6) (Br (decide (((cells_2.len : Nat) : Int) > (64 : Int)))
  (Runs Tryz.prog (Instr.storeAt 40 (.pointer (some a2)) (.agg #[(.int .i64 (0 : Int)), (.int .i64 (0 : Int)), (.int .i64 (0 : Int)), (.int .i64 (0 : Int)), (.int .i64 (0 : Int)), (.int .i64 (0 : Int)), (.slice none 0 0), (.slice none 0 0)])) h3 fun _ h7 =>
  ∃ res8 : Int × Int × Int × Int × Int × Int × Sl × Sl, cellsAt h7 a2 0 [(.int .i64 res8.1), (.int .i64 res8.2.1), (.int .i64 res8.2.2.1), (.int .i64 res8.2.2.2.1), (.int .i64 res8.2.2.2.2.1), (.int .i64 res8.2.2.2.2.2.1), (.slice res8.2.2.2.2.2.2.1.ptr res8.2.2.2.2.2.2.1.len res8.2.2.2.2.2.2.1.cap), (.slice res8.2.2.2.2.2.2.2.ptr res8.2.2.2.2.2.2.2.len res8.2.2.2.2.2.2.2.cap)] ∧
  R (.tuple #[(.agg #[(.int .i64 res8.1), (.int .i64 res8.2.1), (.int .i64 res8.2.2.1), (.int .i64 res8.2.2.2.1), (.int .i64 res8.2.2.2.2.1), (.int .i64 res8.2.2.2.2.2.1), (.slice res8.2.2.2.2.2.2.1.ptr res8.2.2.2.2.2.2.1.len res8.2.2.2.2.2.2.1.cap), (.slice res8.2.2.2.2.2.2.2.ptr res8.2.2.2.2.2.2.2.len res8.2.2.2.2.2.2.2.cap)]), (.int .i64 (1 : Int))]) h7)
  (K1 () h3)))))
theorem wellspringref29_MayFormat_run (p_0 : Int × Int × Int) (extra_1 : Int) (cells_2 : Sl) {R : Value → Heap → Prop} {h : Heap} (hm : wellspringref29_MayFormat_m p_0 extra_1 cells_2 R h) : Meets Tryz.prog 59 #[(.agg #[(.int .i64 p_0.1), (.int .i64 p_0.2.1), (.int .i64 p_0.2.2)]), (.int .i64 extra_1), (.slice cells_2.ptr cells_2.len cells_2.cap)] h R := fn_tie C_ok Tryz.func59 (.two .n (.two (.join [] [(7, 8), (13, 30)] .n) (.two .n (.two (.two .n (.inn (.loop [(35, (.sc (.int .i64)))] [(7, 8), (9, 11), (35, 56)] (.two .n (.two .n (.two (.inn (.two .n (.two (.join [] [(7, 8), (40, 47)] .n) .n))) .n)))))) (.two .n (.two (.two .n (.inn (.loop [(64, (.sc (.int .i64)))] [(7, 8), (12, 13), (64, 78)] .n))) .n)))))) hm
abbrev wellspringref21_NewDrive_id : FuncId := 60
noncomputable def wellspringref21_NewDrive_m (cells_0 : Int) (p_1 : Option Addr) (R : Value → Heap → Prop) (h : Heap) : Prop :=
  JoinM (σ := Unit) (fun _ h1 =>
  RunsA Tryz.prog (Instr.box 136 (.agg #[(.int .i64 cells_0), (.pointer p_1), (.slice none 0 0), (.int .i64 (0 : Int)), (.bool false), (.slice none 0 0), (.bool false)])) h1 fun a2 h2 =>
  R (.pointer (some a2)) h2)
  (fun K1 =>
  Br (decide (cells_0 < (1 : Int))) (R (.pointer none) h) (Br (decide (cells_0 > (512 : Int))) (R (.pointer none) h) (Br (Option.isNone p_1)
  (R (.pointer none) h)
  (K1 () h))))
theorem wellspringref21_NewDrive_run (cells_0 : Int) (p_1 : Option Addr) {R : Value → Heap → Prop} {h : Heap} (hm : wellspringref21_NewDrive_m cells_0 p_1 R h) : Meets Tryz.prog 60 #[(.int .i64 cells_0), (.pointer p_1)] h R := fn_tie C_ok Tryz.func60 (.two .n (.two (.join [] [(4, 15)] .n) .n)) hm
abbrev wellspringref29_Store_pages_id : FuncId := 61
noncomputable def wellspringref29_Store_pages_m (s_0 : Option Addr) (n_1 : Int × Int × Int × Int × Int × Int × Sl × Sl) (slots_2 : Sl) (R : Value → Heap → Prop) (h : Heap) : Prop :=
  RunsA Tryz.prog (Instr.box 40 (.agg #[(.int .i64 n_1.1), (.int .i64 n_1.2.1), (.int .i64 n_1.2.2.1), (.int .i64 n_1.2.2.2.1), (.int .i64 n_1.2.2.2.2.1), (.int .i64 n_1.2.2.2.2.2.1), (.slice n_1.2.2.2.2.2.2.1.ptr n_1.2.2.2.2.2.2.1.len n_1.2.2.2.2.2.2.1.cap), (.slice n_1.2.2.2.2.2.2.2.ptr n_1.2.2.2.2.2.2.2.len n_1.2.2.2.2.2.2.2.cap)])) h fun a1 h1 =>
  LoopM (σ := Sl × Int) (fun s2 K1 h2 =>
  Br (decide (s2.2 < ((slots_2.len : Nat) : Int)))
  (∃ a3 : Addr, (slots_2.ptr = some a3 ∧ 0 ≤ s2.2 ∧ s2.2 < ((slots_2.len : Nat) : Int)) ∧
  ∃ x4 : Int, cellOf h2 (a3.add (s2.2.toNat * 1)) = some (.int .i64 x4) ∧
  ∃ x5 : Int × Int × Int × Int × Int × Int × Sl × Sl, cellsAt h2 a1 0 [(.int .i64 x5.1), (.int .i64 x5.2.1), (.int .i64 x5.2.2.1), (.int .i64 x5.2.2.2.1), (.int .i64 x5.2.2.2.2.1), (.int .i64 x5.2.2.2.2.2.1), (.slice x5.2.2.2.2.2.2.1.ptr x5.2.2.2.2.2.2.1.len x5.2.2.2.2.2.2.1.cap), (.slice x5.2.2.2.2.2.2.2.ptr x5.2.2.2.2.2.2.2.len x5.2.2.2.2.2.2.2.cap)] ∧
  CallM Tryz.prog 102 #[(.agg #[(.int .i64 x5.1), (.int .i64 x5.2.1), (.int .i64 x5.2.2.1), (.int .i64 x5.2.2.2.1), (.int .i64 x5.2.2.2.2.1), (.int .i64 x5.2.2.2.2.2.1), (.slice x5.2.2.2.2.2.2.1.ptr x5.2.2.2.2.2.2.1.len x5.2.2.2.2.2.2.1.cap), (.slice x5.2.2.2.2.2.2.2.ptr x5.2.2.2.2.2.2.2.len x5.2.2.2.2.2.2.2.cap)])] (.one (.sc .slc)) h2 fun r6 h3 =>
  LoopM (σ := Sl × Int) (fun s7 K2 h4 =>
  Br (decide (s7.2 < ((r6.len : Nat) : Int)))
  (∃ a8 : Addr, (r6.ptr = some a8 ∧ 0 ≤ s7.2 ∧ s7.2 < ((r6.len : Nat) : Int)) ∧
  ∃ x9 : Sl, cellOf h4 (a8.add (s7.2.toNat * 1)) = some (.slice x9.ptr x9.len x9.cap) ∧
  RunsR Tryz.prog (Instr.buildSlice 146 1 #[(0, (.agg #[(.int .i64 x4), (.slice x9.ptr x9.len x9.cap)]))]) (.one (.sc .slc)) h4 fun v10 h5 =>
  RunsR Tryz.prog (Builtin.append_ #[146, 146] 146 #[(.slice s7.1.ptr s7.1.len s7.1.cap), (.slice v10.ptr v10.len v10.cap)]) (.one (.sc .slc)) h5 fun v11 h6 =>
  K2 ((⟨v11.ptr, v11.len, v11.cap⟩ : Sl), IntKind.wrap .i64 (s7.2 + (1 : Int))) h6)
  (K1 ((⟨s7.1.ptr, s7.1.len, s7.1.cap⟩ : Sl), IntKind.wrap .i64 (s2.2 + (1 : Int))) h4)) ((⟨s2.1.ptr, s2.1.len, s2.1.cap⟩ : Sl), (0 : Int)) h3)
  (CallM Tryz.prog 103 #[(.pointer s_0), (.slice s2.1.ptr s2.1.len s2.1.cap)] (.one (.sc (.int .i64))) h2 fun r12 h7 =>
  R (.int .i64 r12) h7)) ((⟨none, 0, 0⟩ : Sl), (0 : Int)) h1
theorem wellspringref29_Store_pages_run (s_0 : Option Addr) (n_1 : Int × Int × Int × Int × Int × Int × Sl × Sl) (slots_2 : Sl) {R : Value → Heap → Prop} {h : Heap} (hm : wellspringref29_Store_pages_m s_0 n_1 slots_2 R h) : Meets Tryz.prog 61 #[(.pointer s_0), (.agg #[(.int .i64 n_1.1), (.int .i64 n_1.2.1), (.int .i64 n_1.2.2.1), (.int .i64 n_1.2.2.2.1), (.int .i64 n_1.2.2.2.2.1), (.int .i64 n_1.2.2.2.2.2.1), (.slice n_1.2.2.2.2.2.2.1.ptr n_1.2.2.2.2.2.2.1.len n_1.2.2.2.2.2.2.1.cap), (.slice n_1.2.2.2.2.2.2.2.ptr n_1.2.2.2.2.2.2.2.len n_1.2.2.2.2.2.2.2.cap)]), (.slice slots_2.ptr slots_2.len slots_2.cap)] h R := fn_tie C_ok Tryz.func61 (.two .n (.two .n (.two (.two .n (.inn (.loop [(7, (.sc .slc)), (14, (.sc (.int .i64)))] [(7, 8), (9, 10), (11, 12), (14, 33)] (.two .n (.two .n (.two (.inn (.two .n (.two .n (.inn (.loop [(7, (.sc .slc)), (21, (.sc (.int .i64)))] [(7, 8), (11, 12), (21, 32)] .n))))) .n)))))) .n))) hm
noncomputable def slices_Index_int_int_m (s_0 : Sl) (v_1 : Int) (R : Value → Heap → Prop) (h : Heap) : Prop :=
  LoopM (σ := Int) (fun s1 K1 h1 =>
  Br (decide (s1 < ((s_0.len : Nat) : Int)))
  (∃ a2 : Addr, (s_0.ptr = some a2 ∧ 0 ≤ s1 ∧ s1 < ((s_0.len : Nat) : Int)) ∧
  ∃ x3 : Int, cellOf h1 (a2.add (s1.toNat * 1)) = some (.int .i64 x3) ∧
  Br (v_1 == x3)
  (R (.int .i64 s1) h1)
  (K1 (IntKind.wrap .i64 (s1 + (1 : Int))) h1))
  (R (.int .i64 (-1 : Int)) h1)) (0 : Int) h
theorem slices_Index_int_int_run (s_0 : Sl) (v_1 : Int) {R : Value → Heap → Prop} {h : Heap} (hm : slices_Index_int_int_m s_0 v_1 R h) : Meets Tryz.prog 62 #[(.slice s_0.ptr s_0.len s_0.cap), (.int .i64 v_1)] h R := fn_tie C_ok Tryz.func62 (.two .n (.two (.two .n (.inn (.loop [(8, (.sc (.int .i64)))] [(4, 6), (8, 19)] .n))) .n)) hm
abbrev lay_Live_id : FuncId := 66
noncomputable def lay_Live_m (at_0 : FuncId × Array Value × Array Value) (slots_1 : Sl) (R : Value → Heap → Prop) (h : Heap) : Prop :=
  LoopM (σ := Sl × Int) (fun s1 K1 h1 =>
  Br (decide (s1.2 < ((slots_1.len : Nat) : Int)))
  (∃ a2 : Addr, (slots_1.ptr = some a2 ∧ 0 ≤ s1.2 ∧ s1.2 < ((slots_1.len : Nat) : Int)) ∧
  ∃ x3 : Int, cellOf h1 (a2.add (s1.2.toNat * 1)) = some (.int .i64 x3) ∧
  DynM C at_0.1 (at_0.2.1.toList ++ [(.int .i64 x3)] ++ at_0.2.2.toList) (.one (.sc .ptr)) h1 fun r4 h2 =>
  Br (!(Option.isNone r4)) (CallM Tryz.prog 13 #[(.pointer r4)] (.one (.sc .bool)) h2 fun r5 h3 =>
  Br (!r5)
  (RunsR Tryz.prog (Instr.buildSlice 22 1 #[(0, (.int .i64 x3))]) (.one (.sc .slc)) h3 fun v6 h4 =>
  RunsR Tryz.prog (Builtin.append_ #[22, 22] 22 #[(.slice s1.1.ptr s1.1.len s1.1.cap), (.slice v6.ptr v6.len v6.cap)]) (.one (.sc .slc)) h4 fun v7 h5 =>
  K1 ((⟨v7.ptr, v7.len, v7.cap⟩ : Sl), IntKind.wrap .i64 (s1.2 + (1 : Int))) h5)
  (K1 ((⟨s1.1.ptr, s1.1.len, s1.1.cap⟩ : Sl), IntKind.wrap .i64 (s1.2 + (1 : Int))) h3)) (K1 ((⟨s1.1.ptr, s1.1.len, s1.1.cap⟩ : Sl), IntKind.wrap .i64 (s1.2 + (1 : Int))) h2))
  (R (.slice s1.1.ptr s1.1.len s1.1.cap) h1)) ((⟨none, 0, 0⟩ : Sl), (0 : Int)) h
theorem lay_Live_run (at_0 : FuncId × Array Value × Array Value) (slots_1 : Sl) {R : Value → Heap → Prop} {h : Heap} (hm : lay_Live_m at_0 slots_1 R h) : Meets Tryz.prog 66 #[(.func (.func at_0.1) at_0.2.1 at_0.2.2), (.slice slots_1.ptr slots_1.len slots_1.cap)] h R := fn_tie C_ok Tryz.func66 (.two .n (.two .n (.two (.two .n (.inn (.loop [(5, (.sc .slc)), (11, (.sc (.int .i64)))] [(5, 6), (7, 9), (11, 30)] .n))) .n))) hm
abbrev mani_Pack_id : FuncId := 71
noncomputable def mani_Pack_m (m_0 : Int × Int × Int × Int × Int × Int × Sl × Sl) (R : Value → Heap → Prop) (h : Heap) : Prop :=
  RunsA Tryz.prog (Instr.box 40 (.agg #[(.int .i64 m_0.1), (.int .i64 m_0.2.1), (.int .i64 m_0.2.2.1), (.int .i64 m_0.2.2.2.1), (.int .i64 m_0.2.2.2.2.1), (.int .i64 m_0.2.2.2.2.2.1), (.slice m_0.2.2.2.2.2.2.1.ptr m_0.2.2.2.2.2.2.1.len m_0.2.2.2.2.2.2.1.cap), (.slice m_0.2.2.2.2.2.2.2.ptr m_0.2.2.2.2.2.2.2.len m_0.2.2.2.2.2.2.2.cap)])) h fun a1 h1 =>
  ∃ x2 : Int × Int × Int × Int × Int × Int × Sl × Sl, cellsAt h1 a1 0 [(.int .i64 x2.1), (.int .i64 x2.2.1), (.int .i64 x2.2.2.1), (.int .i64 x2.2.2.2.1), (.int .i64 x2.2.2.2.2.1), (.int .i64 x2.2.2.2.2.2.1), (.slice x2.2.2.2.2.2.2.1.ptr x2.2.2.2.2.2.2.1.len x2.2.2.2.2.2.2.1.cap), (.slice x2.2.2.2.2.2.2.2.ptr x2.2.2.2.2.2.2.2.len x2.2.2.2.2.2.2.2.cap)] ∧
  CallM Tryz.prog 49 #[(.agg #[(.int .i64 x2.1), (.int .i64 x2.2.1), (.int .i64 x2.2.2.1), (.int .i64 x2.2.2.2.1), (.int .i64 x2.2.2.2.2.1), (.int .i64 x2.2.2.2.2.2.1), (.slice x2.2.2.2.2.2.2.1.ptr x2.2.2.2.2.2.2.1.len x2.2.2.2.2.2.2.1.cap), (.slice x2.2.2.2.2.2.2.2.ptr x2.2.2.2.2.2.2.2.len x2.2.2.2.2.2.2.2.cap)])] (.one (.sc .bool)) h1 fun r3 h2 =>
  Br (!r3)
  (R (.slice none 0 0) h2)
  (JoinM (σ := Sl) (fun s8 h5 =>
  ∃ x9 : Int, cellOf h5 (a1.add 2) = some (.int .i64 x9) ∧
  ∃ x10 : Int, cellOf h5 ((a1.add 2).add 1) = some (.int .i64 x10) ∧
  ∃ x11 : Int, cellOf h5 ((a1.add 2).add 2) = some (.int .i64 x11) ∧
  ∃ x12 : Int, cellOf h5 (a1.add 5) = some (.int .i64 x12) ∧
  ∃ x13 : Sl, cellOf h5 (a1.add 6) = some (.slice x13.ptr x13.len x13.cap) ∧
  RunsR Tryz.prog (Instr.buildSlice 90 5 #[(0, (.int .u8 (IntKind.wrap .u8 x9))), (1, (.int .u8 (IntKind.wrap .u8 x10))), (2, (.int .u8 (IntKind.wrap .u8 x11))), (3, (.int .u8 (IntKind.wrap .u8 x12))), (4, (.int .u8 (IntKind.wrap .u8 ((x13.len : Nat) : Int))))]) (.one (.sc .slc)) h5 fun v14 h6 =>
  RunsR Tryz.prog (Builtin.append_ #[90, 90] 90 #[(.slice s8.ptr s8.len s8.cap), (.slice v14.ptr v14.len v14.cap)]) (.one (.sc .slc)) h6 fun v15 h7 =>
  ∃ x16 : Sl, cellOf h7 (a1.add 6) = some (.slice x16.ptr x16.len x16.cap) ∧
  LoopM (σ := Sl × Int) (fun s17 K2 h8 =>
  Br (decide (s17.2 < ((x16.len : Nat) : Int)))
  (∃ a18 : Addr, (x16.ptr = some a18 ∧ 0 ≤ s17.2 ∧ s17.2 < ((x16.len : Nat) : Int)) ∧
  ∃ x19 : Int, cellOf h8 (a18.add (s17.2.toNat * 1)) = some (.int .i64 x19) ∧
  RunsR Tryz.prog (Instr.buildSlice 90 1 #[(0, (.int .u8 (IntKind.wrap .u8 x19)))]) (.one (.sc .slc)) h8 fun v20 h9 =>
  RunsR Tryz.prog (Builtin.append_ #[90, 90] 90 #[(.slice s17.1.ptr s17.1.len s17.1.cap), (.slice v20.ptr v20.len v20.cap)]) (.one (.sc .slc)) h9 fun v21 h10 =>
  K2 ((⟨v21.ptr, v21.len, v21.cap⟩ : Sl), IntKind.wrap .i64 (s17.2 + (1 : Int))) h10)
  (∃ x22 : Sl, cellOf h8 (a1.add 7) = some (.slice x22.ptr x22.len x22.cap) ∧
  RunsR Tryz.prog (Instr.buildSlice 90 1 #[(0, (.int .u8 (IntKind.wrap .u8 ((x22.len : Nat) : Int))))]) (.one (.sc .slc)) h8 fun v23 h11 =>
  RunsR Tryz.prog (Builtin.append_ #[90, 90] 90 #[(.slice s17.1.ptr s17.1.len s17.1.cap), (.slice v23.ptr v23.len v23.cap)]) (.one (.sc .slc)) h11 fun v24 h12 =>
  ∃ x25 : Sl, cellOf h12 (a1.add 7) = some (.slice x25.ptr x25.len x25.cap) ∧
  LoopM (σ := Sl × Int) (fun s26 K3 h13 =>
  Br (decide (s26.2 < ((x25.len : Nat) : Int)))
  (∃ a27 : Addr, (x25.ptr = some a27 ∧ 0 ≤ s26.2 ∧ s26.2 < ((x25.len : Nat) : Int)) ∧
  ∃ x28 : ByteArray × Int × Int × Sl, cellsAt h13 (a27.add (s26.2.toNat * 4)) 0 [(.string x28.1), (.int .i64 x28.2.1), (.int .i64 x28.2.2.1), (.slice x28.2.2.2.ptr x28.2.2.2.len x28.2.2.2.cap)] ∧
  RunsA Tryz.prog (Instr.alloc 133 true (.tuple #[])) h13 fun a29 h14 =>
  Runs Tryz.prog (Instr.storeAt 133 (.pointer (some a29)) (.agg #[(.string x28.1), (.int .i64 x28.2.1), (.int .i64 x28.2.2.1), (.slice x28.2.2.2.ptr x28.2.2.2.len x28.2.2.2.cap)])) h14 fun _ h15 =>
  JoinM (σ := Sl) (fun s35 h19 =>
  JoinM (σ := Sl) (fun s40 h22 =>
  ∃ x41 : Sl, cellOf h22 (a29.add 3) = some (.slice x41.ptr x41.len x41.cap) ∧
  LoopM (σ := Sl × Int) (fun s42 K6 h23 =>
  Br (decide (s42.2 < ((x41.len : Nat) : Int)))
  (∃ a43 : Addr, (x41.ptr = some a43 ∧ 0 ≤ s42.2 ∧ s42.2 < ((x41.len : Nat) : Int)) ∧
  ∃ x44 : Int, cellOf h23 (a43.add (s42.2.toNat * 1)) = some (.int .i64 x44) ∧
  RunsR Tryz.prog (Instr.buildSlice 90 1 #[(0, (.int .u8 (IntKind.wrap .u8 x44)))]) (.one (.sc .slc)) h23 fun v45 h24 =>
  RunsR Tryz.prog (Builtin.append_ #[90, 90] 90 #[(.slice s42.1.ptr s42.1.len s42.1.cap), (.slice v45.ptr v45.len v45.cap)]) (.one (.sc .slc)) h24 fun v46 h25 =>
  K6 ((⟨v46.ptr, v46.len, v46.cap⟩ : Sl), IntKind.wrap .i64 (s42.2 + (1 : Int))) h25)
  (K3 ((⟨s42.1.ptr, s42.1.len, s42.1.cap⟩ : Sl), IntKind.wrap .i64 (s26.2 + (1 : Int))) h23)) ((⟨s40.ptr, s40.len, s40.cap⟩ : Sl), (0 : Int)) h22)
  (fun K5 =>
  ∃ x36 : Int, cellOf h19 (a29.add 1) = some (.int .i64 x36) ∧
  ∃ x37 : Int, cellOf h19 (a29.add 2) = some (.int .i64 x37) ∧
  CallM Tryz.prog 116 #[(.slice s35.ptr s35.len s35.cap), (.int .i64 x36), (.int .i64 (3 : Int))] (.one (.sc .slc)) h19 fun r38 h20 =>
  (Held.ok [(a29.add 2, (.int .i64 x37))] h20) ∧
  CallM Tryz.prog 116 #[(.slice r38.ptr r38.len r38.cap), (.int .i64 x37), (.int .i64 (2 : Int))] (.one (.sc .slc)) h20 fun r39 h21 =>
  (Held.ok [] h21) ∧
  K5 (⟨r39.ptr, r39.len, r39.cap⟩ : Sl) h21))
  (fun K4 =>
  ∃ x30 : ByteArray, cellOf h15 a29 = some (.string x30) ∧
  ∃ x31 : ByteArray, cellOf h15 a29 = some (.string x31) ∧
  RunsR Tryz.prog (Instr.buildSlice 90 1 #[(0, (.int .u8 (IntKind.wrap .u8 ((x30.size : Nat) : Int))))]) (.one (.sc .slc)) h15 fun v32 h16 =>
  (Held.ok [(a29, (.string x31)), (a29, (.string x30))] h16) ∧
  RunsR Tryz.prog (Builtin.append_ #[90, 90] 90 #[(.slice s26.1.ptr s26.1.len s26.1.cap), (.slice v32.ptr v32.len v32.cap)]) (.one (.sc .slc)) h16 fun v33 h17 =>
  (Held.ok [(a29, (.string x31)), (a29, (.string x30))] h17) ∧
  RunsR Tryz.prog (Builtin.append_ #[90, 9] 90 #[(.slice v33.ptr v33.len v33.cap), (.string x31)]) (.one (.sc .slc)) h17 fun v34 h18 =>
  (Held.ok [(a29, (.string x30))] h18) ∧
  K4 (⟨v34.ptr, v34.len, v34.cap⟩ : Sl) h18))
  (R (.slice s26.1.ptr s26.1.len s26.1.cap) h13)) ((⟨v24.ptr, v24.len, v24.cap⟩ : Sl), (0 : Int)) h12)) ((⟨v15.ptr, v15.len, v15.cap⟩ : Sl), (0 : Int)) h7)
  (fun K1 =>
  ∃ x4 : Int, cellOf h2 a1 = some (.int .i64 x4) ∧
  ∃ x5 : Int, cellOf h2 (a1.add 1) = some (.int .i64 x5) ∧
  CallM Tryz.prog 116 #[(.slice none 0 0), (.int .i64 x4), (.int .i64 (4 : Int))] (.one (.sc .slc)) h2 fun r6 h3 =>
  (Held.ok [(a1.add 1, (.int .i64 x5))] h3) ∧
  CallM Tryz.prog 116 #[(.slice r6.ptr r6.len r6.cap), (.int .i64 x5), (.int .i64 (4 : Int))] (.one (.sc .slc)) h3 fun r7 h4 =>
  (Held.ok [] h4) ∧
  K1 (⟨r7.ptr, r7.len, r7.cap⟩ : Sl) h4))
theorem mani_Pack_run (m_0 : Int × Int × Int × Int × Int × Int × Sl × Sl) {R : Value → Heap → Prop} {h : Heap} (hm : mani_Pack_m m_0 R h) : Meets Tryz.prog 71 #[(.agg #[(.int .i64 m_0.1), (.int .i64 m_0.2.1), (.int .i64 m_0.2.2.1), (.int .i64 m_0.2.2.2.1), (.int .i64 m_0.2.2.2.2.1), (.int .i64 m_0.2.2.2.2.2.1), (.slice m_0.2.2.2.2.2.2.1.ptr m_0.2.2.2.2.2.2.1.len m_0.2.2.2.2.2.2.1.cap), (.slice m_0.2.2.2.2.2.2.2.ptr m_0.2.2.2.2.2.2.2.len m_0.2.2.2.2.2.2.2.cap)])] h R := fn_tie C_ok Tryz.func71 (.two .n (.two .n (.two (.join [(3, (.sc .slc))] [(3, 4), (13, 19)] .n) (.two .n (.two (.two .n (.inn (.loop [(3, (.sc .slc)), (44, (.sc (.int .i64)))] [(3, 4), (5, 6), (44, 54)] .n))) (.two .n (.two (.two .n (.inn (.loop [(3, (.sc .slc)), (64, (.sc (.int .i64)))] [(3, 4), (7, 8), (9, 10), (64, 99)] (.two .n (.two .n (.two (.inn (.two .n (.two (.join [(3, (.sc .slc))] [(3, 4), (68, 78)] .n) (.two (.join [(3, (.sc .slc))] [(3, 4), (78, 85)] .n) (.two .n (.inn (.loop [(3, (.sc .slc)), (88, (.sc (.int .i64)))] [(3, 4), (9, 10), (88, 98)] .n))))))) .n)))))) .n))))))) hm
abbrev page_put_id : FuncId := 72
noncomputable def page_put_m (seq_0 : Int) (number_1 : Int) (many_2 : Int) (b_3 : Sl) (R : Value → Heap → Prop) (h : Heap) : Prop :=
  (0 ≤ (24 : Int)) ∧
  (0 ≤ (16 : Int)) ∧
  (0 ≤ (8 : Int)) ∧
  RunsR Tryz.prog (Instr.buildSlice 90 7 #[(0, (.int .u8 (IntKind.wrap .u8 (Int.fdiv seq_0 (2 ^ min (24 : Int).toNat (IntKind.bits .i64)))))), (1, (.int .u8 (IntKind.wrap .u8 (Int.fdiv seq_0 (2 ^ min (16 : Int).toNat (IntKind.bits .i64)))))), (2, (.int .u8 (IntKind.wrap .u8 (Int.fdiv seq_0 (2 ^ min (8 : Int).toNat (IntKind.bits .i64)))))), (3, (.int .u8 (IntKind.wrap .u8 seq_0))), (4, (.int .u8 (IntKind.wrap .u8 number_1))), (5, (.int .u8 (IntKind.wrap .u8 many_2))), (6, (.int .u8 (IntKind.wrap .u8 ((b_3.len : Nat) : Int))))]) (.one (.sc .slc)) h fun v1 h1 =>
  RunsR Tryz.prog (Builtin.append_ #[90, 90] 90 #[(.slice v1.ptr v1.len v1.cap), (.slice b_3.ptr b_3.len b_3.cap)]) (.one (.sc .slc)) h1 fun v2 h2 =>
  CallM Tryz.prog 117 #[(.int .i64 (2 : Int)), (.slice v2.ptr v2.len v2.cap)] (.one (.sc .slc)) h2 fun r3 h3 =>
  R (.slice r3.ptr r3.len r3.cap) h3
theorem page_put_run (seq_0 : Int) (number_1 : Int) (many_2 : Int) (b_3 : Sl) {R : Value → Heap → Prop} {h : Heap} (hm : page_put_m seq_0 number_1 many_2 b_3 R h) : Meets Tryz.prog 72 #[(.int .i64 seq_0), (.int .i64 number_1), (.int .i64 many_2), (.slice b_3.ptr b_3.len b_3.cap)] h R := fn_tie C_ok Tryz.func72 .n hm
abbrev drive_Drive_Append_id : FuncId := 73
noncomputable def drive_Drive_Append_m (d_0 : Option Addr) (b_1 : Sl) (R : Value → Heap → Prop) (h : Heap) : Prop :=
  JoinM (σ := Unit) (fun _ h3 =>
  JoinM (σ := Unit) (fun _ h8 =>
  ∃ a19 : Addr, (d_0 = some a19) ∧
  ∃ x20 : Int, cellOf h8 (a19.add 3) = some (.int .i64 x20) ∧
  ∃ a21 : Addr, (d_0 = some a21) ∧
  Runs Tryz.prog (Instr.storeAt 3 (.pointer (some (a21.add 3))) (.int .i64 (IntKind.wrap .i64 (x20 + (1 : Int))))) h8 fun _ h9 =>
  ∃ a22 : Addr, (d_0 = some a22) ∧
  ∃ x23 : Option Addr, cellOf h9 a22 = some (.pointer x23) ∧
  CallM Tryz.prog 18 #[(.pointer x23)] (.one (.sc .bool)) h9 fun r24 h10 =>
  Br (!r24)
  (R (.int .i64 (14 : Int)) h10)
  (CallM Tryz.prog 119 #[(.pointer d_0)] (.one (.sc (.int .i64))) h10 fun r25 h11 =>
  R (.int .i64 r25) h11))
  (fun K3 =>
  ∃ a12 : Addr, (d_0 = some a12) ∧
  ∃ x13 : Sl, cellOf h3 (a12.add 2) = some (.slice x13.ptr x13.len x13.cap) ∧
  CallM Tryz.prog 118 #[(.slice b_1.ptr b_1.len b_1.cap)] (.one (.sc .slc)) h3 fun r14 h4 =>
  (Held.ok [(a12.add 2, (.slice x13.ptr x13.len x13.cap))] h4) ∧
  RunsR Tryz.prog (Instr.buildSlice 63 1 #[(0, (.slice r14.ptr r14.len r14.cap))]) (.one (.sc .slc)) h4 fun v15 h5 =>
  (Held.ok [(a12.add 2, (.slice x13.ptr x13.len x13.cap))] h5) ∧
  RunsR Tryz.prog (Builtin.append_ #[63, 63] 63 #[(.slice x13.ptr x13.len x13.cap), (.slice v15.ptr v15.len v15.cap)]) (.one (.sc .slc)) h5 fun v16 h6 =>
  (Held.ok [] h6) ∧
  ∃ a17 : Addr, (d_0 = some a17) ∧
  Runs Tryz.prog (Instr.storeAt 63 (.pointer (some (a17.add 2))) (.slice v16.ptr v16.len v16.cap)) h6 fun _ h7 =>
  (Held.ok [] h7) ∧
  K3 () h7))
  (fun K1 =>
  Br (((b_1.len : Nat) : Int) != (64 : Int))
  (R (.int .i64 (1 : Int)) h)
  (JoinM (σ := Bool) (fun s3 h1 =>
  Br s3
  (R (.int .i64 (5 : Int)) h1)
  (∃ a4 : Addr, (d_0 = some a4) ∧
  ∃ x5 : Sl, cellOf h1 (a4.add 2) = some (.slice x5.ptr x5.len x5.cap) ∧
  ∃ a6 : Addr, (d_0 = some a6) ∧
  ∃ x7 : Int, cellOf h1 (a6.add 1) = some (.int .i64 x7) ∧
  Br (decide (((x5.len : Nat) : Int) ≥ x7))
  (R (.int .i64 (7 : Int)) h1)
  (∃ a8 : Addr, (d_0 = some a8) ∧
  ∃ x9 : Option Addr, cellOf h1 a8 = some (.pointer x9) ∧
  CallM Tryz.prog 46 #[(.pointer x9)] (.one (.sc .bool)) h1 fun r10 h2 =>
  Br (!r10)
  (R (.int .i64 (14 : Int)) h2)
  (K1 () h2))))
  (fun K2 =>
  Br (Option.isNone d_0) (K2 true h) (∃ a1 : Addr, (d_0 = some a1) ∧
  ∃ x2 : Bool, cellOf h (a1.add 6) = some (.bool x2) ∧
  K2 x2 h))))
theorem drive_Drive_Append_run (d_0 : Option Addr) (b_1 : Sl) {R : Value → Heap → Prop} {h : Heap} (hm : drive_Drive_Append_m d_0 b_1 R h) : Meets Tryz.prog 73 #[(.pointer d_0), (.slice b_1.ptr b_1.len b_1.cap)] h R := fn_tie C_ok Tryz.func73 (.two .n (.two (.join [] [(4, 36)] (.inn (.two .n (.two .n (.two (.join [(9, (.sc .bool))] [(9, 18)] .n) .n))))) (.two (.join [] [(36, 47)] .n) .n))) hm
abbrev lay_Sync_id : FuncId := 74
noncomputable def lay_Sync_m (at_0 : FuncId × Array Value × Array Value) (slots_1 : Sl) (R : Value → Heap → Prop) (h : Heap) : Prop :=
  CallM Tryz.prog 99 #[(.slice slots_1.ptr slots_1.len slots_1.cap)] (.one (.sc .slc)) h fun r1 h1 =>
  CallM Tryz.prog 28 #[(.slice r1.ptr r1.len r1.cap)] (.many []) h1 fun _ h2 =>
  CallM Tryz.prog 120 #[(.slice r1.ptr r1.len r1.cap)] (.one (.sc .slc)) h2 fun r3 h3 =>
  LoopM (σ := Int) (fun s4 K1 h4 =>
  Br (decide (s4 < ((r3.len : Nat) : Int)))
  (∃ a5 : Addr, (r3.ptr = some a5 ∧ 0 ≤ s4 ∧ s4 < ((r3.len : Nat) : Int)) ∧
  ∃ x6 : Int, cellOf h4 (a5.add (s4.toNat * 1)) = some (.int .i64 x6) ∧
  DynM C at_0.1 (at_0.2.1.toList ++ [(.int .i64 x6)] ++ at_0.2.2.toList) (.one (.sc .ptr)) h4 fun r7 h5 =>
  CallM Tryz.prog 121 #[(.pointer r7)] (.one (.sc (.int .i64))) h5 fun r8 h6 =>
  Br (r8 != (0 : Int))
  (R (.int .i64 r8) h6)
  (K1 (IntKind.wrap .i64 (s4 + (1 : Int))) h6))
  (R (.int .i64 (0 : Int)) h4)) (0 : Int) h3
theorem lay_Sync_run (at_0 : FuncId × Array Value × Array Value) (slots_1 : Sl) {R : Value → Heap → Prop} {h : Heap} (hm : lay_Sync_m at_0 slots_1 R h) : Meets Tryz.prog 74 #[(.func (.func at_0.1) at_0.2.1 at_0.2.2), (.slice slots_1.ptr slots_1.len slots_1.cap)] h R := fn_tie C_ok Tryz.func74 (.two .n (.two .n (.two .n (.two (.two .n (.inn (.loop [(15, (.sc (.int .i64)))] [(4, 5), (6, 8), (15, 27)] .n))) .n)))) hm
noncomputable def slices_IndexFunc_int_int_m (s_0 : Sl) (f_1 : FuncId × Array Value × Array Value) (R : Value → Heap → Prop) (h : Heap) : Prop :=
  LoopM (σ := Int) (fun s1 K1 h1 =>
  Br (decide (s1 < ((s_0.len : Nat) : Int)))
  (∃ a2 : Addr, (s_0.ptr = some a2 ∧ 0 ≤ s1 ∧ s1 < ((s_0.len : Nat) : Int)) ∧
  ∃ x3 : Int, cellOf h1 (a2.add (s1.toNat * 1)) = some (.int .i64 x3) ∧
  DynM C f_1.1 (f_1.2.1.toList ++ [(.int .i64 x3)] ++ f_1.2.2.toList) (.one (.sc .bool)) h1 fun r4 h2 =>
  Br r4
  (R (.int .i64 s1) h2)
  (K1 (IntKind.wrap .i64 (s1 + (1 : Int))) h2))
  (R (.int .i64 (-1 : Int)) h1)) (0 : Int) h
theorem slices_IndexFunc_int_int_run (s_0 : Sl) (f_1 : FuncId × Array Value × Array Value) {R : Value → Heap → Prop} {h : Heap} (hm : slices_IndexFunc_int_int_m s_0 f_1 R h) : Meets Tryz.prog 75 #[(.slice s_0.ptr s_0.len s_0.cap), (.func (.func f_1.1) f_1.2.1 f_1.2.2)] h R := fn_tie C_ok Tryz.func75 (.two .n (.two (.two .n (.inn (.loop [(8, (.sc (.int .i64)))] [(4, 6), (8, 19)] .n))) .n)) hm
abbrev slices_ContainsFunc_int_int_id : FuncId := 76
noncomputable def slices_ContainsFunc_int_int_m (s_0 : Sl) (f_1 : FuncId × Array Value × Array Value) (R : Value → Heap → Prop) (h : Heap) : Prop :=
  CallM Tryz.prog 75 #[(.slice s_0.ptr s_0.len s_0.cap), (.func (.func f_1.1) f_1.2.1 f_1.2.2)] (.one (.sc (.int .i64))) h fun r1 h1 =>
  R (.bool (decide (r1 ≥ (0 : Int)))) h1
theorem slices_ContainsFunc_int_int_run (s_0 : Sl) (f_1 : FuncId × Array Value × Array Value) {R : Value → Heap → Prop} {h : Heap} (hm : slices_ContainsFunc_int_int_m s_0 f_1 R h) : Meets Tryz.prog 76 #[(.slice s_0.ptr s_0.len s_0.cap), (.func (.func f_1.1) f_1.2.1 f_1.2.2)] h R := fn_tie C_ok Tryz.func76 .n hm
abbrev drive_Drive_Len_id : FuncId := 83
noncomputable def drive_Drive_Len_m (d_0 : Option Addr) (R : Value → Heap → Prop) (h : Heap) : Prop :=
  Br (Option.isNone d_0)
  (R (.int .i64 (0 : Int)) h)
  (∃ a1 : Addr, (d_0 = some a1) ∧
  ∃ x2 : Sl, cellOf h (a1.add 2) = some (.slice x2.ptr x2.len x2.cap) ∧
  R (.int .i64 ((x2.len : Nat) : Int)) h)
theorem drive_Drive_Len_run (d_0 : Option Addr) {R : Value → Heap → Prop} {h : Heap} (hm : drive_Drive_Len_m d_0 R h) : Meets Tryz.prog 83 #[(.pointer d_0)] h R := fn_tie C_ok Tryz.func83 .n hm
abbrev wellspringref29_Store_live_id : FuncId := 86
noncomputable def wellspringref29_Store_live_m (s_0 : Option Addr) (slots_1 : Sl) (R : Value → Heap → Prop) (h : Heap) : Prop :=
  LoopM (σ := Sl × Int) (fun s1 K1 h1 =>
  Br (decide (s1.2 < ((slots_1.len : Nat) : Int)))
  (∃ a2 : Addr, (slots_1.ptr = some a2 ∧ 0 ≤ s1.2 ∧ s1.2 < ((slots_1.len : Nat) : Int)) ∧
  ∃ x3 : Int, cellOf h1 (a2.add (s1.2.toNat * 1)) = some (.int .i64 x3) ∧
  ∃ a4 : Addr, (s_0 = some a4) ∧
  (0 ≤ x3 ∧ x3 < ((64 : Nat) : Int)) ∧
  ∃ x5 : Option Addr, cellOf h1 ((a4.add 10).add (x3.toNat * 1)) = some (.pointer x5) ∧
  Br (!(Option.isNone x5)) (∃ a6 : Addr, (s_0 = some a6) ∧
  (0 ≤ x3 ∧ x3 < ((64 : Nat) : Int)) ∧
  ∃ x7 : Option Addr, cellOf h1 ((a6.add 10).add (x3.toNat * 1)) = some (.pointer x7) ∧
  ∃ a8 : Addr, (x7 = some a8) ∧
  ∃ x9 : Bool, cellOf h1 (a8.add 6) = some (.bool x9) ∧
  Br (!x9)
  (RunsR Tryz.prog (Instr.buildSlice 22 1 #[(0, (.int .i64 x3))]) (.one (.sc .slc)) h1 fun v10 h2 =>
  RunsR Tryz.prog (Builtin.append_ #[22, 22] 22 #[(.slice s1.1.ptr s1.1.len s1.1.cap), (.slice v10.ptr v10.len v10.cap)]) (.one (.sc .slc)) h2 fun v11 h3 =>
  K1 ((⟨v11.ptr, v11.len, v11.cap⟩ : Sl), IntKind.wrap .i64 (s1.2 + (1 : Int))) h3)
  (K1 ((⟨s1.1.ptr, s1.1.len, s1.1.cap⟩ : Sl), IntKind.wrap .i64 (s1.2 + (1 : Int))) h1)) (K1 ((⟨s1.1.ptr, s1.1.len, s1.1.cap⟩ : Sl), IntKind.wrap .i64 (s1.2 + (1 : Int))) h1))
  (R (.slice s1.1.ptr s1.1.len s1.1.cap) h1)) ((⟨none, 0, 0⟩ : Sl), (0 : Int)) h
theorem wellspringref29_Store_live_run (s_0 : Option Addr) (slots_1 : Sl) {R : Value → Heap → Prop} {h : Heap} (hm : wellspringref29_Store_live_m s_0 slots_1 R h) : Meets Tryz.prog 86 #[(.pointer s_0), (.slice slots_1.ptr slots_1.len slots_1.cap)] h R := fn_tie C_ok Tryz.func86 (.two .n (.two .n (.two (.two .n (.inn (.loop [(5, (.sc .slc)), (10, (.sc (.int .i64)))] [(5, 6), (7, 8), (10, 38)] .n))) .n))) hm
abbrev wellspringkeep_Same_byte_id : FuncId := 87
noncomputable def wellspringkeep_Same_byte_m (a_0 : Sl) (b_1 : Sl) (R : Value → Heap → Prop) (h : Heap) : Prop :=
  Br (((a_0.len : Nat) : Int) != ((b_1.len : Nat) : Int))
  (R (.bool false) h)
  (LoopM (σ := Int) (fun s1 K1 h1 =>
  Br (decide (s1 < ((a_0.len : Nat) : Int)))
  (∃ a2 : Addr, (a_0.ptr = some a2 ∧ 0 ≤ s1 ∧ s1 < ((a_0.len : Nat) : Int)) ∧
  ∃ x3 : Int, cellOf h1 (a2.add (s1.toNat * 1)) = some (.int .u8 x3) ∧
  ∃ a4 : Addr, (b_1.ptr = some a4 ∧ 0 ≤ s1 ∧ s1 < ((b_1.len : Nat) : Int)) ∧
  ∃ x5 : Int, cellOf h1 (a4.add (s1.toNat * 1)) = some (.int .u8 x5) ∧
  Br (x3 != x5)
  (R (.bool false) h1)
  (K1 (IntKind.wrap .i64 (s1 + (1 : Int))) h1))
  (R (.bool true) h1)) (0 : Int) h)
theorem wellspringkeep_Same_byte_run (a_0 : Sl) (b_1 : Sl) {R : Value → Heap → Prop} {h : Heap} (hm : wellspringkeep_Same_byte_m a_0 b_1 R h) : Meets Tryz.prog 87 #[(.slice a_0.ptr a_0.len a_0.cap), (.slice b_1.ptr b_1.len b_1.cap)] h R := fn_tie C_ok Tryz.func87 (.two .n (.two .n (.two (.two .n (.inn (.loop [(13, (.sc (.int .i64)))] [(4, 6), (13, 26)] .n))) .n))) hm
abbrev drive_Drive_Read_id : FuncId := 88
noncomputable def drive_Drive_Read_m (d_0 : Option Addr) (i_1 : Int) (R : Value → Heap → Prop) (h : Heap) : Prop :=
  JoinM (σ := Unit) (fun _ h1 =>
  ∃ a4 : Addr, (d_0 = some a4) ∧
  ∃ x5 : Sl, cellOf h1 (a4.add 2) = some (.slice x5.ptr x5.len x5.cap) ∧
  ∃ a6 : Addr, (x5.ptr = some a6 ∧ 0 ≤ i_1 ∧ i_1 < ((x5.len : Nat) : Int)) ∧
  ∃ x7 : Sl, cellOf h1 (a6.add (i_1.toNat * 1)) = some (.slice x7.ptr x7.len x7.cap) ∧
  CallM Tryz.prog 118 #[(.slice x7.ptr x7.len x7.cap)] (.one (.sc .slc)) h1 fun r8 h2 =>
  R (.slice r8.ptr r8.len r8.cap) h2)
  (fun K1 =>
  Br (Option.isNone d_0) (R (.slice none 0 0) h) (Br (decide (i_1 < (0 : Int))) (R (.slice none 0 0) h) (∃ a1 : Addr, (d_0 = some a1) ∧
  ∃ x2 : Sl, cellOf h (a1.add 2) = some (.slice x2.ptr x2.len x2.cap) ∧
  Br (decide (i_1 ≥ ((x2.len : Nat) : Int)))
  (R (.slice none 0 0) h)
  (K1 () h))))
theorem drive_Drive_Read_run (d_0 : Option Addr) (i_1 : Int) {R : Value → Heap → Prop} {h : Heap} (hm : drive_Drive_Read_m d_0 i_1 R h) : Meets Tryz.prog 88 #[(.pointer d_0), (.int .i64 i_1)] h R := fn_tie C_ok Tryz.func88 (.two .n (.two (.join [] [(4, 20)] .n) .n)) hm
abbrev wellspringref21_SameDrive_id : FuncId := 89
noncomputable def wellspringref21_SameDrive_m (room_0 : Int) (wait_1 : Int) (l_2 : Sl) (gone_3 : Bool) (d_4 : Option Addr) (R : Value → Heap → Prop) (h : Heap) : Prop :=
  ∃ a1 : Addr, (d_4 = some a1) ∧
  ∃ x2 : Int, cellOf h a1 = some (.int .i64 x2) ∧
  Br (room_0 == x2) (∃ a3 : Addr, (d_4 = some a3) ∧
  ∃ x4 : Int, cellOf h (a3.add 3) = some (.int .i64 x4) ∧
  Br (wait_1 == x4) (∃ a5 : Addr, (d_4 = some a5) ∧
  ∃ x6 : Bool, cellOf h (a5.add 6) = some (.bool x6) ∧
  Br (gone_3 == x6) (∃ a7 : Addr, (d_4 = some a7) ∧
  ∃ x8 : Sl, cellOf h (a7.add 2) = some (.slice x8.ptr x8.len x8.cap) ∧
  CallM Tryz.prog 130 #[(.slice l_2.ptr l_2.len l_2.cap), (.slice x8.ptr x8.len x8.cap)] (.one (.sc .bool)) h fun r9 h1 =>
  R (.bool r9) h1) (R (.bool false) h)) (R (.bool false) h)) (R (.bool false) h)
theorem wellspringref21_SameDrive_run (room_0 : Int) (wait_1 : Int) (l_2 : Sl) (gone_3 : Bool) (d_4 : Option Addr) {R : Value → Heap → Prop} {h : Heap} (hm : wellspringref21_SameDrive_m room_0 wait_1 l_2 gone_3 d_4 R h) : Meets Tryz.prog 89 #[(.int .i64 room_0), (.int .i64 wait_1), (.slice l_2.ptr l_2.len l_2.cap), (.bool gone_3), (.pointer d_4)] h R := fn_tie C_ok Tryz.func89 .n hm
abbrev drive_Drive_Room_id : FuncId := 90
noncomputable def drive_Drive_Room_m (d_0 : Option Addr) (R : Value → Heap → Prop) (h : Heap) : Prop :=
  Br (Option.isNone d_0)
  (R (.int .i64 (0 : Int)) h)
  (∃ a1 : Addr, (d_0 = some a1) ∧
  ∃ x2 : Int, cellOf h (a1.add 1) = some (.int .i64 x2) ∧
  R (.int .i64 x2) h)
theorem drive_Drive_Room_run (d_0 : Option Addr) {R : Value → Heap → Prop} {h : Heap} (hm : drive_Drive_Room_m d_0 R h) : Meets Tryz.prog 90 #[(.pointer d_0)] h R := fn_tie C_ok Tryz.func90 .n hm
abbrev drive_Drive_Pending_id : FuncId := 91
noncomputable def drive_Drive_Pending_m (d_0 : Option Addr) (R : Value → Heap → Prop) (h : Heap) : Prop :=
  Br (Option.isNone d_0)
  (R (.int .i64 (0 : Int)) h)
  (∃ a1 : Addr, (d_0 = some a1) ∧
  ∃ x2 : Int, cellOf h (a1.add 3) = some (.int .i64 x2) ∧
  R (.int .i64 x2) h)
theorem drive_Drive_Pending_run (d_0 : Option Addr) {R : Value → Heap → Prop} {h : Heap} (hm : drive_Drive_Pending_m d_0 R h) : Meets Tryz.prog 91 #[(.pointer d_0)] h R := fn_tie C_ok Tryz.func91 .n hm
abbrev mani_within_id : FuncId := 92
noncomputable def mani_within_m (n_0 : Int) (least_1 : Int) (most_2 : Int) (R : Value → Heap → Prop) (h : Heap) : Prop :=
  Br (decide (n_0 ≥ least_1)) (R (.bool (decide (n_0 ≤ most_2))) h) (R (.bool false) h)
theorem mani_within_run (n_0 : Int) (least_1 : Int) (most_2 : Int) {R : Value → Heap → Prop} {h : Heap} (hm : mani_within_m n_0 least_1 most_2 R h) : Meets Tryz.prog 92 #[(.int .i64 n_0), (.int .i64 least_1), (.int .i64 most_2)] h R := fn_tie C_ok Tryz.func92 .n hm
abbrev mani_rise_id : FuncId := 93
noncomputable def mani_rise_m (l_0 : Sl) (most_1 : Int) (R : Value → Heap → Prop) (h : Heap) : Prop :=
  LoopM (σ := Int) (fun s1 K1 h1 =>
  Br (decide (s1 < ((l_0.len : Nat) : Int)))
  (∃ a2 : Addr, (l_0.ptr = some a2 ∧ 0 ≤ s1 ∧ s1 < ((l_0.len : Nat) : Int)) ∧
  ∃ x3 : Int, cellOf h1 (a2.add (s1.toNat * 1)) = some (.int .i64 x3) ∧
  CallM Tryz.prog 92 #[(.int .i64 x3), (.int .i64 (0 : Int)), (.int .i64 most_1)] (.one (.sc .bool)) h1 fun r4 h2 =>
  Br (!r4) (R (.bool false) h2) (Br (decide (s1 > (0 : Int))) (∃ a5 : Addr, (l_0.ptr = some a5 ∧ 0 ≤ (IntKind.wrap .i64 (s1 - (1 : Int))) ∧ (IntKind.wrap .i64 (s1 - (1 : Int))) < ((l_0.len : Nat) : Int)) ∧
  ∃ x6 : Int, cellOf h2 (a5.add ((IntKind.wrap .i64 (s1 - (1 : Int))).toNat * 1)) = some (.int .i64 x6) ∧
  Br (decide (x6 ≥ x3))
  (R (.bool false) h2)
  (K1 (IntKind.wrap .i64 (s1 + (1 : Int))) h2)) (K1 (IntKind.wrap .i64 (s1 + (1 : Int))) h2)))
  (R (.bool true) h1)) (0 : Int) h
theorem mani_rise_run (l_0 : Sl) (most_1 : Int) {R : Value → Heap → Prop} {h : Heap} (hm : mani_rise_m l_0 most_1 R h) : Meets Tryz.prog 93 #[(.slice l_0.ptr l_0.len l_0.cap), (.int .i64 most_1)] h R := fn_tie C_ok Tryz.func93 (.two .n (.two (.two .n (.inn (.loop [(9, (.sc (.int .i64)))] [(4, 7), (9, 32)] .n))) .n)) hm
end Go.Proofs.YtmaknfkhibljfaaGreat
