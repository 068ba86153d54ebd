/- Part of the proofs that wellspringlaw29's laws answer true whatever the input reads, and leave it as it was; no condition. -/
import Derived.Test.YtdoiokchdaoonaaGreatTabA
set_option linter.unusedVariables false
set_option linter.unusedSimpArgs false
namespace Go.Proofs.YtdoiokchdaoonaaGreat
open Go Go.Vc Go.Proofs
set_option maxRecDepth 1000000
abbrev wellspringref15_Name_id : FuncId := 205
noncomputable def wellspringref15_Name_m (s_0 : ByteArray) (R : Value → Heap → Prop) (h : Heap) : Prop :=
  LoopM (σ := Int) (fun s1 K1 h1 =>
  Br (decide (s1 < ((s_0.size : Nat) : Int)))
  (∃ c2 : UInt8, (0 ≤ s1 ∧ s_0.data[s1.toNat]? = some c2) ∧
  Br (decide ((c2.toNat : Nat) ≥ (97 : Int))) (Br (decide ((c2.toNat : Nat) ≤ (122 : Int))) (K1 (IntKind.wrap .i64 (s1 + (1 : Int))) h1) (Br (decide ((c2.toNat : Nat) ≥ (48 : Int))) (Br (decide ((c2.toNat : Nat) ≤ (57 : Int))) (K1 (IntKind.wrap .i64 (s1 + (1 : Int))) h1) (Br (!((c2.toNat : Nat) == (45 : Int)))
  (R (.bool false) h1)
  (K1 (IntKind.wrap .i64 (s1 + (1 : Int))) h1))) (Br (!((c2.toNat : Nat) == (45 : Int)))
  (R (.bool false) h1)
  (K1 (IntKind.wrap .i64 (s1 + (1 : Int))) h1)))) (Br (decide ((c2.toNat : Nat) ≥ (48 : Int))) (Br (decide ((c2.toNat : Nat) ≤ (57 : Int))) (K1 (IntKind.wrap .i64 (s1 + (1 : Int))) h1) (Br (!((c2.toNat : Nat) == (45 : Int)))
  (R (.bool false) h1)
  (K1 (IntKind.wrap .i64 (s1 + (1 : Int))) h1))) (Br (!((c2.toNat : Nat) == (45 : Int)))
  (R (.bool false) h1)
  (K1 (IntKind.wrap .i64 (s1 + (1 : Int))) h1))))
  (Br (decide (((s_0.size : Nat) : Int) ≥ (1 : Int))) (R (.bool (decide (((s_0.size : Nat) : Int) ≤ (12 : Int)))) h1) (R (.bool false) h1))) (0 : Int) h
theorem wellspringref15_Name_run (s_0 : ByteArray) {R : Value → Heap → Prop} {h : Heap} (hm : wellspringref15_Name_m s_0 R h) : Meets Tryz.prog 205 #[(.string s_0)] h R := fn_tie C_ok Tryz.func205 (.two .n (.two (.two .n (.inn (.loop [(3, (.sc (.int .i64)))] [(2, 33)] .n))) .n)) hm
abbrev wellspringref15_Count_id : FuncId := 206
noncomputable def wellspringref15_Count_m (p_0 : Int × Int × Int) (n_1 : Int) (R : Value → Heap → Prop) (h : Heap) : Prop :=
  RunsA Tryz.prog (Instr.box 23 (.agg #[(.int .i64 p_0.1), (.int .i64 p_0.2.1), (.int .i64 p_0.2.2)])) h fun a1 h1 =>
  JoinM (σ := Unit) (fun _ h3 =>
  ∃ x5 : Int, cellOf h3 a1 = some (.int .i64 x5) ∧
  ∃ x6 : Int, cellOf h3 (a1.add 2) = some (.int .i64 x6) ∧
  ((IntKind.wrap .i64 (x5 * x6)) ≠ 0) ∧
  JoinM (σ := Int) (fun s9 h4 =>
  R (.int .i64 s9) h4)
  (fun K2 =>
  ∃ x7 : Int, cellOf h3 a1 = some (.int .i64 x7) ∧
  ∃ x8 : Int, cellOf h3 (a1.add 2) = some (.int .i64 x8) ∧
  ((IntKind.wrap .i64 (x7 * x8)) ≠ 0) ∧
  Br (decide ((Int.tmod n_1 (IntKind.wrap .i64 (x7 * x8))) > (0 : Int)))
  (K2 (IntKind.wrap .i64 ((IntKind.wrap .i64 (Int.tdiv n_1 (IntKind.wrap .i64 (x5 * x6)))) + (1 : Int))) h3)
  (K2 (IntKind.wrap .i64 (Int.tdiv n_1 (IntKind.wrap .i64 (x5 * x6)))) h3)))
  (fun K1 =>
  ∃ x2 : Int × Int × Int, cellsAt h1 a1 0 [(.int .i64 x2.1), (.int .i64 x2.2.1), (.int .i64 x2.2.2)] ∧
  CallM Tryz.prog 76 #[(.agg #[(.int .i64 x2.1), (.int .i64 x2.2.1), (.int .i64 x2.2.2)])] (.one (.sc .bool)) h1 fun r3 h2 =>
  Br (!r3) (R (.int .i64 (0 : Int)) h2) (Br (decide (n_1 < (0 : Int)))
  (R (.int .i64 (0 : Int)) h2)
  (K1 () h2)))
theorem wellspringref15_Count_run (p_0 : Int × Int × Int) (n_1 : Int) {R : Value → Heap → Prop} {h : Heap} (hm : wellspringref15_Count_m p_0 n_1 R h) : Meets Tryz.prog 206 #[(.agg #[(.int .i64 p_0.1), (.int .i64 p_0.2.1), (.int .i64 p_0.2.2)]), (.int .i64 n_1)] h R := fn_tie C_ok Tryz.func206 (.two .n (.two (.join [] [(4, 5), (6, 13)] .n) (.two .n (.two (.join [(5, (.sc (.int .i64)))] [(5, 6), (20, 30)] .n) .n)))) hm
end Go.Proofs.YtdoiokchdaoonaaGreat
