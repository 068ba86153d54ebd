/- Part of the proofs that wellspringlaw10's laws answer true whatever the input reads, and leave it as it was; no condition. -/
import Derived.Test.YtkkkdjagknlfbaaTabA
set_option linter.unusedVariables false
set_option linter.unusedSimpArgs false
namespace Go.Proofs.Ytkkkdjagknlfbaa
open Go Go.Vc Go.Proofs
set_option maxRecDepth 1000000

/-- math/bits.Len -/
abbrev math_bits_Len_id : FuncId := 79
noncomputable def math_bits_Len_m (x_0 : Int) (R : Value → Heap → Prop) (h : Heap) : Prop :=
  CallM Try.prog 86 #[(.int .u64 x_0)] (.one (.sc (.int .i64))) h fun r1 h1 =>
  R (.int .i64 r1) h1
noncomputable def math_bits_Len_ann : Ann := .n
theorem math_bits_Len_eq (x_0 : Int) (R : Value → Heap → Prop) (h : Heap) : fnV C Try.f79 300 math_bits_Len_ann [(.int .u64 x_0)] R h = math_bits_Len_m x_0 R h := by kernel_rfl
theorem math_bits_Len_run (x_0 : Int) {R : Value → Heap → Prop} {h : Heap} (hm : math_bits_Len_m x_0 R h) : Meets Try.prog 79 #[(.int .u64 x_0)] h R :=
  fn_spec C_ok (f := 79) (fn := Try.f79) (args := [(.int .u64 x_0)]) Try.func79 (by rw [Try.ntmps79]; exact Nat.le_of_ble_eq_true rfl) (cast (math_bits_Len_eq x_0 R h).symm hm)
/-- wellspring/row.sure -/
abbrev row_sure_id : FuncId := 81
noncomputable def row_sure_m (f_0 : Option Addr) (R : Value → Heap → Prop) (h : Heap) : Prop :=
  Br (Option.isNone f_0)
  (CallM Try.prog 21 #[] (.one (.sc .ptr)) h fun r1 h1 =>
  R (.pointer r1) h1)
  (R (.pointer f_0) h)
noncomputable def row_sure_ann : Ann := .n
theorem row_sure_eq (f_0 : Option Addr) (R : Value → Heap → Prop) (h : Heap) : fnV C Try.f81 300 row_sure_ann [(.pointer f_0)] R h = row_sure_m f_0 R h := by kernel_rfl
theorem row_sure_run (f_0 : Option Addr) {R : Value → Heap → Prop} {h : Heap} (hm : row_sure_m f_0 R h) : Meets Try.prog 81 #[(.pointer f_0)] h R :=
  fn_spec C_ok (f := 81) (fn := Try.f81) (args := [(.pointer f_0)]) Try.func81 (by rw [Try.ntmps81]; exact Nat.le_of_ble_eq_true rfl) (cast (row_sure_eq f_0 R h).symm hm)
/-- (*wellspring/gf.Field).Mul -/
abbrev gf_Field_Mul_id : FuncId := 82
noncomputable def gf_Field_Mul_m (f_0 : Option Addr) (a_1 : Int) (b_2 : Int) (R : Value → Heap → Prop) (h : Heap) : Prop :=
  JoinM (σ := Unit) (fun _ h1 =>
  CallM Try.prog 44 #[(.pointer f_0)] (.one (.sc .ptr)) h1 fun r2 h2 =>
  ∃ a3 : Addr, (r2 = some a3) ∧
  (0 ≤ a_1 ∧ a_1 < ((256 : Nat) : Int)) ∧
  ∃ x4 : Int, cellOf h2 ((a3.add 255).add (a_1.toNat * 1)) = some (.int .i64 x4) ∧
  ∃ a5 : Addr, (r2 = some a5) ∧
  (0 ≤ b_2 ∧ b_2 < ((256 : Nat) : Int)) ∧
  ∃ x6 : Int, cellOf h2 ((a5.add 255).add (b_2.toNat * 1)) = some (.int .i64 x6) ∧
  ((255 : Int) ≠ 0) ∧
  ∃ a7 : Addr, (r2 = some a7) ∧
  (0 ≤ (Int.tmod (IntKind.wrap .i64 (x4 + x6)) (255 : Int)) ∧ (Int.tmod (IntKind.wrap .i64 (x4 + x6)) (255 : Int)) < ((255 : Nat) : Int)) ∧
  ∃ x8 : Int, cellOf h2 (a7.add ((Int.tmod (IntKind.wrap .i64 (x4 + x6)) (255 : Int)).toNat * 1)) = some (.int .u8 x8) ∧
  R (.int .u8 x8) h2)
  (fun K1 =>
  Br (a_1 == (0 : Int)) (R (.int .u8 (0 : Int)) h) (Br (b_2 == (0 : Int))
  (R (.int .u8 (0 : Int)) h)
  (K1 () h)))
noncomputable def gf_Field_Mul_ann : Ann := (.two .n (.two (.join [] [(6, 7), (8, 14)] .n) .n))
theorem gf_Field_Mul_eq (f_0 : Option Addr) (a_1 : Int) (b_2 : Int) (R : Value → Heap → Prop) (h : Heap) : fnV C Try.f82 300 gf_Field_Mul_ann [(.pointer f_0), (.int .u8 a_1), (.int .u8 b_2)] R h = gf_Field_Mul_m f_0 a_1 b_2 R h := by kernel_rfl
theorem gf_Field_Mul_run (f_0 : Option Addr) (a_1 : Int) (b_2 : Int) {R : Value → Heap → Prop} {h : Heap} (hm : gf_Field_Mul_m f_0 a_1 b_2 R h) : Meets Try.prog 82 #[(.pointer f_0), (.int .u8 a_1), (.int .u8 b_2)] h R :=
  fn_spec C_ok (f := 82) (fn := Try.f82) (args := [(.pointer f_0), (.int .u8 a_1), (.int .u8 b_2)]) Try.func82 (by rw [Try.ntmps82]; exact Nat.le_of_ble_eq_true rfl) (cast (gf_Field_Mul_eq f_0 a_1 b_2 R h).symm hm)
/-- wellspring/wellspringref01.Degree -/
abbrev wellspringref01_Degree_id : FuncId := 83
noncomputable def wellspringref01_Degree_m (t_0 : Sl) (x_1 : Int) (R : Value → Heap → Prop) (h : Heap) : Prop :=
  LoopM (σ := Int) (fun s1 K1 h1 =>
  JoinM (σ := Unit) (fun _ h2 =>
  ∃ a3 : Addr, (t_0.ptr = some a3 ∧ 0 ≤ s1 ∧ s1 < ((t_0.len : Nat) : Int)) ∧
  ∃ x4 : Int, cellOf h2 (a3.add (s1.toNat * 1)) = some (.int .i64 x4) ∧
  Br (decide (x4 > x_1))
  (R (.int .i64 (IntKind.wrap .i64 (s1 + (1 : Int)))) h2)
  (K1 (IntKind.wrap .i64 (s1 + (1 : Int))) h2))
  (fun K2 =>
  Br (decide (s1 < ((t_0.len : Nat) : Int))) (Br (decide (x_1 ≥ (0 : Int)))
  (K2 () h1)
  (R (.int .i64 (0 : Int)) h1)) (R (.int .i64 (0 : Int)) h1))) (0 : Int) h
noncomputable def wellspringref01_Degree_ann : Ann := (.two .n (.two (.two .n (.inn (.loop [(5, (.sc (.int .i64)))] [(4, 24)] (.two (.join [] [(6, 14)] .n) .n)))) .n))
theorem wellspringref01_Degree_eq (t_0 : Sl) (x_1 : Int) (R : Value → Heap → Prop) (h : Heap) : fnV C Try.f83 300 wellspringref01_Degree_ann [(.slice t_0.ptr t_0.len t_0.cap), (.int .i64 x_1)] R h = wellspringref01_Degree_m t_0 x_1 R h := by kernel_rfl
theorem wellspringref01_Degree_run (t_0 : Sl) (x_1 : Int) {R : Value → Heap → Prop} {h : Heap} (hm : wellspringref01_Degree_m t_0 x_1 R h) : Meets Try.prog 83 #[(.slice t_0.ptr t_0.len t_0.cap), (.int .i64 x_1)] h R :=
  fn_spec C_ok (f := 83) (fn := Try.f83) (args := [(.slice t_0.ptr t_0.len t_0.cap), (.int .i64 x_1)]) Try.func83 (by rw [Try.ntmps83]; exact Nat.le_of_ble_eq_true rfl) (cast (wellspringref01_Degree_eq t_0 x_1 R h).symm hm)
/-- (*wellspring/wellspringref01.Draw).Below -/
abbrev wellspringref01_Draw_Below_id : FuncId := 84
noncomputable def wellspringref01_Draw_Below_m (d_0 : Option Addr) (n_1 : Int) (R : Value → Heap → Prop) (h : Heap) : Prop :=
  Br (decide (n_1 ≤ (0 : Int)))
  (R (.int .i64 (0 : Int)) h)
  (CallM Try.prog 70 #[(.pointer d_0)] (.one (.sc (.int .u32))) h fun r1 h1 =>
  ((IntKind.wrap .u64 n_1) ≠ 0) ∧
  R (.int .i64 (IntKind.wrap .i64 (Int.tmod (IntKind.wrap .u64 r1) (IntKind.wrap .u64 n_1)))) h1)
noncomputable def wellspringref01_Draw_Below_ann : Ann := .n
theorem wellspringref01_Draw_Below_eq (d_0 : Option Addr) (n_1 : Int) (R : Value → Heap → Prop) (h : Heap) : fnV C Try.f84 300 wellspringref01_Draw_Below_ann [(.pointer d_0), (.int .i64 n_1)] R h = wellspringref01_Draw_Below_m d_0 n_1 R h := by kernel_rfl
theorem wellspringref01_Draw_Below_run (d_0 : Option Addr) (n_1 : Int) {R : Value → Heap → Prop} {h : Heap} (hm : wellspringref01_Draw_Below_m d_0 n_1 R h) : Meets Try.prog 84 #[(.pointer d_0), (.int .i64 n_1)] h R :=
  fn_spec C_ok (f := 84) (fn := Try.f84) (args := [(.pointer d_0), (.int .i64 n_1)]) Try.func84 (by rw [Try.ntmps84]; exact Nat.le_of_ble_eq_true rfl) (cast (wellspringref01_Draw_Below_eq d_0 n_1 R h).symm hm)
end Go.Proofs.Ytkkkdjagknlfbaa
