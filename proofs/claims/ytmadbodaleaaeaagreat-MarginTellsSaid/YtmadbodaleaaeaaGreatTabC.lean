/- Part of the proof that wellspringlaw27's MarginTells answers true whatever the input reads, and leaves it as it was; no condition. -/
import Derived.Test.YtmadbodaleaaeaaGreatTabA
set_option linter.unusedVariables false
set_option linter.unusedSimpArgs false
namespace Go.Proofs.YtmadbodaleaaeaaGreat
open Go Go.Vc Go.Proofs
set_option maxRecDepth 1000000

/-- wellspring/wellspringref01.Exp -/
abbrev wellspringref01_Exp_id : FuncId := 82
noncomputable def wellspringref01_Exp_m (n_0 : Int) (R : Value → Heap → Prop) (h : Heap) : Prop :=
  ((255 : Int) ≠ 0) ∧
  JoinM (σ := Int) (fun s1 h1 =>
  LoopM (σ := Int × Int) (fun s2 K2 h2 =>
  Br (decide (s2.2 < s1))
  (CallM Tryz.prog 94 #[(.int .u8 s2.1), (.int .u8 (3 : Int))] (.one (.sc (.int .u8))) h2 fun r3 h3 =>
  K2 (r3, IntKind.wrap .i64 (s2.2 + (1 : Int))) h3)
  (R (.int .u8 s2.1) h2)) ((1 : Int), (0 : Int)) h1)
  (fun K1 =>
  Br (decide ((Int.tmod n_0 (255 : Int)) < (0 : Int)))
  (K1 (IntKind.wrap .i64 ((Int.tmod n_0 (255 : Int)) + (255 : Int))) h)
  (K1 (Int.tmod n_0 (255 : Int)) h))
noncomputable def wellspringref01_Exp_ann : Ann := (.two .n (.two .n (.two (.join [(0, (.sc (.int .i64)))] [(0, 1), (7, 11)] .n) (.two .n (.two (.two .n (.inn (.loop [(3, (.sc (.int .u8))), (4, (.sc (.int .i64)))] [(3, 5), (11, 18)] .n))) .n)))))
theorem wellspringref01_Exp_eq (n_0 : Int) (R : Value → Heap → Prop) (h : Heap) : fnV C Tryz.f82 300 wellspringref01_Exp_ann [(.int .i64 n_0)] R h = wellspringref01_Exp_m n_0 R h := by kernel_rfl
theorem wellspringref01_Exp_run (n_0 : Int) {R : Value → Heap → Prop} {h : Heap} (hm : wellspringref01_Exp_m n_0 R h) : Meets Tryz.prog 82 #[(.int .i64 n_0)] h R :=
  fn_spec C_ok (f := 82) (fn := Tryz.f82) (args := [(.int .i64 n_0)]) Tryz.func82 (by rw [Tryz.ntmps82]; exact Nat.le_of_ble_eq_true rfl) (cast (wellspringref01_Exp_eq n_0 R h).symm hm)
/-- wellspring/wellspringref01.At -/
abbrev wellspringref01_At_id : FuncId := 83
noncomputable def wellspringref01_At_m (p_0 : Int × Int × Int) (seed_1 : Int) (id_2 : Int) (R : Value → Heap → Prop) (h : Heap) : Prop :=
  RunsA Tryz.prog (Instr.box 23 (.agg #[(.int .i64 p_0.1), (.int .i64 p_0.2.1), (.int .i64 p_0.2.2)])) h fun a1 h1 =>
  JoinM (σ := Unit) (fun _ h4 =>
  RunsA Tryz.prog (Instr.box 116 (.agg #[(.int .u64 (IntKind.wrap .u64 (IntKind.wrap .u32 ((BitVec.ofInt (IntKind.bits .u32) seed_1 ^^^ (BitVec.ofInt (IntKind.bits .u32) (IntKind.wrap .u32 ((IntKind.wrap .u32 id_2) * (2654435761 : Int))))).toNat : Nat))))])) h4 fun a6 h5 =>
  CallM Tryz.prog 95 #[(.pointer (some a6))] (.one (.sc (.int .u32))) h5 fun _ h6 =>
  ∃ x8 : Int × Int × Int, cellsAt h6 a1 0 [(.int .i64 x8.1), (.int .i64 x8.2.1), (.int .i64 x8.2.2)] ∧
  CallM Tryz.prog 60 #[(.agg #[(.int .i64 x8.1), (.int .i64 x8.2.1), (.int .i64 x8.2.2)])] (.one (.sc (.int .i64))) h6 fun r9 h7 =>
  CallM Tryz.prog 97 #[(.int .i64 r9)] (.one (.sc .slc)) h7 fun r10 h8 =>
  CallM Tryz.prog 96 #[(.slice r10.ptr r10.len r10.cap), (.pointer (some a6))] (.one (.sc (.int .i64))) h8 fun r11 h9 =>
  ∃ x12 : Int × Int × Int, cellsAt h9 a1 0 [(.int .i64 x12.1), (.int .i64 x12.2.1), (.int .i64 x12.2.2)] ∧
  CallM Tryz.prog 60 #[(.agg #[(.int .i64 x12.1), (.int .i64 x12.2.1), (.int .i64 x12.2.2)])] (.one (.sc (.int .i64))) h9 fun r13 h10 =>
  CallM Tryz.prog 98 #[(.pointer (some a6)), (.int .i64 r13), (.int .i64 r11)] (.one (.sc .slc)) h10 fun r14 h11 =>
  R (.slice r14.ptr r14.len r14.cap) h11)
  (fun K1 =>
  ∃ x2 : Int × Int × Int, cellsAt h1 a1 0 [(.int .i64 x2.1), (.int .i64 x2.2.1), (.int .i64 x2.2.2)] ∧
  CallM Tryz.prog 33 #[(.agg #[(.int .i64 x2.1), (.int .i64 x2.2.1), (.int .i64 x2.2.2)])] (.one (.sc .bool)) h1 fun r3 h2 =>
  Br (!r3) (R (.slice none 0 0) h2) (CallM Tryz.prog 63 #[(.int .i64 id_2)] (.one (.sc .bool)) h2 fun r4 h3 =>
  Br (!r4)
  (R (.slice none 0 0) h3)
  (K1 () h3)))
noncomputable def wellspringref01_At_ann : Ann := (.two .n (.two (.join [] [(6, 7), (9, 17)] .n) .n))
theorem wellspringref01_At_eq (p_0 : Int × Int × Int) (seed_1 : Int) (id_2 : Int) (R : Value → Heap → Prop) (h : Heap) : fnV C Tryz.f83 300 wellspringref01_At_ann [(.agg #[(.int .i64 p_0.1), (.int .i64 p_0.2.1), (.int .i64 p_0.2.2)]), (.int .u32 seed_1), (.int .i64 id_2)] R h = wellspringref01_At_m p_0 seed_1 id_2 R h := by kernel_rfl
theorem wellspringref01_At_run (p_0 : Int × Int × Int) (seed_1 : Int) (id_2 : Int) {R : Value → Heap → Prop} {h : Heap} (hm : wellspringref01_At_m p_0 seed_1 id_2 R h) : Meets Tryz.prog 83 #[(.agg #[(.int .i64 p_0.1), (.int .i64 p_0.2.1), (.int .i64 p_0.2.2)]), (.int .u32 seed_1), (.int .i64 id_2)] h R :=
  fn_spec C_ok (f := 83) (fn := Tryz.f83) (args := [(.agg #[(.int .i64 p_0.1), (.int .i64 p_0.2.1), (.int .i64 p_0.2.2)]), (.int .u32 seed_1), (.int .i64 id_2)]) Tryz.func83 (by rw [Tryz.ntmps83]; exact Nat.le_of_ble_eq_true rfl) (cast (wellspringref01_At_eq p_0 seed_1 id_2 R h).symm hm)
/-- wellspring/row.Sum -/
abbrev row_Sum_id : FuncId := 84
noncomputable def row_Sum_m (a_0 : Sl) (b_1 : Sl) (R : Value → Heap → Prop) (h : Heap) : Prop :=
  Br (((a_0.len : Nat) : Int) != ((b_1.len : Nat) : Int))
  (R (.tuple #[(.slice none 0 0), (.bool false)]) h)
  (RunsR Tryz.prog (Instr.makeSlice 58 (.int .i64 ((a_0.len : Nat) : Int)) (.int .i64 ((a_0.len : Nat) : Int))) (.one (.sc .slc)) h fun v1 h1 =>
  LoopM (σ := Int) (fun s2 K1 h2 =>
  Br (decide (s2 < ((a_0.len : Nat) : Int)))
  (∃ a3 : Addr, (a_0.ptr = some a3 ∧ 0 ≤ s2 ∧ s2 < ((a_0.len : Nat) : Int)) ∧
  ∃ x4 : Int, cellOf h2 (a3.add (s2.toNat * 1)) = some (.int .u8 x4) ∧
  ∃ a5 : Addr, (b_1.ptr = some a5 ∧ 0 ≤ s2 ∧ s2 < ((b_1.len : Nat) : Int)) ∧
  ∃ x6 : Int, cellOf h2 (a5.add (s2.toNat * 1)) = some (.int .u8 x6) ∧
  ∃ a7 : Addr, (v1.ptr = some a7 ∧ 0 ≤ s2 ∧ s2 < ((v1.len : Nat) : Int)) ∧
  Runs Tryz.prog (Instr.storeAt 5 (.pointer (some (a7.add (s2.toNat * 1)))) (.int .u8 (IntKind.wrap .u8 ((BitVec.ofInt (IntKind.bits .u8) x4 ^^^ (BitVec.ofInt (IntKind.bits .u8) x6)).toNat : Nat)))) h2 fun _ h3 =>
  (Held.ok [] h3) ∧
  K1 (IntKind.wrap .i64 (s2 + (1 : Int))) h3)
  (R (.tuple #[(.slice v1.ptr v1.len v1.cap), (.bool true)]) h2)) (0 : Int) h1)
noncomputable def row_Sum_ann : Ann := (.two .n (.two .n (.two .n (.two (.two .n (.inn (.loop [(18, (.sc (.int .i64)))] [(7, 8), (18, 34)] .n))) .n))))
theorem row_Sum_eq (a_0 : Sl) (b_1 : Sl) (R : Value → Heap → Prop) (h : Heap) : fnV C Tryz.f84 300 row_Sum_ann [(.slice a_0.ptr a_0.len a_0.cap), (.slice b_1.ptr b_1.len b_1.cap)] R h = row_Sum_m a_0 b_1 R h := by kernel_rfl
theorem row_Sum_run (a_0 : Sl) (b_1 : Sl) {R : Value → Heap → Prop} {h : Heap} (hm : row_Sum_m a_0 b_1 R h) : Meets Tryz.prog 84 #[(.slice a_0.ptr a_0.len a_0.cap), (.slice b_1.ptr b_1.len b_1.cap)] h R :=
  fn_spec C_ok (f := 84) (fn := Tryz.f84) (args := [(.slice a_0.ptr a_0.len a_0.cap), (.slice b_1.ptr b_1.len b_1.cap)]) Tryz.func84 (by rw [Tryz.ntmps84]; exact Nat.le_of_ble_eq_true rfl) (cast (row_Sum_eq a_0 b_1 R h).symm hm)
/-- wellspring/row.Scale -/
abbrev row_Scale_id : FuncId := 85
noncomputable def row_Scale_m (f_0 : Option Addr) (c_1 : Int) (a_2 : Sl) (R : Value → Heap → Prop) (h : Heap) : Prop :=
  CallM Tryz.prog 99 #[(.pointer f_0)] (.one (.sc .ptr)) h fun r1 h1 =>
  RunsR Tryz.prog (Instr.makeSlice 58 (.int .i64 ((a_2.len : Nat) : Int)) (.int .i64 ((a_2.len : Nat) : Int))) (.one (.sc .slc)) h1 fun v2 h2 =>
  LoopM (σ := Int) (fun s3 K1 h3 =>
  Br (decide (s3 < ((a_2.len : Nat) : Int)))
  (∃ a4 : Addr, (a_2.ptr = some a4 ∧ 0 ≤ s3 ∧ s3 < ((a_2.len : Nat) : Int)) ∧
  ∃ x5 : Int, cellOf h3 (a4.add (s3.toNat * 1)) = some (.int .u8 x5) ∧
  CallM Tryz.prog 100 #[(.pointer r1), (.int .u8 c_1), (.int .u8 x5)] (.one (.sc (.int .u8))) h3 fun r6 h4 =>
  ∃ a7 : Addr, (v2.ptr = some a7 ∧ 0 ≤ s3 ∧ s3 < ((v2.len : Nat) : Int)) ∧
  Runs Tryz.prog (Instr.storeAt 5 (.pointer (some (a7.add (s3.toNat * 1)))) (.int .u8 r6)) h4 fun _ h5 =>
  K1 (IntKind.wrap .i64 (s3 + (1 : Int))) h5)
  (R (.slice v2.ptr v2.len v2.cap) h3)) (0 : Int) h2
noncomputable def row_Scale_ann : Ann := (.two .n (.two .n (.two .n (.two (.two .n (.inn (.loop [(17, (.sc (.int .i64)))] [(8, 10), (17, 30)] .n))) .n))))
theorem row_Scale_eq (f_0 : Option Addr) (c_1 : Int) (a_2 : Sl) (R : Value → Heap → Prop) (h : Heap) : fnV C Tryz.f85 300 row_Scale_ann [(.pointer f_0), (.int .u8 c_1), (.slice a_2.ptr a_2.len a_2.cap)] R h = row_Scale_m f_0 c_1 a_2 R h := by kernel_rfl
theorem row_Scale_run (f_0 : Option Addr) (c_1 : Int) (a_2 : Sl) {R : Value → Heap → Prop} {h : Heap} (hm : row_Scale_m f_0 c_1 a_2 R h) : Meets Tryz.prog 85 #[(.pointer f_0), (.int .u8 c_1), (.slice a_2.ptr a_2.len a_2.cap)] h R :=
  fn_spec C_ok (f := 85) (fn := Tryz.f85) (args := [(.pointer f_0), (.int .u8 c_1), (.slice a_2.ptr a_2.len a_2.cap)]) Tryz.func85 (by rw [Tryz.ntmps85]; exact Nat.le_of_ble_eq_true rfl) (cast (row_Scale_eq f_0 c_1 a_2 R h).symm hm)
/-- wellspring/mat.begins -/
abbrev mat_begins_id : FuncId := 86
noncomputable def mat_begins_m (a_0 : Sl) (top_1 : Int) (col_2 : Int) (R : Value → Heap → Prop) (h : Heap) : Prop :=
  LoopM (σ := Int) (fun s1 K1 h1 =>
  Br (decide (s1 ≥ ((a_0.len : Nat) : Int)))
  (R (.int .i64 (-1 : Int)) h1)
  (∃ a2 : Addr, (a_0.ptr = some a2 ∧ 0 ≤ s1 ∧ s1 < ((a_0.len : Nat) : Int)) ∧
  ∃ x3 : Sl, cellOf h1 (a2.add (s1.toNat * 1)) = some (.slice x3.ptr x3.len x3.cap) ∧
  ∃ a4 : Addr, (x3.ptr = some a4 ∧ 0 ≤ col_2 ∧ col_2 < ((x3.len : Nat) : Int)) ∧
  ∃ x5 : Int, cellOf h1 (a4.add (col_2.toNat * 1)) = some (.int .u8 x5) ∧
  Br (x5 != (0 : Int))
  (R (.int .i64 s1) h1)
  (K1 (IntKind.wrap .i64 (s1 + (1 : Int))) h1))) top_1 h
noncomputable def mat_begins_ann : Ann := (.two .n (.scope 0 [(7, (.sc (.int .i64)))] [(6, 8), (9, 24)] [.n] [.n] [(1, [.n])]))
theorem mat_begins_eq (a_0 : Sl) (top_1 : Int) (col_2 : Int) (R : Value → Heap → Prop) (h : Heap) : fnV C Tryz.f86 300 mat_begins_ann [(.slice a_0.ptr a_0.len a_0.cap), (.int .i64 top_1), (.int .i64 col_2)] R h = mat_begins_m a_0 top_1 col_2 R h := by kernel_rfl
theorem mat_begins_run (a_0 : Sl) (top_1 : Int) (col_2 : Int) {R : Value → Heap → Prop} {h : Heap} (hm : mat_begins_m a_0 top_1 col_2 R h) : Meets Tryz.prog 86 #[(.slice a_0.ptr a_0.len a_0.cap), (.int .i64 top_1), (.int .i64 col_2)] h R :=
  fn_spec C_ok (f := 86) (fn := Tryz.f86) (args := [(.slice a_0.ptr a_0.len a_0.cap), (.int .i64 top_1), (.int .i64 col_2)]) Tryz.func86 (by rw [Tryz.ntmps86]; exact Nat.le_of_ble_eq_true rfl) (cast (mat_begins_eq a_0 top_1 col_2 R h).symm hm)
/-- (*wellspring/gf.Field).Inv -/
abbrev gf_Field_Inv_id : FuncId := 87
noncomputable def gf_Field_Inv_m (f_0 : Option Addr) (a_1 : Int) (R : Value → Heap → Prop) (h : Heap) : Prop :=
  Br (a_1 == (0 : Int))
  (R (.int .u8 (0 : Int)) h)
  (CallM Tryz.prog 66 #[(.pointer f_0)] (.one (.sc .ptr)) h fun r1 h1 =>
  ∃ a2 : Addr, (r1 = some a2) ∧
  (0 ≤ a_1 ∧ a_1 < ((256 : Nat) : Int)) ∧
  ∃ x3 : Int, cellOf h1 ((a2.add 255).add (a_1.toNat * 1)) = some (.int .i64 x3) ∧
  ((255 : Int) ≠ 0) ∧
  ∃ a4 : Addr, (r1 = some a4) ∧
  (0 ≤ (Int.tmod (IntKind.wrap .i64 ((255 : Int) - x3)) (255 : Int)) ∧ (Int.tmod (IntKind.wrap .i64 ((255 : Int) - x3)) (255 : Int)) < ((255 : Nat) : Int)) ∧
  ∃ x5 : Int, cellOf h1 (a4.add ((Int.tmod (IntKind.wrap .i64 ((255 : Int) - x3)) (255 : Int)).toNat * 1)) = some (.int .u8 x5) ∧
  R (.int .u8 x5) h1)
noncomputable def gf_Field_Inv_ann : Ann := .n
theorem gf_Field_Inv_eq (f_0 : Option Addr) (a_1 : Int) (R : Value → Heap → Prop) (h : Heap) : fnV C Tryz.f87 300 gf_Field_Inv_ann [(.pointer f_0), (.int .u8 a_1)] R h = gf_Field_Inv_m f_0 a_1 R h := by kernel_rfl
theorem gf_Field_Inv_run (f_0 : Option Addr) (a_1 : Int) {R : Value → Heap → Prop} {h : Heap} (hm : gf_Field_Inv_m f_0 a_1 R h) : Meets Tryz.prog 87 #[(.pointer f_0), (.int .u8 a_1)] h R :=
  fn_spec C_ok (f := 87) (fn := Tryz.f87) (args := [(.pointer f_0), (.int .u8 a_1)]) Tryz.func87 (by rw [Tryz.ntmps87]; exact Nat.le_of_ble_eq_true rfl) (cast (gf_Field_Inv_eq f_0 a_1 R h).symm hm)
/-- wellspring/mat.add -/
abbrev mat_add_id : FuncId := 88
noncomputable def mat_add_m (f_0 : Option Addr) (c_1 : Int) (a_2 : Sl) (to_3 : Sl) (R : Value → Heap → Prop) (h : Heap) : Prop :=
  Br (c_1 == (0 : Int))
  (R (.tuple #[]) h)
  (LoopM (σ := Int) (fun s1 K1 h1 =>
  Br (decide (s1 < ((a_2.len : Nat) : Int)))
  (∃ a2 : Addr, (a_2.ptr = some a2 ∧ 0 ≤ s1 ∧ s1 < ((a_2.len : Nat) : Int)) ∧
  ∃ x3 : Int, cellOf h1 (a2.add (s1.toNat * 1)) = some (.int .u8 x3) ∧
  ∃ a4 : Addr, (to_3.ptr = some a4 ∧ 0 ≤ s1 ∧ s1 < ((to_3.len : Nat) : Int)) ∧
  ∃ x5 : Int, cellOf h1 (a4.add (s1.toNat * 1)) = some (.int .u8 x5) ∧
  CallM Tryz.prog 100 #[(.pointer f_0), (.int .u8 c_1), (.int .u8 x3)] (.one (.sc (.int .u8))) h1 fun r6 h2 =>
  (Held.ok [(a4.add (s1.toNat * 1), (.int .u8 x5))] h2) ∧
  ∃ a7 : Addr, (to_3.ptr = some a7 ∧ 0 ≤ s1 ∧ s1 < ((to_3.len : Nat) : Int)) ∧
  Runs Tryz.prog (Instr.storeAt 5 (.pointer (some (a7.add (s1.toNat * 1)))) (.int .u8 (IntKind.wrap .u8 ((BitVec.ofInt (IntKind.bits .u8) x5 ^^^ (BitVec.ofInt (IntKind.bits .u8) r6)).toNat : Nat)))) h2 fun _ h3 =>
  (Held.ok [] h3) ∧
  K1 (IntKind.wrap .i64 (s1 + (1 : Int))) h3)
  (R (.tuple #[]) h1)) (0 : Int) h)
noncomputable def mat_add_ann : Ann := (.two .n (.two .n (.inn (.loop [(14, (.sc (.int .i64)))] [(8, 10), (14, 30)] .n))))
theorem mat_add_eq (f_0 : Option Addr) (c_1 : Int) (a_2 : Sl) (to_3 : Sl) (R : Value → Heap → Prop) (h : Heap) : fnV C Tryz.f88 300 mat_add_ann [(.pointer f_0), (.int .u8 c_1), (.slice a_2.ptr a_2.len a_2.cap), (.slice to_3.ptr to_3.len to_3.cap)] R h = mat_add_m f_0 c_1 a_2 to_3 R h := by kernel_rfl
theorem mat_add_run (f_0 : Option Addr) (c_1 : Int) (a_2 : Sl) (to_3 : Sl) {R : Value → Heap → Prop} {h : Heap} (hm : mat_add_m f_0 c_1 a_2 to_3 R h) : Meets Tryz.prog 88 #[(.pointer f_0), (.int .u8 c_1), (.slice a_2.ptr a_2.len a_2.cap), (.slice to_3.ptr to_3.len to_3.cap)] h R :=
  fn_spec C_ok (f := 88) (fn := Tryz.f88) (args := [(.pointer f_0), (.int .u8 c_1), (.slice a_2.ptr a_2.len a_2.cap), (.slice to_3.ptr to_3.len to_3.cap)]) Tryz.func88 (by rw [Tryz.ntmps88]; exact Nat.le_of_ble_eq_true rfl) (cast (mat_add_eq f_0 c_1 a_2 to_3 R h).symm hm)
/-- wellspring/draw.New -/
abbrev draw_New_id : FuncId := 89
noncomputable def draw_New_m (seed_0 : Int) (R : Value → Heap → Prop) (h : Heap) : Prop :=
  RunsA Tryz.prog (Instr.box 120 (.agg #[(.int .u64 (IntKind.wrap .u64 seed_0))])) h fun a1 h1 =>
  R (.pointer (some a1)) h1
noncomputable def draw_New_ann : Ann := .n
theorem draw_New_eq (seed_0 : Int) (R : Value → Heap → Prop) (h : Heap) : fnV C Tryz.f89 300 draw_New_ann [(.int .u32 seed_0)] R h = draw_New_m seed_0 R h := by kernel_rfl
theorem draw_New_run (seed_0 : Int) {R : Value → Heap → Prop} {h : Heap} (hm : draw_New_m seed_0 R h) : Meets Tryz.prog 89 #[(.int .u32 seed_0)] h R :=
  fn_spec C_ok (f := 89) (fn := Tryz.f89) (args := [(.int .u32 seed_0)]) Tryz.func89 (by rw [Tryz.ntmps89]; exact Nat.le_of_ble_eq_true rfl) (cast (draw_New_eq seed_0 R h).symm hm)
/-- (*wellspring/draw.Draw).Next -/
abbrev draw_Draw_Next_id : FuncId := 90
noncomputable def draw_Draw_Next_m (d_0 : Option Addr) (R : Value → Heap → Prop) (h : Heap) : Prop :=
  Br (Option.isNone d_0)
  (R (.int .u32 (0 : Int)) h)
  (∃ a1 : Addr, (d_0 = some a1) ∧
  ∃ x2 : Int, cellOf h a1 = some (.int .u64 x2) ∧
  ∃ a3 : Addr, (d_0 = some a3) ∧
  Runs Tryz.prog (Instr.storeAt 114 (.pointer (some a3)) (.int .u64 (IntKind.wrap .u64 ((IntKind.wrap .u64 (x2 * (6364136223846793005 : Int))) + (1442695040888963407 : Int))))) h fun _ h1 =>
  ∃ a4 : Addr, (d_0 = some a4) ∧
  ∃ x5 : Int, cellOf h1 a4 = some (.int .u64 x5) ∧
  (0 ≤ (32 : Int)) ∧
  R (.int .u32 (IntKind.wrap .u32 (Int.fdiv x5 (2 ^ min (32 : Int).toNat (IntKind.bits .u64))))) h1)
noncomputable def draw_Draw_Next_ann : Ann := .n
theorem draw_Draw_Next_eq (d_0 : Option Addr) (R : Value → Heap → Prop) (h : Heap) : fnV C Tryz.f90 300 draw_Draw_Next_ann [(.pointer d_0)] R h = draw_Draw_Next_m d_0 R h := by kernel_rfl
theorem draw_Draw_Next_run (d_0 : Option Addr) {R : Value → Heap → Prop} {h : Heap} (hm : draw_Draw_Next_m d_0 R h) : Meets Tryz.prog 90 #[(.pointer d_0)] h R :=
  fn_spec C_ok (f := 90) (fn := Tryz.f90) (args := [(.pointer d_0)]) Tryz.func90 (by rw [Tryz.ntmps90]; exact Nat.le_of_ble_eq_true rfl) (cast (draw_Draw_Next_eq d_0 R h).symm hm)
/-- wellspring/soliton.Draw -/
abbrev soliton_Draw_id : FuncId := 91
noncomputable def soliton_Draw_m (t_0 : Sl) (d_1 : Option Addr) (R : Value → Heap → Prop) (h : Heap) : Prop :=
  Br (((t_0.len : Nat) : Int) == (0 : Int))
  (R (.int .i64 (0 : Int)) h)
  (∃ a1 : Addr, (t_0.ptr = some a1 ∧ 0 ≤ (IntKind.wrap .i64 (((t_0.len : Nat) : Int) - (1 : Int))) ∧ (IntKind.wrap .i64 (((t_0.len : Nat) : Int) - (1 : Int))) < ((t_0.len : Nat) : Int)) ∧
  ∃ x2 : Int, cellOf h (a1.add ((IntKind.wrap .i64 (((t_0.len : Nat) : Int) - (1 : Int))).toNat * 1)) = some (.int .i64 x2) ∧
  CallM Tryz.prog 102 #[(.pointer d_1), (.int .i64 x2)] (.one (.sc (.int .i64))) h fun r3 h1 =>
  CallM Tryz.prog 101 #[(.slice t_0.ptr t_0.len t_0.cap), (.int .i64 r3)] (.one (.sc (.int .i64))) h1 fun r4 h2 =>
  R (.int .i64 r4) h2)
noncomputable def soliton_Draw_ann : Ann := .n
theorem soliton_Draw_eq (t_0 : Sl) (d_1 : Option Addr) (R : Value → Heap → Prop) (h : Heap) : fnV C Tryz.f91 300 soliton_Draw_ann [(.slice t_0.ptr t_0.len t_0.cap), (.pointer d_1)] R h = soliton_Draw_m t_0 d_1 R h := by kernel_rfl
theorem soliton_Draw_run (t_0 : Sl) (d_1 : Option Addr) {R : Value → Heap → Prop} {h : Heap} (hm : soliton_Draw_m t_0 d_1 R h) : Meets Tryz.prog 91 #[(.slice t_0.ptr t_0.len t_0.cap), (.pointer d_1)] h R :=
  fn_spec C_ok (f := 91) (fn := Tryz.f91) (args := [(.slice t_0.ptr t_0.len t_0.cap), (.pointer d_1)]) Tryz.func91 (by rw [Tryz.ntmps91]; exact Nat.le_of_ble_eq_true rfl) (cast (soliton_Draw_eq t_0 d_1 R h).symm hm)
/-- wellspring/soliton.Table -/
abbrev soliton_Table_id : FuncId := 92
noncomputable def soliton_Table_m (l_0 : Int) (R : Value → Heap → Prop) (h : Heap) : Prop :=
  JoinM (σ := Unit) (fun _ h1 =>
  RunsR Tryz.prog (Instr.makeSlice 25 (.int .i64 (0 : Int)) (.int .i64 l_0)) (.one (.sc .slc)) h1 fun v2 h2 =>
  LoopM (σ := Sl × Int × Int) (fun s3 K2 h3 =>
  Br (decide (s3.2.2 ≤ l_0))
  (CallM Tryz.prog 103 #[(.int .i64 l_0), (.int .i64 s3.2.2)] (.one (.sc (.int .i64))) h3 fun r4 h4 =>
  RunsR Tryz.prog (Instr.buildSlice 25 1 #[(0, (.int .i64 (IntKind.wrap .i64 (s3.2.1 + r4))))]) (.one (.sc .slc)) h4 fun v5 h5 =>
  RunsR Tryz.prog (Builtin.append_ #[25, 25] 25 #[(.slice s3.1.ptr s3.1.len s3.1.cap), (.slice v5.ptr v5.len v5.cap)]) (.one (.sc .slc)) h5 fun v6 h6 =>
  K2 ((⟨v6.ptr, v6.len, v6.cap⟩ : Sl), IntKind.wrap .i64 (s3.2.1 + r4), IntKind.wrap .i64 (s3.2.2 + (1 : Int))) h6)
  (R (.slice s3.1.ptr s3.1.len s3.1.cap) h3)) ((⟨v2.ptr, v2.len, v2.cap⟩ : Sl), (0 : Int), (1 : Int)) h2)
  (fun K1 =>
  Br (decide (l_0 < (1 : Int))) (R (.slice none 0 0) h) (Br (decide (l_0 > (64 : Int)))
  (R (.slice none 0 0) h)
  (K1 () h)))
noncomputable def soliton_Table_ann : Ann := (.two .n (.two (.join [] [(2, 3), (6, 12)] .n) (.two .n (.two .n (.two (.two .n (.inn (.loop [(3, (.sc .slc)), (4, (.sc (.int .i64))), (5, (.sc (.int .i64)))] [(3, 6), (14, 28)] .n))) .n)))))
theorem soliton_Table_eq (l_0 : Int) (R : Value → Heap → Prop) (h : Heap) : fnV C Tryz.f92 300 soliton_Table_ann [(.int .i64 l_0)] R h = soliton_Table_m l_0 R h := by kernel_rfl
theorem soliton_Table_run (l_0 : Int) {R : Value → Heap → Prop} {h : Heap} (hm : soliton_Table_m l_0 R h) : Meets Tryz.prog 92 #[(.int .i64 l_0)] h R :=
  fn_spec C_ok (f := 92) (fn := Tryz.f92) (args := [(.int .i64 l_0)]) Tryz.func92 (by rw [Tryz.ntmps92]; exact Nat.le_of_ble_eq_true rfl) (cast (soliton_Table_eq l_0 R h).symm hm)
/-- wellspring/choose.Some -/
abbrev choose_Some_id : FuncId := 93
noncomputable def choose_Some_m (d_0 : Option Addr) (n_1 : Int) (k_2 : Int) (R : Value → Heap → Prop) (h : Heap) : Prop :=
  JoinM (σ := Unit) (fun _ h1 =>
  RunsR Tryz.prog (Instr.makeSlice 25 (.int .i64 n_1) (.int .i64 n_1)) (.one (.sc .slc)) h1 fun v2 h2 =>
  LoopM (σ := Int) (fun s3 K2 h3 =>
  Br (decide (s3 < ((v2.len : Nat) : Int)))
  (∃ a4 : Addr, (v2.ptr = some a4 ∧ 0 ≤ s3 ∧ s3 < ((v2.len : Nat) : Int)) ∧
  Runs Tryz.prog (Instr.storeAt 3 (.pointer (some (a4.add (s3.toNat * 1)))) (.int .i64 s3)) h3 fun _ h4 =>
  K2 (IntKind.wrap .i64 (s3 + (1 : Int))) h4)
  (LoopM (σ := Int) (fun s5 K3 h5 =>
  Br (decide (s5 < k_2))
  (CallM Tryz.prog 102 #[(.pointer d_0), (.int .i64 (IntKind.wrap .i64 (n_1 - s5)))] (.one (.sc (.int .i64))) h5 fun r6 h6 =>
  ∃ a7 : Addr, (v2.ptr = some a7 ∧ 0 ≤ (IntKind.wrap .i64 (s5 + r6)) ∧ (IntKind.wrap .i64 (s5 + r6)) < ((v2.len : Nat) : Int)) ∧
  ∃ x8 : Int, cellOf h6 (a7.add ((IntKind.wrap .i64 (s5 + r6)).toNat * 1)) = some (.int .i64 x8) ∧
  ∃ a9 : Addr, (v2.ptr = some a9 ∧ 0 ≤ s5 ∧ s5 < ((v2.len : Nat) : Int)) ∧
  ∃ x10 : Int, cellOf h6 (a9.add (s5.toNat * 1)) = some (.int .i64 x10) ∧
  ∃ a11 : Addr, (v2.ptr = some a11 ∧ 0 ≤ s5 ∧ s5 < ((v2.len : Nat) : Int)) ∧
  Runs Tryz.prog (Instr.storeAt 3 (.pointer (some (a11.add (s5.toNat * 1)))) (.int .i64 x8)) h6 fun _ h7 =>
  (Held.ok [] h7) ∧
  ∃ a12 : Addr, (v2.ptr = some a12 ∧ 0 ≤ (IntKind.wrap .i64 (s5 + r6)) ∧ (IntKind.wrap .i64 (s5 + r6)) < ((v2.len : Nat) : Int)) ∧
  Runs Tryz.prog (Instr.storeAt 3 (.pointer (some (a12.add ((IntKind.wrap .i64 (s5 + r6)).toNat * 1)))) (.int .i64 x10)) h7 fun _ h8 =>
  (Held.ok [] h8) ∧
  K3 (IntKind.wrap .i64 (s5 + (1 : Int))) h8)
  ((0 ≤ k_2 ∧ k_2 ≤ ((v2.cap : Nat) : Int)) ∧
  CallM Tryz.prog 46 #[(.slice v2.ptr k_2.toNat v2.cap)] (.one (.sc .slc)) h5 fun r13 h9 =>
  CallM Tryz.prog 104 #[(.slice r13.ptr r13.len r13.cap)] (.many []) h9 fun _ h10 =>
  R (.slice r13.ptr r13.len r13.cap) h10)) (0 : Int) h3)) (0 : Int) h2)
  (fun K1 =>
  Br (decide (n_1 < (0 : Int))) (R (.slice none 0 0) h) (Br (decide (n_1 > (64 : Int))) (R (.slice none 0 0) h) (Br (decide (k_2 < (0 : Int))) (R (.slice none 0 0) h) (Br (decide (k_2 > n_1))
  (R (.slice none 0 0) h)
  (K1 () h)))))
noncomputable def choose_Some_ann : Ann := (.two .n (.two (.join [] [(6, 7), (12, 27)] .n) (.two .n (.two (.two .n (.inn (.loop [(31, (.sc (.int .i64)))] [(8, 9), (31, 39)] .n))) (.two (.two .n (.inn (.loop [(40, (.sc (.int .i64)))] [(9, 11), (40, 65)] .n))) .n)))))
theorem choose_Some_eq (d_0 : Option Addr) (n_1 : Int) (k_2 : Int) (R : Value → Heap → Prop) (h : Heap) : fnV C Tryz.f93 300 choose_Some_ann [(.pointer d_0), (.int .i64 n_1), (.int .i64 k_2)] R h = choose_Some_m d_0 n_1 k_2 R h := by kernel_rfl
theorem choose_Some_run (d_0 : Option Addr) (n_1 : Int) (k_2 : Int) {R : Value → Heap → Prop} {h : Heap} (hm : choose_Some_m d_0 n_1 k_2 R h) : Meets Tryz.prog 93 #[(.pointer d_0), (.int .i64 n_1), (.int .i64 k_2)] h R :=
  fn_spec C_ok (f := 93) (fn := Tryz.f93) (args := [(.pointer d_0), (.int .i64 n_1), (.int .i64 k_2)]) Tryz.func93 (by rw [Tryz.ntmps93]; exact Nat.le_of_ble_eq_true rfl) (cast (choose_Some_eq d_0 n_1 k_2 R h).symm hm)
/-- wellspring/wellspringref01.Mul -/
abbrev wellspringref01_Mul_id : FuncId := 94
noncomputable def wellspringref01_Mul_m (a_0 : Int) (b_1 : Int) (R : Value → Heap → Prop) (h : Heap) : Prop :=
  LoopM (σ := Int × Int) (fun s1 K1 h1 =>
  Br (decide (s1.2 < (8 : Int)))
  ((0 ≤ s1.2) ∧
  Br ((IntKind.wrap .u8 ((BitVec.ofInt (IntKind.bits .u8) (Int.fdiv b_1 (2 ^ min s1.2.toNat (IntKind.bits .u8))) &&& (BitVec.ofInt (IntKind.bits .u8) (1 : Int))).toNat : Nat)) == (1 : Int))
  ((0 ≤ s1.2) ∧
  K1 (IntKind.wrap .u16 ((BitVec.ofInt (IntKind.bits .u16) s1.1 ^^^ (BitVec.ofInt (IntKind.bits .u16) (IntKind.wrap .u16 ((IntKind.wrap .u16 a_0) * 2 ^ min s1.2.toNat (IntKind.bits .u16))))).toNat : Nat), IntKind.wrap .i64 (s1.2 + (1 : Int))) h1)
  (K1 (s1.1, IntKind.wrap .i64 (s1.2 + (1 : Int))) h1))
  (LoopM (σ := Int × Int) (fun s2 K2 h2 =>
  Br (decide (s2.2 ≥ (8 : Int)))
  ((0 ≤ s2.2) ∧
  Br ((IntKind.wrap .u16 ((BitVec.ofInt (IntKind.bits .u16) (Int.fdiv s2.1 (2 ^ min s2.2.toNat (IntKind.bits .u16))) &&& (BitVec.ofInt (IntKind.bits .u16) (1 : Int))).toNat : Nat)) == (1 : Int))
  ((0 ≤ (IntKind.wrap .i64 (s2.2 - (8 : Int)))) ∧
  K2 (IntKind.wrap .u16 ((BitVec.ofInt (IntKind.bits .u16) s2.1 ^^^ (BitVec.ofInt (IntKind.bits .u16) (IntKind.wrap .u16 ((283 : Int) * 2 ^ min (IntKind.wrap .i64 (s2.2 - (8 : Int))).toNat (IntKind.bits .u16))))).toNat : Nat), IntKind.wrap .i64 (s2.2 - (1 : Int))) h2)
  (K2 (s2.1, IntKind.wrap .i64 (s2.2 - (1 : Int))) h2))
  (R (.int .u8 (IntKind.wrap .u8 s2.1)) h2)) (s1.1, (15 : Int)) h1)) ((0 : Int), (0 : Int)) h
noncomputable def wellspringref01_Mul_ann : Ann := (.two .n (.two .n (.two (.two .n (.inn (.loop [(5, (.sc (.int .u16))), (6, (.sc (.int .i64)))] [(5, 7), (8, 23)] .n))) (.two (.two .n (.inn (.loop [(5, (.sc (.int .u16))), (7, (.sc (.int .i64)))] [(5, 6), (7, 8), (23, 37)] .n))) .n))))
theorem wellspringref01_Mul_eq (a_0 : Int) (b_1 : Int) (R : Value → Heap → Prop) (h : Heap) : fnV C Tryz.f94 300 wellspringref01_Mul_ann [(.int .u8 a_0), (.int .u8 b_1)] R h = wellspringref01_Mul_m a_0 b_1 R h := by kernel_rfl
theorem wellspringref01_Mul_run (a_0 : Int) (b_1 : Int) {R : Value → Heap → Prop} {h : Heap} (hm : wellspringref01_Mul_m a_0 b_1 R h) : Meets Tryz.prog 94 #[(.int .u8 a_0), (.int .u8 b_1)] h R :=
  fn_spec C_ok (f := 94) (fn := Tryz.f94) (args := [(.int .u8 a_0), (.int .u8 b_1)]) Tryz.func94 (by rw [Tryz.ntmps94]; exact Nat.le_of_ble_eq_true rfl) (cast (wellspringref01_Mul_eq a_0 b_1 R h).symm hm)
/-- (*wellspring/wellspringref01.Draw).Next -/
abbrev wellspringref01_Draw_Next_id : FuncId := 95
noncomputable def wellspringref01_Draw_Next_m (d_0 : Option Addr) (R : Value → Heap → Prop) (h : Heap) : Prop :=
  ∃ a1 : Addr, (d_0 = some a1) ∧
  ∃ x2 : Int, cellOf h a1 = some (.int .u64 x2) ∧
  ∃ a3 : Addr, (d_0 = some a3) ∧
  Runs Tryz.prog (Instr.storeAt 114 (.pointer (some a3)) (.int .u64 (IntKind.wrap .u64 ((IntKind.wrap .u64 (x2 * (6364136223846793005 : Int))) + (1442695040888963407 : Int))))) h fun _ h1 =>
  ∃ a4 : Addr, (d_0 = some a4) ∧
  ∃ x5 : Int, cellOf h1 a4 = some (.int .u64 x5) ∧
  (0 ≤ (32 : Int)) ∧
  R (.int .u32 (IntKind.wrap .u32 (Int.fdiv x5 (2 ^ min (32 : Int).toNat (IntKind.bits .u64))))) h1
noncomputable def wellspringref01_Draw_Next_ann : Ann := .n
theorem wellspringref01_Draw_Next_eq (d_0 : Option Addr) (R : Value → Heap → Prop) (h : Heap) : fnV C Tryz.f95 300 wellspringref01_Draw_Next_ann [(.pointer d_0)] R h = wellspringref01_Draw_Next_m d_0 R h := by kernel_rfl
theorem wellspringref01_Draw_Next_run (d_0 : Option Addr) {R : Value → Heap → Prop} {h : Heap} (hm : wellspringref01_Draw_Next_m d_0 R h) : Meets Tryz.prog 95 #[(.pointer d_0)] h R :=
  fn_spec C_ok (f := 95) (fn := Tryz.f95) (args := [(.pointer d_0)]) Tryz.func95 (by rw [Tryz.ntmps95]; exact Nat.le_of_ble_eq_true rfl) (cast (wellspringref01_Draw_Next_eq d_0 R h).symm hm)
/-- wellspring/wellspringref01.DrawDegree -/
abbrev wellspringref01_DrawDegree_id : FuncId := 96
noncomputable def wellspringref01_DrawDegree_m (t_0 : Sl) (d_1 : Option Addr) (R : Value → Heap → Prop) (h : Heap) : Prop :=
  Br (((t_0.len : Nat) : Int) == (0 : Int))
  (R (.int .i64 (0 : Int)) h)
  (∃ a1 : Addr, (t_0.ptr = some a1 ∧ 0 ≤ (IntKind.wrap .i64 (((t_0.len : Nat) : Int) - (1 : Int))) ∧ (IntKind.wrap .i64 (((t_0.len : Nat) : Int) - (1 : Int))) < ((t_0.len : Nat) : Int)) ∧
  ∃ x2 : Int, cellOf h (a1.add ((IntKind.wrap .i64 (((t_0.len : Nat) : Int) - (1 : Int))).toNat * 1)) = some (.int .i64 x2) ∧
  CallM Tryz.prog 106 #[(.pointer d_1), (.int .i64 x2)] (.one (.sc (.int .i64))) h fun r3 h1 =>
  CallM Tryz.prog 105 #[(.slice t_0.ptr t_0.len t_0.cap), (.int .i64 r3)] (.one (.sc (.int .i64))) h1 fun r4 h2 =>
  R (.int .i64 r4) h2)
noncomputable def wellspringref01_DrawDegree_ann : Ann := .n
theorem wellspringref01_DrawDegree_eq (t_0 : Sl) (d_1 : Option Addr) (R : Value → Heap → Prop) (h : Heap) : fnV C Tryz.f96 300 wellspringref01_DrawDegree_ann [(.slice t_0.ptr t_0.len t_0.cap), (.pointer d_1)] R h = wellspringref01_DrawDegree_m t_0 d_1 R h := by kernel_rfl
theorem wellspringref01_DrawDegree_run (t_0 : Sl) (d_1 : Option Addr) {R : Value → Heap → Prop} {h : Heap} (hm : wellspringref01_DrawDegree_m t_0 d_1 R h) : Meets Tryz.prog 96 #[(.slice t_0.ptr t_0.len t_0.cap), (.pointer d_1)] h R :=
  fn_spec C_ok (f := 96) (fn := Tryz.f96) (args := [(.slice t_0.ptr t_0.len t_0.cap), (.pointer d_1)]) Tryz.func96 (by rw [Tryz.ntmps96]; exact Nat.le_of_ble_eq_true rfl) (cast (wellspringref01_DrawDegree_eq t_0 d_1 R h).symm hm)
/-- wellspring/wellspringref01.Table -/
abbrev wellspringref01_Table_id : FuncId := 97
noncomputable def wellspringref01_Table_m (l_0 : Int) (R : Value → Heap → Prop) (h : Heap) : Prop :=
  JoinM (σ := Unit) (fun _ h1 =>
  LoopM (σ := Int) (fun s2 K2 h2 =>
  Br (decide ((IntKind.wrap .i64 (s2 * s2)) < l_0))
  (K2 (IntKind.wrap .i64 (s2 + (1 : Int))) h2)
  ((s2 ≠ 0) ∧
  LoopM (σ := Int × Int) (fun s3 K3 h3 =>
  Br (decide (s3.2 > (0 : Int)))
  (((2 : Int) ≠ 0) ∧
  K3 (IntKind.wrap .i64 (s3.1 + (1 : Int)), IntKind.wrap .i64 (Int.tdiv s3.2 (2 : Int))) h3)
  (LoopM (σ := Sl × Int × Int) (fun s4 K4 h4 =>
  Br (decide (s4.2.2 ≤ l_0))
  ((l_0 ≠ 0) ∧
  JoinM (σ := Int) (fun s5 h5 =>
  JoinM (σ := Int) (fun s6 h6 =>
  JoinM (σ := Int) (fun s7 h7 =>
  RunsR Tryz.prog (Instr.buildSlice 25 1 #[(0, (.int .i64 (IntKind.wrap .i64 (s4.2.1 + s7))))]) (.one (.sc .slc)) h7 fun v8 h8 =>
  RunsR Tryz.prog (Builtin.append_ #[25, 25] 25 #[(.slice s4.1.ptr s4.1.len s4.1.cap), (.slice v8.ptr v8.len v8.cap)]) (.one (.sc .slc)) h8 fun v9 h9 =>
  K4 ((⟨v9.ptr, v9.len, v9.cap⟩ : Sl), IntKind.wrap .i64 (s4.2.1 + s7), IntKind.wrap .i64 (s4.2.2 + (1 : Int))) h9)
  (fun K7 =>
  Br (s4.2.2 == (IntKind.wrap .i64 (Int.tdiv l_0 s2)))
  ((l_0 ≠ 0) ∧
  K7 (IntKind.wrap .i64 (s6 + (IntKind.wrap .i64 (Int.tdiv (IntKind.wrap .i64 ((IntKind.wrap .i64 ((1048576 : Int) * s2)) * s3.1)) l_0)))) h6)
  (K7 s6 h6)))
  (fun K6 =>
  Br (decide (s4.2.2 < (IntKind.wrap .i64 (Int.tdiv l_0 s2))))
  (((IntKind.wrap .i64 (l_0 * s4.2.2)) ≠ 0) ∧
  K6 (IntKind.wrap .i64 (s5 + (IntKind.wrap .i64 (Int.tdiv (IntKind.wrap .i64 ((1048576 : Int) * s2)) (IntKind.wrap .i64 (l_0 * s4.2.2)))))) h5)
  (K6 s5 h5)))
  (fun K5 =>
  Br (decide (s4.2.2 > (1 : Int)))
  (((IntKind.wrap .i64 (s4.2.2 * (IntKind.wrap .i64 (s4.2.2 - (1 : Int))))) ≠ 0) ∧
  K5 (IntKind.wrap .i64 (Int.tdiv (1048576 : Int) (IntKind.wrap .i64 (s4.2.2 * (IntKind.wrap .i64 (s4.2.2 - (1 : Int))))))) h4)
  (K5 (IntKind.wrap .i64 (Int.tdiv (1048576 : Int) l_0)) h4)))
  (R (.slice s4.1.ptr s4.1.len s4.1.cap) h4)) ((⟨none, 0, 0⟩ : Sl), (0 : Int), (1 : Int)) h3)) ((0 : Int), s2) h2)) (0 : Int) h1)
  (fun K1 =>
  Br (decide (l_0 < (1 : Int))) (R (.slice none 0 0) h) (Br (decide (l_0 > (64 : Int)))
  (R (.slice none 0 0) h)
  (K1 () h)))
noncomputable def wellspringref01_Table_ann : Ann := (.two .n (.two (.join [] [(2, 3), (12, 18)] .n) (.two .n (.two .n (.two (.inn (.loop [(4, (.sc (.int .i64)))] [(4, 5), (18, 25)] .n)) (.two .n (.two (.two .n (.inn (.loop [(6, (.sc (.int .i64))), (7, (.sc (.int .i64)))] [(6, 8), (29, 35)] .n))) (.two .n (.two .n (.two (.two .n (.inn (.loop [(8, (.sc .slc)), (9, (.sc (.int .i64))), (10, (.sc (.int .i64)))] [(8, 12), (35, 82)] (.two .n (.two (.inn (.two .n (.two (.join [(11, (.sc (.int .i64)))] [(11, 12), (43, 51)] .n) (.two (.join [(11, (.sc (.int .i64)))] [(11, 12), (51, 63)] .n) (.two (.join [(11, (.sc (.int .i64)))] [(11, 12), (63, 75)] .n) .n))))) .n))))) .n))))))))))
theorem wellspringref01_Table_eq (l_0 : Int) (R : Value → Heap → Prop) (h : Heap) : fnV C Tryz.f97 300 wellspringref01_Table_ann [(.int .i64 l_0)] R h = wellspringref01_Table_m l_0 R h := by kernel_rfl
theorem wellspringref01_Table_run (l_0 : Int) {R : Value → Heap → Prop} {h : Heap} (hm : wellspringref01_Table_m l_0 R h) : Meets Tryz.prog 97 #[(.int .i64 l_0)] h R :=
  fn_spec C_ok (f := 97) (fn := Tryz.f97) (args := [(.int .i64 l_0)]) Tryz.func97 (by rw [Tryz.ntmps97]; exact Nat.le_of_ble_eq_true rfl) (cast (wellspringref01_Table_eq l_0 R h).symm hm)
/-- wellspring/wellspringref01.Some -/
abbrev wellspringref01_Some_id : FuncId := 98
noncomputable def wellspringref01_Some_m (d_0 : Option Addr) (n_1 : Int) (k_2 : Int) (R : Value → Heap → Prop) (h : Heap) : Prop :=
  JoinM (σ := Unit) (fun _ h1 =>
  LoopM (σ := Sl × Int) (fun s2 K2 h2 =>
  Br (decide (s2.2 < n_1))
  (RunsR Tryz.prog (Instr.buildSlice 25 1 #[(0, (.int .i64 s2.2))]) (.one (.sc .slc)) h2 fun v3 h3 =>
  RunsR Tryz.prog (Builtin.append_ #[25, 25] 25 #[(.slice s2.1.ptr s2.1.len s2.1.cap), (.slice v3.ptr v3.len v3.cap)]) (.one (.sc .slc)) h3 fun v4 h4 =>
  K2 ((⟨v4.ptr, v4.len, v4.cap⟩ : Sl), IntKind.wrap .i64 (s2.2 + (1 : Int))) h4)
  (LoopM (σ := Int) (fun s5 K3 h5 =>
  Br (decide (s5 < k_2))
  (CallM Tryz.prog 106 #[(.pointer d_0), (.int .i64 (IntKind.wrap .i64 (n_1 - s5)))] (.one (.sc (.int .i64))) h5 fun r6 h6 =>
  ∃ a7 : Addr, (s2.1.ptr = some a7 ∧ 0 ≤ (IntKind.wrap .i64 (s5 + r6)) ∧ (IntKind.wrap .i64 (s5 + r6)) < ((s2.1.len : Nat) : Int)) ∧
  ∃ x8 : Int, cellOf h6 (a7.add ((IntKind.wrap .i64 (s5 + r6)).toNat * 1)) = some (.int .i64 x8) ∧
  ∃ a9 : Addr, (s2.1.ptr = some a9 ∧ 0 ≤ s5 ∧ s5 < ((s2.1.len : Nat) : Int)) ∧
  ∃ x10 : Int, cellOf h6 (a9.add (s5.toNat * 1)) = some (.int .i64 x10) ∧
  ∃ a11 : Addr, (s2.1.ptr = some a11 ∧ 0 ≤ s5 ∧ s5 < ((s2.1.len : Nat) : Int)) ∧
  Runs Tryz.prog (Instr.storeAt 3 (.pointer (some (a11.add (s5.toNat * 1)))) (.int .i64 x8)) h6 fun _ h7 =>
  (Held.ok [] h7) ∧
  ∃ a12 : Addr, (s2.1.ptr = some a12 ∧ 0 ≤ (IntKind.wrap .i64 (s5 + r6)) ∧ (IntKind.wrap .i64 (s5 + r6)) < ((s2.1.len : Nat) : Int)) ∧
  Runs Tryz.prog (Instr.storeAt 3 (.pointer (some (a12.add ((IntKind.wrap .i64 (s5 + r6)).toNat * 1)))) (.int .i64 x10)) h7 fun _ h8 =>
  (Held.ok [] h8) ∧
  K3 (IntKind.wrap .i64 (s5 + (1 : Int))) h8)
  ((0 ≤ k_2 ∧ k_2 ≤ ((s2.1.cap : Nat) : Int)) ∧
  LoopM (σ := Int) (fun s13 K4 h9 =>
  Br (decide (s13 < ((k_2.toNat : Nat) : Int)))
  (LoopM (σ := Int) (fun s14 K5 h10 =>
  JoinM (σ := Unit) (fun _ h11 =>
  ∃ a20 : Addr, (s2.1.ptr = some a20 ∧ 0 ≤ (IntKind.wrap .i64 (s14 - (1 : Int))) ∧ (IntKind.wrap .i64 (s14 - (1 : Int))) < ((k_2.toNat : Nat) : Int)) ∧
  ∃ x21 : Int, cellOf h11 (a20.add ((IntKind.wrap .i64 (s14 - (1 : Int))).toNat * 1)) = some (.int .i64 x21) ∧
  ∃ a22 : Addr, (s2.1.ptr = some a22 ∧ 0 ≤ s14 ∧ s14 < ((k_2.toNat : Nat) : Int)) ∧
  ∃ x23 : Int, cellOf h11 (a22.add (s14.toNat * 1)) = some (.int .i64 x23) ∧
  ∃ a24 : Addr, (s2.1.ptr = some a24 ∧ 0 ≤ s14 ∧ s14 < ((k_2.toNat : Nat) : Int)) ∧
  Runs Tryz.prog (Instr.storeAt 3 (.pointer (some (a24.add (s14.toNat * 1)))) (.int .i64 x21)) h11 fun _ h12 =>
  (Held.ok [] h12) ∧
  ∃ a25 : Addr, (s2.1.ptr = some a25 ∧ 0 ≤ (IntKind.wrap .i64 (s14 - (1 : Int))) ∧ (IntKind.wrap .i64 (s14 - (1 : Int))) < ((k_2.toNat : Nat) : Int)) ∧
  Runs Tryz.prog (Instr.storeAt 3 (.pointer (some (a25.add ((IntKind.wrap .i64 (s14 - (1 : Int))).toNat * 1)))) (.int .i64 x23)) h12 fun _ h13 =>
  (Held.ok [] h13) ∧
  K5 (IntKind.wrap .i64 (s14 - (1 : Int))) h13)
  (fun K6 =>
  Br (decide (s14 > (0 : Int))) (∃ a15 : Addr, (s2.1.ptr = some a15 ∧ 0 ≤ s14 ∧ s14 < ((k_2.toNat : Nat) : Int)) ∧
  ∃ x16 : Int, cellOf h10 (a15.add (s14.toNat * 1)) = some (.int .i64 x16) ∧
  ∃ a17 : Addr, (s2.1.ptr = some a17 ∧ 0 ≤ (IntKind.wrap .i64 (s14 - (1 : Int))) ∧ (IntKind.wrap .i64 (s14 - (1 : Int))) < ((k_2.toNat : Nat) : Int)) ∧
  ∃ x18 : Int, cellOf h10 (a17.add ((IntKind.wrap .i64 (s14 - (1 : Int))).toNat * 1)) = some (.int .i64 x18) ∧
  Br (decide (x16 < x18))
  (K6 () h10)
  (K4 (IntKind.wrap .i64 (s13 + (1 : Int))) h10)) (K4 (IntKind.wrap .i64 (s13 + (1 : Int))) h10))) s13 h9)
  (R (.slice s2.1.ptr k_2.toNat s2.1.cap) h9)) (0 : Int) h5)) (0 : Int) h2)) ((⟨none, 0, 0⟩ : Sl), (0 : Int)) h1)
  (fun K1 =>
  Br (decide (n_1 < (0 : Int))) (R (.slice none 0 0) h) (Br (decide (n_1 > (64 : Int))) (R (.slice none 0 0) h) (Br (decide (k_2 < (0 : Int))) (R (.slice none 0 0) h) (Br (decide (k_2 > n_1))
  (R (.slice none 0 0) h)
  (K1 () h)))))
noncomputable def wellspringref01_Some_ann : Ann := (.two .n (.two (.join [] [(6, 7), (13, 28)] .n) (.two .n (.two (.two .n (.inn (.loop [(7, (.sc .slc)), (8, (.sc (.int .i64)))] [(7, 9), (28, 37)] .n))) (.two (.two .n (.inn (.loop [(9, (.sc (.int .i64)))] [(9, 11), (37, 63)] .n))) (.two .n (.two (.two .n (.inn (.loop [(68, (.sc (.int .i64)))] [(11, 13), (68, 105)] (.two .n (.two .n (.two (.inn (.two .n (.two .n (.inn (.loop [(12, (.sc (.int .i64)))] [(12, 13), (72, 104)] (.two (.join [] [(72, 86)] .n) .n)))))) .n)))))) .n)))))))
theorem wellspringref01_Some_eq (d_0 : Option Addr) (n_1 : Int) (k_2 : Int) (R : Value → Heap → Prop) (h : Heap) : fnV C Tryz.f98 300 wellspringref01_Some_ann [(.pointer d_0), (.int .i64 n_1), (.int .i64 k_2)] R h = wellspringref01_Some_m d_0 n_1 k_2 R h := by kernel_rfl
theorem wellspringref01_Some_run (d_0 : Option Addr) (n_1 : Int) (k_2 : Int) {R : Value → Heap → Prop} {h : Heap} (hm : wellspringref01_Some_m d_0 n_1 k_2 R h) : Meets Tryz.prog 98 #[(.pointer d_0), (.int .i64 n_1), (.int .i64 k_2)] h R :=
  fn_spec C_ok (f := 98) (fn := Tryz.f98) (args := [(.pointer d_0), (.int .i64 n_1), (.int .i64 k_2)]) Tryz.func98 (by rw [Tryz.ntmps98]; exact Nat.le_of_ble_eq_true rfl) (cast (wellspringref01_Some_eq d_0 n_1 k_2 R h).symm hm)
/-- wellspring/row.sure -/
abbrev row_sure_id : FuncId := 99
noncomputable def row_sure_m (f_0 : Option Addr) (R : Value → Heap → Prop) (h : Heap) : Prop :=
  Br (Option.isNone f_0)
  (CallM Tryz.prog 28 #[] (.one (.sc .ptr)) h fun r1 h1 =>
  R (.pointer r1) h1)
  (R (.pointer f_0) h)
noncomputable def row_sure_ann : Ann := .n
theorem row_sure_eq (f_0 : Option Addr) (R : Value → Heap → Prop) (h : Heap) : fnV C Tryz.f99 300 row_sure_ann [(.pointer f_0)] R h = row_sure_m f_0 R h := by kernel_rfl
theorem row_sure_run (f_0 : Option Addr) {R : Value → Heap → Prop} {h : Heap} (hm : row_sure_m f_0 R h) : Meets Tryz.prog 99 #[(.pointer f_0)] h R :=
  fn_spec C_ok (f := 99) (fn := Tryz.f99) (args := [(.pointer f_0)]) Tryz.func99 (by rw [Tryz.ntmps99]; exact Nat.le_of_ble_eq_true rfl) (cast (row_sure_eq f_0 R h).symm hm)
/-- (*wellspring/gf.Field).Mul -/
abbrev gf_Field_Mul_id : FuncId := 100
noncomputable def gf_Field_Mul_m (f_0 : Option Addr) (a_1 : Int) (b_2 : Int) (R : Value → Heap → Prop) (h : Heap) : Prop :=
  JoinM (σ := Unit) (fun _ h1 =>
  CallM Tryz.prog 66 #[(.pointer f_0)] (.one (.sc .ptr)) h1 fun r2 h2 =>
  ∃ a3 : Addr, (r2 = some a3) ∧
  (0 ≤ a_1 ∧ a_1 < ((256 : Nat) : Int)) ∧
  ∃ x4 : Int, cellOf h2 ((a3.add 255).add (a_1.toNat * 1)) = some (.int .i64 x4) ∧
  ∃ a5 : Addr, (r2 = some a5) ∧
  (0 ≤ b_2 ∧ b_2 < ((256 : Nat) : Int)) ∧
  ∃ x6 : Int, cellOf h2 ((a5.add 255).add (b_2.toNat * 1)) = some (.int .i64 x6) ∧
  ((255 : Int) ≠ 0) ∧
  ∃ a7 : Addr, (r2 = some a7) ∧
  (0 ≤ (Int.tmod (IntKind.wrap .i64 (x4 + x6)) (255 : Int)) ∧ (Int.tmod (IntKind.wrap .i64 (x4 + x6)) (255 : Int)) < ((255 : Nat) : Int)) ∧
  ∃ x8 : Int, cellOf h2 (a7.add ((Int.tmod (IntKind.wrap .i64 (x4 + x6)) (255 : Int)).toNat * 1)) = some (.int .u8 x8) ∧
  R (.int .u8 x8) h2)
  (fun K1 =>
  Br (a_1 == (0 : Int)) (R (.int .u8 (0 : Int)) h) (Br (b_2 == (0 : Int))
  (R (.int .u8 (0 : Int)) h)
  (K1 () h)))
noncomputable def gf_Field_Mul_ann : Ann := (.two .n (.two (.join [] [(6, 7), (8, 14)] .n) .n))
theorem gf_Field_Mul_eq (f_0 : Option Addr) (a_1 : Int) (b_2 : Int) (R : Value → Heap → Prop) (h : Heap) : fnV C Tryz.f100 300 gf_Field_Mul_ann [(.pointer f_0), (.int .u8 a_1), (.int .u8 b_2)] R h = gf_Field_Mul_m f_0 a_1 b_2 R h := by kernel_rfl
theorem gf_Field_Mul_run (f_0 : Option Addr) (a_1 : Int) (b_2 : Int) {R : Value → Heap → Prop} {h : Heap} (hm : gf_Field_Mul_m f_0 a_1 b_2 R h) : Meets Tryz.prog 100 #[(.pointer f_0), (.int .u8 a_1), (.int .u8 b_2)] h R :=
  fn_spec C_ok (f := 100) (fn := Tryz.f100) (args := [(.pointer f_0), (.int .u8 a_1), (.int .u8 b_2)]) Tryz.func100 (by rw [Tryz.ntmps100]; exact Nat.le_of_ble_eq_true rfl) (cast (gf_Field_Mul_eq f_0 a_1 b_2 R h).symm hm)
/-- wellspring/soliton.Degree -/
abbrev soliton_Degree_id : FuncId := 101
noncomputable def soliton_Degree_m (t_0 : Sl) (x_1 : Int) (R : Value → Heap → Prop) (h : Heap) : Prop :=
  JoinM (σ := Unit) (fun _ h1 =>
  LoopM (σ := Int) (fun s4 K2 h2 =>
  Br (decide (s4 < ((t_0.len : Nat) : Int)))
  (∃ a5 : Addr, (t_0.ptr = some a5 ∧ 0 ≤ s4 ∧ s4 < ((t_0.len : Nat) : Int)) ∧
  ∃ x6 : Int, cellOf h2 (a5.add (s4.toNat * 1)) = some (.int .i64 x6) ∧
  Br (decide (x6 > x_1))
  (R (.int .i64 (IntKind.wrap .i64 (s4 + (1 : Int)))) h2)
  (K2 (IntKind.wrap .i64 (s4 + (1 : Int))) h2))
  (R (.int .i64 (0 : Int)) h2)) (0 : Int) h1)
  (fun K1 =>
  Br (((t_0.len : Nat) : Int) == (0 : Int)) (R (.int .i64 (0 : Int)) h) (Br (decide (x_1 < (0 : Int))) (R (.int .i64 (0 : Int)) h) (∃ a1 : Addr, (t_0.ptr = some a1 ∧ 0 ≤ (IntKind.wrap .i64 (((t_0.len : Nat) : Int) - (1 : Int))) ∧ (IntKind.wrap .i64 (((t_0.len : Nat) : Int) - (1 : Int))) < ((t_0.len : Nat) : Int)) ∧
  ∃ x2 : Int, cellOf h (a1.add ((IntKind.wrap .i64 (((t_0.len : Nat) : Int) - (1 : Int))).toNat * 1)) = some (.int .i64 x2) ∧
  Br (decide (x_1 ≥ x2))
  (R (.int .i64 (0 : Int)) h)
  (K1 () h))))
noncomputable def soliton_Degree_ann : Ann := (.two .n (.two (.join [] [(4, 5), (7, 24)] .n) (.two (.two .n (.inn (.loop [(26, (.sc (.int .i64)))] [(4, 7), (26, 37)] .n))) .n)))
theorem soliton_Degree_eq (t_0 : Sl) (x_1 : Int) (R : Value → Heap → Prop) (h : Heap) : fnV C Tryz.f101 300 soliton_Degree_ann [(.slice t_0.ptr t_0.len t_0.cap), (.int .i64 x_1)] R h = soliton_Degree_m t_0 x_1 R h := by kernel_rfl
theorem soliton_Degree_run (t_0 : Sl) (x_1 : Int) {R : Value → Heap → Prop} {h : Heap} (hm : soliton_Degree_m t_0 x_1 R h) : Meets Tryz.prog 101 #[(.slice t_0.ptr t_0.len t_0.cap), (.int .i64 x_1)] h R :=
  fn_spec C_ok (f := 101) (fn := Tryz.f101) (args := [(.slice t_0.ptr t_0.len t_0.cap), (.int .i64 x_1)]) Tryz.func101 (by rw [Tryz.ntmps101]; exact Nat.le_of_ble_eq_true rfl) (cast (soliton_Degree_eq t_0 x_1 R h).symm hm)
/-- (*wellspring/draw.Draw).Below -/
abbrev draw_Draw_Below_id : FuncId := 102
noncomputable def draw_Draw_Below_m (d_0 : Option Addr) (n_1 : Int) (R : Value → Heap → Prop) (h : Heap) : Prop :=
  JoinM (σ := Unit) (fun _ h1 =>
  CallM Tryz.prog 90 #[(.pointer d_0)] (.one (.sc (.int .u32))) h1 fun r2 h2 =>
  ((IntKind.wrap .u64 n_1) ≠ 0) ∧
  R (.int .i64 (IntKind.wrap .i64 (Int.tmod (IntKind.wrap .u64 r2) (IntKind.wrap .u64 n_1)))) h2)
  (fun K1 =>
  Br (Option.isNone d_0) (R (.int .i64 (0 : Int)) h) (Br (decide (n_1 ≤ (0 : Int)))
  (R (.int .i64 (0 : Int)) h)
  (K1 () h)))
noncomputable def draw_Draw_Below_ann : Ann := (.two .n (.two (.join [] [(4, 11)] .n) .n))
theorem draw_Draw_Below_eq (d_0 : Option Addr) (n_1 : Int) (R : Value → Heap → Prop) (h : Heap) : fnV C Tryz.f102 300 draw_Draw_Below_ann [(.pointer d_0), (.int .i64 n_1)] R h = draw_Draw_Below_m d_0 n_1 R h := by kernel_rfl
theorem draw_Draw_Below_run (d_0 : Option Addr) (n_1 : Int) {R : Value → Heap → Prop} {h : Heap} (hm : draw_Draw_Below_m d_0 n_1 R h) : Meets Tryz.prog 102 #[(.pointer d_0), (.int .i64 n_1)] h R :=
  fn_spec C_ok (f := 102) (fn := Tryz.f102) (args := [(.pointer d_0), (.int .i64 n_1)]) Tryz.func102 (by rw [Tryz.ntmps102]; exact Nat.le_of_ble_eq_true rfl) (cast (draw_Draw_Below_eq d_0 n_1 R h).symm hm)
/-- wellspring/soliton.weight -/
abbrev soliton_weight_id : FuncId := 103
noncomputable def soliton_weight_m (l_0 : Int) (k_1 : Int) (R : Value → Heap → Prop) (h : Heap) : Prop :=
  CallM Tryz.prog 107 #[(.int .i64 l_0)] (.one (.sc (.int .i64))) h fun r1 h1 =>
  (l_0 ≠ 0) ∧
  JoinM (σ := Int) (fun s2 h2 =>
  JoinM (σ := Int) (fun s4 h4 =>
  R (.int .i64 s4) h4)
  (fun K2 =>
  (r1 ≠ 0) ∧
  Br (decide (k_1 < (IntKind.wrap .i64 (Int.tdiv l_0 r1))))
  (((IntKind.wrap .i64 (l_0 * k_1)) ≠ 0) ∧
  K2 (IntKind.wrap .i64 (s2 + (IntKind.wrap .i64 (Int.tdiv (IntKind.wrap .i64 ((1048576 : Int) * r1)) (IntKind.wrap .i64 (l_0 * k_1)))))) h2)
  (Br (k_1 == (IntKind.wrap .i64 (Int.tdiv l_0 r1)))
  (CallM Tryz.prog 108 #[(.int .u64 (IntKind.wrap .u64 r1))] (.one (.sc (.int .i64))) h2 fun r3 h3 =>
  (l_0 ≠ 0) ∧
  K2 (IntKind.wrap .i64 (s2 + (IntKind.wrap .i64 (Int.tdiv (IntKind.wrap .i64 ((IntKind.wrap .i64 ((1048576 : Int) * r1)) * r3)) l_0)))) h3)
  (K2 s2 h2))))
  (fun K1 =>
  Br (decide (k_1 > (1 : Int)))
  (((IntKind.wrap .i64 (k_1 * (IntKind.wrap .i64 (k_1 - (1 : Int))))) ≠ 0) ∧
  K1 (IntKind.wrap .i64 (Int.tdiv (1048576 : Int) (IntKind.wrap .i64 (k_1 * (IntKind.wrap .i64 (k_1 - (1 : Int))))))) h1)
  (K1 (IntKind.wrap .i64 (Int.tdiv (1048576 : Int) l_0)) h1))
noncomputable def soliton_weight_ann : Ann := (.two .n (.two .n (.two .n (.two (.join [(6, (.sc (.int .i64)))] [(6, 7), (12, 19)] .n) (.two (.join [(6, (.sc (.int .i64)))] [(6, 8), (19, 48)] .n) .n)))))
theorem soliton_weight_eq (l_0 : Int) (k_1 : Int) (R : Value → Heap → Prop) (h : Heap) : fnV C Tryz.f103 300 soliton_weight_ann [(.int .i64 l_0), (.int .i64 k_1)] R h = soliton_weight_m l_0 k_1 R h := by kernel_rfl
theorem soliton_weight_run (l_0 : Int) (k_1 : Int) {R : Value → Heap → Prop} {h : Heap} (hm : soliton_weight_m l_0 k_1 R h) : Meets Tryz.prog 103 #[(.int .i64 l_0), (.int .i64 k_1)] h R :=
  fn_spec C_ok (f := 103) (fn := Tryz.f103) (args := [(.int .i64 l_0), (.int .i64 k_1)]) Tryz.func103 (by rw [Tryz.ntmps103]; exact Nat.le_of_ble_eq_true rfl) (cast (soliton_weight_eq l_0 k_1 R h).symm hm)
/-- wellspring/wellspringref01.Degree -/
abbrev wellspringref01_Degree_id : FuncId := 105
noncomputable def wellspringref01_Degree_m (t_0 : Sl) (x_1 : Int) (R : Value → Heap → Prop) (h : Heap) : Prop :=
  LoopM (σ := Int) (fun s1 K1 h1 =>
  JoinM (σ := Unit) (fun _ h2 =>
  ∃ a3 : Addr, (t_0.ptr = some a3 ∧ 0 ≤ s1 ∧ s1 < ((t_0.len : Nat) : Int)) ∧
  ∃ x4 : Int, cellOf h2 (a3.add (s1.toNat * 1)) = some (.int .i64 x4) ∧
  Br (decide (x4 > x_1))
  (R (.int .i64 (IntKind.wrap .i64 (s1 + (1 : Int)))) h2)
  (K1 (IntKind.wrap .i64 (s1 + (1 : Int))) h2))
  (fun K2 =>
  Br (decide (s1 < ((t_0.len : Nat) : Int))) (Br (decide (x_1 ≥ (0 : Int)))
  (K2 () h1)
  (R (.int .i64 (0 : Int)) h1)) (R (.int .i64 (0 : Int)) h1))) (0 : Int) h
noncomputable def wellspringref01_Degree_ann : Ann := (.two .n (.two (.two .n (.inn (.loop [(5, (.sc (.int .i64)))] [(4, 24)] (.two (.join [] [(6, 14)] .n) .n)))) .n))
theorem wellspringref01_Degree_eq (t_0 : Sl) (x_1 : Int) (R : Value → Heap → Prop) (h : Heap) : fnV C Tryz.f105 300 wellspringref01_Degree_ann [(.slice t_0.ptr t_0.len t_0.cap), (.int .i64 x_1)] R h = wellspringref01_Degree_m t_0 x_1 R h := by kernel_rfl
theorem wellspringref01_Degree_run (t_0 : Sl) (x_1 : Int) {R : Value → Heap → Prop} {h : Heap} (hm : wellspringref01_Degree_m t_0 x_1 R h) : Meets Tryz.prog 105 #[(.slice t_0.ptr t_0.len t_0.cap), (.int .i64 x_1)] h R :=
  fn_spec C_ok (f := 105) (fn := Tryz.f105) (args := [(.slice t_0.ptr t_0.len t_0.cap), (.int .i64 x_1)]) Tryz.func105 (by rw [Tryz.ntmps105]; exact Nat.le_of_ble_eq_true rfl) (cast (wellspringref01_Degree_eq t_0 x_1 R h).symm hm)
/-- (*wellspring/wellspringref01.Draw).Below -/
abbrev wellspringref01_Draw_Below_id : FuncId := 106
noncomputable def wellspringref01_Draw_Below_m (d_0 : Option Addr) (n_1 : Int) (R : Value → Heap → Prop) (h : Heap) : Prop :=
  Br (decide (n_1 ≤ (0 : Int)))
  (R (.int .i64 (0 : Int)) h)
  (CallM Tryz.prog 95 #[(.pointer d_0)] (.one (.sc (.int .u32))) h fun r1 h1 =>
  ((IntKind.wrap .u64 n_1) ≠ 0) ∧
  R (.int .i64 (IntKind.wrap .i64 (Int.tmod (IntKind.wrap .u64 r1) (IntKind.wrap .u64 n_1)))) h1)
noncomputable def wellspringref01_Draw_Below_ann : Ann := .n
theorem wellspringref01_Draw_Below_eq (d_0 : Option Addr) (n_1 : Int) (R : Value → Heap → Prop) (h : Heap) : fnV C Tryz.f106 300 wellspringref01_Draw_Below_ann [(.pointer d_0), (.int .i64 n_1)] R h = wellspringref01_Draw_Below_m d_0 n_1 R h := by kernel_rfl
theorem wellspringref01_Draw_Below_run (d_0 : Option Addr) (n_1 : Int) {R : Value → Heap → Prop} {h : Heap} (hm : wellspringref01_Draw_Below_m d_0 n_1 R h) : Meets Tryz.prog 106 #[(.pointer d_0), (.int .i64 n_1)] h R :=
  fn_spec C_ok (f := 106) (fn := Tryz.f106) (args := [(.pointer d_0), (.int .i64 n_1)]) Tryz.func106 (by rw [Tryz.ntmps106]; exact Nat.le_of_ble_eq_true rfl) (cast (wellspringref01_Draw_Below_eq d_0 n_1 R h).symm hm)
/-- wellspring/soliton.root -/
abbrev soliton_root_id : FuncId := 107
noncomputable def soliton_root_m (l_0 : Int) (R : Value → Heap → Prop) (h : Heap) : Prop :=
  LoopM (σ := Int) (fun s1 K1 h1 =>
  Br (decide ((IntKind.wrap .i64 (s1 * s1)) < l_0))
  (K1 (IntKind.wrap .i64 (s1 + (1 : Int))) h1)
  (R (.int .i64 s1) h1)) (0 : Int) h
noncomputable def soliton_root_ann : Ann := (.two .n (.two .n (.two (.inn (.loop [(3, (.sc (.int .i64)))] [(3, 11)] .n)) .n)))
theorem soliton_root_eq (l_0 : Int) (R : Value → Heap → Prop) (h : Heap) : fnV C Tryz.f107 300 soliton_root_ann [(.int .i64 l_0)] R h = soliton_root_m l_0 R h := by kernel_rfl
theorem soliton_root_run (l_0 : Int) {R : Value → Heap → Prop} {h : Heap} (hm : soliton_root_m l_0 R h) : Meets Tryz.prog 107 #[(.int .i64 l_0)] h R :=
  fn_spec C_ok (f := 107) (fn := Tryz.f107) (args := [(.int .i64 l_0)]) Tryz.func107 (by rw [Tryz.ntmps107]; exact Nat.le_of_ble_eq_true rfl) (cast (soliton_root_eq l_0 R h).symm hm)
end Go.Proofs.YtmadbodaleaaeaaGreat
