/- Part of the proofs that wellspringlaw27's laws answer true whatever the input reads, and leave it as it was; no condition. -/
import Derived.Test.YtmadbodaleaaeaaTabA
set_option linter.unusedVariables false
set_option linter.unusedSimpArgs false
namespace Go.Proofs.Ytmadbodaleaaeaa
open Go Go.Vc Go.Proofs
set_option maxRecDepth 1000000

/-- wellspring/pre.Rows -/
abbrev pre_Rows_id : FuncId := 22
noncomputable def pre_Rows_m (p_0 : Int × Int × Int) (R : Value → Heap → Prop) (h : Heap) : Prop :=
  RunsA Try.prog (Instr.box 24 (.agg #[(.int .i64 p_0.1), (.int .i64 p_0.2.1), (.int .i64 p_0.2.2)])) h fun a1 h1 =>
  ∃ x2 : Int × Int × Int, cellsAt h1 a1 0 [(.int .i64 x2.1), (.int .i64 x2.2.1), (.int .i64 x2.2.2)] ∧
  CallM Try.prog 19 #[(.agg #[(.int .i64 x2.1), (.int .i64 x2.2.1), (.int .i64 x2.2.2)])] (.one (.sc .bool)) h1 fun r3 h2 =>
  Br (!r3)
  (R (.slice none 0 0) h2)
  (CallM Try.prog 21 #[] (.one (.sc .ptr)) h2 fun r4 h3 =>
  ∃ x5 : Int, cellOf h3 (a1.add 1) = some (.int .i64 x5) ∧
  LoopM (σ := Sl × Int) (fun s6 K1 h4 =>
  Br (decide (s6.2 < x5))
  (JoinM (σ := Sl) (fun s11 h7 =>
  ∃ x12 : Int, cellOf h7 a1 = some (.int .i64 x12) ∧
  LoopM (σ := Int) (fun s13 K3 h8 =>
  Br (decide (s13 < x12))
  (CallM Try.prog 38 #[(.pointer r4), (.int .i64 (IntKind.wrap .i64 ((IntKind.wrap .i64 (s6.2 + (1 : Int))) * (IntKind.wrap .i64 (s13 + (1 : Int))))))] (.one (.sc (.int .u8))) h8 fun r14 h9 =>
  ∃ a15 : Addr, (s11.ptr = some a15 ∧ 0 ≤ s13 ∧ s13 < ((s11.len : Nat) : Int)) ∧
  Runs Try.prog (Instr.storeAt 5 (.pointer (some (a15.add (s13.toNat * 1)))) (.int .u8 r14)) h9 fun _ h10 =>
  K3 (IntKind.wrap .i64 (s13 + (1 : Int))) h10)
  (RunsR Try.prog (Instr.buildSlice 52 1 #[(0, (.slice s11.ptr s11.len s11.cap))]) (.one (.sc .slc)) h8 fun v16 h11 =>
  RunsR Try.prog (Builtin.append_ #[52, 52] 52 #[(.slice s6.1.ptr s6.1.len s6.1.cap), (.slice v16.ptr v16.len v16.cap)]) (.one (.sc .slc)) h11 fun v17 h12 =>
  K1 ((⟨v17.ptr, v17.len, v17.cap⟩ : Sl), IntKind.wrap .i64 (s6.2 + (1 : Int))) h12)) (0 : Int) h7)
  (fun K2 =>
  ∃ x7 : Int × Int × Int, cellsAt h4 a1 0 [(.int .i64 x7.1), (.int .i64 x7.2.1), (.int .i64 x7.2.2)] ∧
  ∃ x8 : Int, cellOf h4 a1 = some (.int .i64 x8) ∧
  CallM Try.prog 18 #[(.agg #[(.int .i64 x7.1), (.int .i64 x7.2.1), (.int .i64 x7.2.2)])] (.one (.sc (.int .i64))) h4 fun r9 h5 =>
  (Held.ok [(a1, (.int .i64 x8))] h5) ∧
  CallM Try.prog 37 #[(.int .i64 r9), (.int .i64 (IntKind.wrap .i64 (x8 + s6.2)))] (.one (.sc .slc)) h5 fun r10 h6 =>
  (Held.ok [(a1, (.int .i64 x8))] h6) ∧
  K2 (⟨r10.ptr, r10.len, r10.cap⟩ : Sl) h6))
  (R (.slice s6.1.ptr s6.1.len s6.1.cap) h4)) ((⟨none, 0, 0⟩ : Sl), (0 : Int)) h3)
noncomputable def pre_Rows_ann : Ann := (.two .n (.two .n (.two .n (.two .n (.two (.two .n (.inn (.loop [(4, (.sc .slc)), (14, (.sc (.int .i64)))] [(4, 8), (14, 45)] (.two .n (.two .n (.two (.inn (.two .n (.two (.join [(6, (.sc .slc))] [(6, 7), (17, 24)] .n) (.two (.two .n (.inn (.loop [(26, (.sc (.int .i64)))] [(7, 8), (26, 40)] .n))) .n)))) .n)))))) .n)))))
theorem pre_Rows_eq (p_0 : Int × Int × Int) (R : Value → Heap → Prop) (h : Heap) : fnV C Try.f22 300 pre_Rows_ann [(.agg #[(.int .i64 p_0.1), (.int .i64 p_0.2.1), (.int .i64 p_0.2.2)])] R h = pre_Rows_m p_0 R h := by kernel_rfl
theorem pre_Rows_run (p_0 : Int × Int × Int) {R : Value → Heap → Prop} {h : Heap} (hm : pre_Rows_m p_0 R h) : Meets Try.prog 22 #[(.agg #[(.int .i64 p_0.1), (.int .i64 p_0.2.1), (.int .i64 p_0.2.2)])] h R :=
  fn_spec C_ok (f := 22) (fn := Try.f22) (args := [(.agg #[(.int .i64 p_0.1), (.int .i64 p_0.2.1), (.int .i64 p_0.2.2)])]) Try.func22 (by rw [Try.ntmps22]; exact Nat.le_of_ble_eq_true rfl) (cast (pre_Rows_eq p_0 R h).symm hm)
/-- (*wellspring/span.Span).Add -/
abbrev span_Span_Add_id : FuncId := 23
noncomputable def span_Span_Add_m (s_0 : Option Addr) (r_1 : Sl) (R : Value → Heap → Prop) (h : Heap) : Prop :=
  CallM Try.prog 39 #[(.pointer s_0), (.slice r_1.ptr r_1.len r_1.cap)] (.many [(.sc .slc), (.sc .bool)]) h fun r1 h1 =>
  JoinM (σ := Unit) (fun _ h3 =>
  ∃ a4 : Addr, (s_0 = some a4) ∧
  ∃ x5 : Option Addr, cellOf h3 a4 = some (.pointer x5) ∧
  ∃ a6 : Addr, (s_0 = some a6) ∧
  ∃ x7 : Sl, cellOf h3 (a6.add 2) = some (.slice x7.ptr x7.len x7.cap) ∧
  RunsR Try.prog (Instr.buildSlice 52 1 #[(0, (.slice r1.1.ptr r1.1.len r1.1.cap))]) (.one (.sc .slc)) h3 fun v8 h4 =>
  (Held.ok [(a6.add 2, (.slice x7.ptr x7.len x7.cap)), (a4, (.pointer x5))] h4) ∧
  RunsR Try.prog (Builtin.append_ #[52, 52] 52 #[(.slice x7.ptr x7.len x7.cap), (.slice v8.ptr v8.len v8.cap)]) (.one (.sc .slc)) h4 fun v9 h5 =>
  (Held.ok [(a4, (.pointer x5))] h5) ∧
  CallM Try.prog 41 #[(.pointer x5), (.slice v9.ptr v9.len v9.cap)] (.one (.sc .slc)) h5 fun r10 h6 =>
  (Held.ok [] h6) ∧
  ∃ a11 : Addr, (s_0 = some a11) ∧
  Runs Try.prog (Instr.storeAt 52 (.pointer (some (a11.add 2))) (.slice r10.ptr r10.len r10.cap)) h6 fun _ h7 =>
  (Held.ok [] h7) ∧
  R (.bool true) h7)
  (fun K1 =>
  Br (!r1.2) (R (.bool false) h1) (CallM Try.prog 40 #[(.slice r1.1.ptr r1.1.len r1.1.cap)] (.one (.sc (.int .i64))) h1 fun r2 h2 =>
  Br (decide (r2 < (0 : Int)))
  (R (.bool false) h2)
  (K1 () h2)))
noncomputable def span_Span_Add_ann : Ann := (.two .n (.two .n (.two (.join [] [(4, 5), (13, 20)] .n) .n)))
theorem span_Span_Add_eq (s_0 : Option Addr) (r_1 : Sl) (R : Value → Heap → Prop) (h : Heap) : fnV C Try.f23 300 span_Span_Add_ann [(.pointer s_0), (.slice r_1.ptr r_1.len r_1.cap)] R h = span_Span_Add_m s_0 r_1 R h := by kernel_rfl
theorem span_Span_Add_run (s_0 : Option Addr) (r_1 : Sl) {R : Value → Heap → Prop} {h : Heap} (hm : span_Span_Add_m s_0 r_1 R h) : Meets Try.prog 23 #[(.pointer s_0), (.slice r_1.ptr r_1.len r_1.cap)] h R :=
  fn_spec C_ok (f := 23) (fn := Try.f23) (args := [(.pointer s_0), (.slice r_1.ptr r_1.len r_1.cap)]) Try.func23 (by rw [Try.ntmps23]; exact Nat.le_of_ble_eq_true rfl) (cast (span_Span_Add_eq s_0 r_1 R h).symm hm)
/-- wellspring/margin.rows -/
abbrev margin_rows_id : FuncId := 24
noncomputable def margin_rows_m (p_0 : Int × Int × Int) (seed_1 : Int) (where_2 : Sl) (R : Value → Heap → Prop) (h : Heap) : Prop :=
  RunsA Try.prog (Instr.box 24 (.agg #[(.int .i64 p_0.1), (.int .i64 p_0.2.1), (.int .i64 p_0.2.2)])) h fun a1 h1 =>
  LoopM (σ := Sl × Int) (fun s2 K1 h2 =>
  Br (decide (s2.2 < ((where_2.len : Nat) : Int)))
  (∃ a3 : Addr, (where_2.ptr = some a3 ∧ 0 ≤ s2.2 ∧ s2.2 < ((where_2.len : Nat) : Int)) ∧
  ∃ x4 : Sl, cellOf h2 (a3.add (s2.2.toNat * 1)) = some (.slice x4.ptr x4.len x4.cap) ∧
  LoopM (σ := Sl × Int) (fun s5 K2 h3 =>
  Br (decide (s5.2 < ((x4.len : Nat) : Int)))
  (∃ a6 : Addr, (x4.ptr = some a6 ∧ 0 ≤ s5.2 ∧ s5.2 < ((x4.len : Nat) : Int)) ∧
  ∃ x7 : Int, cellOf h3 (a6.add (s5.2.toNat * 1)) = some (.int .i64 x7) ∧
  ∃ x8 : Int × Int × Int, cellsAt h3 a1 0 [(.int .i64 x8.1), (.int .i64 x8.2.1), (.int .i64 x8.2.2)] ∧
  CallM Try.prog 42 #[(.agg #[(.int .i64 x8.1), (.int .i64 x8.2.1), (.int .i64 x8.2.2)]), (.int .u32 seed_1), (.int .i64 x7)] (.one (.sc .slc)) h3 fun r9 h4 =>
  Br (!(Option.isNone r9.ptr))
  (RunsR Try.prog (Instr.buildSlice 52 1 #[(0, (.slice r9.ptr r9.len r9.cap))]) (.one (.sc .slc)) h4 fun v10 h5 =>
  RunsR Try.prog (Builtin.append_ #[52, 52] 52 #[(.slice s5.1.ptr s5.1.len s5.1.cap), (.slice v10.ptr v10.len v10.cap)]) (.one (.sc .slc)) h5 fun v11 h6 =>
  K2 ((⟨v11.ptr, v11.len, v11.cap⟩ : Sl), IntKind.wrap .i64 (s5.2 + (1 : Int))) h6)
  (K2 ((⟨s5.1.ptr, s5.1.len, s5.1.cap⟩ : Sl), IntKind.wrap .i64 (s5.2 + (1 : Int))) h4))
  (RunsR Try.prog (Instr.buildSlice 56 1 #[(0, (.slice s5.1.ptr s5.1.len s5.1.cap))]) (.one (.sc .slc)) h3 fun v12 h7 =>
  RunsR Try.prog (Builtin.append_ #[56, 56] 56 #[(.slice s2.1.ptr s2.1.len s2.1.cap), (.slice v12.ptr v12.len v12.cap)]) (.one (.sc .slc)) h7 fun v13 h8 =>
  K1 ((⟨v13.ptr, v13.len, v13.cap⟩ : Sl), IntKind.wrap .i64 (s2.2 + (1 : Int))) h8)) ((⟨none, 0, 0⟩ : Sl), (0 : Int)) h2)
  (R (.slice s2.1.ptr s2.1.len s2.1.cap) h2)) ((⟨none, 0, 0⟩ : Sl), (0 : Int)) h1
noncomputable def margin_rows_ann : Ann := (.two .n (.two .n (.two (.two .n (.inn (.loop [(7, (.sc .slc)), (16, (.sc (.int .i64)))] [(7, 8), (9, 11), (12, 14), (16, 42)] (.two .n (.two .n (.two (.inn (.two .n (.two .n (.two (.two .n (.inn (.loop [(10, (.sc .slc)), (22, (.sc (.int .i64)))] [(10, 11), (12, 14), (22, 37)] .n))) .n)))) .n)))))) .n)))
theorem margin_rows_eq (p_0 : Int × Int × Int) (seed_1 : Int) (where_2 : Sl) (R : Value → Heap → Prop) (h : Heap) : fnV C Try.f24 300 margin_rows_ann [(.agg #[(.int .i64 p_0.1), (.int .i64 p_0.2.1), (.int .i64 p_0.2.2)]), (.int .u32 seed_1), (.slice where_2.ptr where_2.len where_2.cap)] R h = margin_rows_m p_0 seed_1 where_2 R h := by kernel_rfl
theorem margin_rows_run (p_0 : Int × Int × Int) (seed_1 : Int) (where_2 : Sl) {R : Value → Heap → Prop} {h : Heap} (hm : margin_rows_m p_0 seed_1 where_2 R h) : Meets Try.prog 24 #[(.agg #[(.int .i64 p_0.1), (.int .i64 p_0.2.1), (.int .i64 p_0.2.2)]), (.int .u32 seed_1), (.slice where_2.ptr where_2.len where_2.cap)] h R :=
  fn_spec C_ok (f := 24) (fn := Try.f24) (args := [(.agg #[(.int .i64 p_0.1), (.int .i64 p_0.2.1), (.int .i64 p_0.2.2)]), (.int .u32 seed_1), (.slice where_2.ptr where_2.len where_2.cap)]) Try.func24 (by rw [Try.ntmps24]; exact Nat.le_of_ble_eq_true rfl) (cast (margin_rows_eq p_0 seed_1 where_2 R h).symm hm)
/-- wellspring/margin.full -/
abbrev margin_full_id : FuncId := 25
noncomputable def margin_full_m (ahead_0 : Option Addr) (l_1 : Sl) (gone_2 : Sl) (cols_3 : Int) (R : Value → Heap → Prop) (h : Heap) : Prop :=
  CallM Try.prog 43 #[(.pointer ahead_0)] (.one (.sc .ptr)) h fun r1 h1 =>
  LoopM (σ := Int) (fun s2 K1 h2 =>
  Br (decide (s2 < ((l_1.len : Nat) : Int)))
  (∃ a3 : Addr, (l_1.ptr = some a3 ∧ 0 ≤ s2 ∧ s2 < ((l_1.len : Nat) : Int)) ∧
  ∃ x4 : Sl, cellOf h2 (a3.add (s2.toNat * 1)) = some (.slice x4.ptr x4.len x4.cap) ∧
  CallM Try.prog 26 #[(.slice gone_2.ptr gone_2.len gone_2.cap), (.int .i64 s2)] (.one (.sc .bool)) h2 fun r5 h3 =>
  Br r5
  (K1 (IntKind.wrap .i64 (s2 + (1 : Int))) h3)
  (LoopM (σ := Int) (fun s6 K2 h4 =>
  Br (decide (s6 < ((x4.len : Nat) : Int)))
  (∃ a7 : Addr, (x4.ptr = some a7 ∧ 0 ≤ s6 ∧ s6 < ((x4.len : Nat) : Int)) ∧
  ∃ x8 : Sl, cellOf h4 (a7.add (s6.toNat * 1)) = some (.slice x8.ptr x8.len x8.cap) ∧
  CallM Try.prog 44 #[(.pointer r1)] (.one (.sc (.int .i64))) h4 fun r9 h5 =>
  Br (r9 == cols_3)
  (R (.bool true) h5)
  (CallM Try.prog 23 #[(.pointer r1), (.slice x8.ptr x8.len x8.cap)] (.one (.sc .bool)) h5 fun _ h6 =>
  K2 (IntKind.wrap .i64 (s6 + (1 : Int))) h6))
  (K1 (IntKind.wrap .i64 (s2 + (1 : Int))) h4)) (0 : Int) h3))
  (CallM Try.prog 44 #[(.pointer r1)] (.one (.sc (.int .i64))) h2 fun r11 h7 =>
  R (.bool (r11 == cols_3)) h7)) (0 : Int) h1
noncomputable def margin_full_ann : Ann := (.two .n (.two .n (.two (.two .n (.inn (.loop [(18, (.sc (.int .i64)))] [(8, 9), (10, 12), (13, 14), (18, 41)] (.two .n (.two .n (.two (.inn (.two .n (.two .n (.two .n (.inn (.loop [(28, (.sc (.int .i64)))] [(8, 9), (13, 14), (28, 40)] .n)))))) .n)))))) .n)))
theorem margin_full_eq (ahead_0 : Option Addr) (l_1 : Sl) (gone_2 : Sl) (cols_3 : Int) (R : Value → Heap → Prop) (h : Heap) : fnV C Try.f25 300 margin_full_ann [(.pointer ahead_0), (.slice l_1.ptr l_1.len l_1.cap), (.slice gone_2.ptr gone_2.len gone_2.cap), (.int .i64 cols_3)] R h = margin_full_m ahead_0 l_1 gone_2 cols_3 R h := by kernel_rfl
theorem margin_full_run (ahead_0 : Option Addr) (l_1 : Sl) (gone_2 : Sl) (cols_3 : Int) {R : Value → Heap → Prop} {h : Heap} (hm : margin_full_m ahead_0 l_1 gone_2 cols_3 R h) : Meets Try.prog 25 #[(.pointer ahead_0), (.slice l_1.ptr l_1.len l_1.cap), (.slice gone_2.ptr gone_2.len gone_2.cap), (.int .i64 cols_3)] h R :=
  fn_spec C_ok (f := 25) (fn := Try.f25) (args := [(.pointer ahead_0), (.slice l_1.ptr l_1.len l_1.cap), (.slice gone_2.ptr gone_2.len gone_2.cap), (.int .i64 cols_3)]) Try.func25 (by rw [Try.ntmps25]; exact Nat.le_of_ble_eq_true rfl) (cast (margin_full_eq ahead_0 l_1 gone_2 cols_3 R h).symm hm)
/-- slices.Contains[[]int,int] -/
abbrev slices_Contains_int_int_id : FuncId := 26
noncomputable def slices_Contains_int_int_m (s_0 : Sl) (v_1 : Int) (R : Value → Heap → Prop) (h : Heap) : Prop :=
  CallM Try.prog 45 #[(.slice s_0.ptr s_0.len s_0.cap), (.int .i64 v_1)] (.one (.sc (.int .i64))) h fun r1 h1 =>
  R (.bool (decide (r1 ≥ (0 : Int)))) h1
noncomputable def slices_Contains_int_int_ann : Ann := .n
theorem slices_Contains_int_int_eq (s_0 : Sl) (v_1 : Int) (R : Value → Heap → Prop) (h : Heap) : fnV C Try.f26 300 slices_Contains_int_int_ann [(.slice s_0.ptr s_0.len s_0.cap), (.int .i64 v_1)] R h = slices_Contains_int_int_m s_0 v_1 R h := by kernel_rfl
theorem slices_Contains_int_int_run (s_0 : Sl) (v_1 : Int) {R : Value → Heap → Prop} {h : Heap} (hm : slices_Contains_int_int_m s_0 v_1 R h) : Meets Try.prog 26 #[(.slice s_0.ptr s_0.len s_0.cap), (.int .i64 v_1)] h R :=
  fn_spec C_ok (f := 26) (fn := Try.f26) (args := [(.slice s_0.ptr s_0.len s_0.cap), (.int .i64 v_1)]) Try.func26 (by rw [Try.ntmps26]; exact Nat.le_of_ble_eq_true rfl) (cast (slices_Contains_int_int_eq s_0 v_1 R h).symm hm)
/-- wellspring/system.Rank -/
abbrev system_Rank_id : FuncId := 27
noncomputable def system_Rank_m (p_0 : Int × Int × Int) (seed_1 : Int) (ids_2 : Sl) (R : Value → Heap → Prop) (h : Heap) : Prop :=
  RunsA Try.prog (Instr.box 24 (.agg #[(.int .i64 p_0.1), (.int .i64 p_0.2.1), (.int .i64 p_0.2.2)])) h fun a1 h1 =>
  ∃ x2 : Int × Int × Int, cellsAt h1 a1 0 [(.int .i64 x2.1), (.int .i64 x2.2.1), (.int .i64 x2.2.2)] ∧
  CallM Try.prog 21 #[] (.one (.sc .ptr)) h1 fun r3 h2 =>
  (Held.ok [(a1, (.int .i64 x2.1)), (a1.add 1, (.int .i64 x2.2.1)), (a1.add 2, (.int .i64 x2.2.2))] h2) ∧
  CallM Try.prog 47 #[(.agg #[(.int .i64 x2.1), (.int .i64 x2.2.1), (.int .i64 x2.2.2)]), (.int .u32 seed_1), (.slice ids_2.ptr ids_2.len ids_2.cap)] (.one (.sc .slc)) h2 fun r4 h3 =>
  (Held.ok [] h3) ∧
  CallM Try.prog 46 #[(.pointer r3), (.slice r4.ptr r4.len r4.cap)] (.one (.sc (.int .i64))) h3 fun r5 h4 =>
  (Held.ok [] h4) ∧
  R (.int .i64 r5) h4
noncomputable def system_Rank_ann : Ann := .n
theorem system_Rank_eq (p_0 : Int × Int × Int) (seed_1 : Int) (ids_2 : Sl) (R : Value → Heap → Prop) (h : Heap) : fnV C Try.f27 300 system_Rank_ann [(.agg #[(.int .i64 p_0.1), (.int .i64 p_0.2.1), (.int .i64 p_0.2.2)]), (.int .u32 seed_1), (.slice ids_2.ptr ids_2.len ids_2.cap)] R h = system_Rank_m p_0 seed_1 ids_2 R h := by kernel_rfl
theorem system_Rank_run (p_0 : Int × Int × Int) (seed_1 : Int) (ids_2 : Sl) {R : Value → Heap → Prop} {h : Heap} (hm : system_Rank_m p_0 seed_1 ids_2 R h) : Meets Try.prog 27 #[(.agg #[(.int .i64 p_0.1), (.int .i64 p_0.2.1), (.int .i64 p_0.2.2)]), (.int .u32 seed_1), (.slice ids_2.ptr ids_2.len ids_2.cap)] h R :=
  fn_spec C_ok (f := 27) (fn := Try.f27) (args := [(.agg #[(.int .i64 p_0.1), (.int .i64 p_0.2.1), (.int .i64 p_0.2.2)]), (.int .u32 seed_1), (.slice ids_2.ptr ids_2.len ids_2.cap)]) Try.func27 (by rw [Try.ntmps27]; exact Nat.le_of_ble_eq_true rfl) (cast (system_Rank_eq p_0 seed_1 ids_2 R h).symm hm)
/-- wellspring/system.Right -/
abbrev system_Right_id : FuncId := 28
noncomputable def system_Right_m (p_0 : Int × Int × Int) (seed_1 : Int) (R : Value → Heap → Prop) (h : Heap) : Prop :=
  RunsA Try.prog (Instr.box 24 (.agg #[(.int .i64 p_0.1), (.int .i64 p_0.2.1), (.int .i64 p_0.2.2)])) h fun a1 h1 =>
  ∃ x2 : Int × Int × Int, cellsAt h1 a1 0 [(.int .i64 x2.1), (.int .i64 x2.2.1), (.int .i64 x2.2.2)] ∧
  ∃ x3 : Int × Int × Int, cellsAt h1 a1 0 [(.int .i64 x3.1), (.int .i64 x3.2.1), (.int .i64 x3.2.2)] ∧
  CallM Try.prog 48 #[(.agg #[(.int .i64 x3.1), (.int .i64 x3.2.1), (.int .i64 x3.2.2)])] (.one (.sc .slc)) h1 fun r4 h2 =>
  (Held.ok [(a1, (.int .i64 x2.1)), (a1.add 1, (.int .i64 x2.2.1)), (a1.add 2, (.int .i64 x2.2.2))] h2) ∧
  CallM Try.prog 15 #[(.agg #[(.int .i64 x2.1), (.int .i64 x2.2.1), (.int .i64 x2.2.2)]), (.int .u32 seed_1), (.slice r4.ptr r4.len r4.cap)] (.one (.sc .bool)) h2 fun r5 h3 =>
  (Held.ok [] h3) ∧
  R (.bool r5) h3
noncomputable def system_Right_ann : Ann := .n
theorem system_Right_eq (p_0 : Int × Int × Int) (seed_1 : Int) (R : Value → Heap → Prop) (h : Heap) : fnV C Try.f28 300 system_Right_ann [(.agg #[(.int .i64 p_0.1), (.int .i64 p_0.2.1), (.int .i64 p_0.2.2)]), (.int .u32 seed_1)] R h = system_Right_m p_0 seed_1 R h := by kernel_rfl
theorem system_Right_run (p_0 : Int × Int × Int) (seed_1 : Int) {R : Value → Heap → Prop} {h : Heap} (hm : system_Right_m p_0 seed_1 R h) : Meets Try.prog 28 #[(.agg #[(.int .i64 p_0.1), (.int .i64 p_0.2.1), (.int .i64 p_0.2.2)]), (.int .u32 seed_1)] h R :=
  fn_spec C_ok (f := 28) (fn := Try.f28) (args := [(.agg #[(.int .i64 p_0.1), (.int .i64 p_0.2.1), (.int .i64 p_0.2.2)]), (.int .u32 seed_1)]) Try.func28 (by rw [Try.ntmps28]; exact Nat.le_of_ble_eq_true rfl) (cast (system_Right_eq p_0 seed_1 R h).symm hm)
/-- wellspring/wellspringlaw10.IDs -/
abbrev wellspringlaw10_IDs_id : FuncId := 29
noncomputable def wellspringlaw10_IDs_m (l_0 : Sl) (most_1 : Int) (R : Value → Heap → Prop) (h : Heap) : Prop :=
  JoinM (σ := Sl) (fun s19 h11 =>
  R (.slice s19.ptr s19.len s19.cap) h11)
  (fun K1 =>
  LoopM (σ := Sl × Int) (fun s1 K2 h1 =>
  JoinM (σ := Unit) (fun _ h2 =>
  ∃ a3 : Addr, (l_0.ptr = some a3 ∧ 0 ≤ s1.2 ∧ s1.2 < ((l_0.len : Nat) : Int)) ∧
  ∃ x4 : Int, cellOf h2 (a3.add (s1.2.toNat * 1)) = some (.int .i64 x4) ∧
  ((7 : Int) ≠ 0) ∧
  Br ((Int.tmod x4 (7 : Int)) == (5 : Int))
  (∃ a5 : Addr, (l_0.ptr = some a5 ∧ 0 ≤ s1.2 ∧ s1.2 < ((l_0.len : Nat) : Int)) ∧
  ∃ x6 : Int, cellOf h2 (a5.add (s1.2.toNat * 1)) = some (.int .i64 x6) ∧
  ((7 : Int) ≠ 0) ∧
  CallM Try.prog 7 #[(.int .i64 (IntKind.wrap .i64 (Int.tdiv x6 (7 : Int)))), (.int .i64 (65536 : Int))] (.one (.sc (.int .i64))) h2 fun r7 h3 =>
  RunsR Try.prog (Instr.buildSlice 28 1 #[(0, (.int .i64 r7))]) (.one (.sc .slc)) h3 fun v8 h4 =>
  RunsR Try.prog (Builtin.append_ #[28, 28] 28 #[(.slice s1.1.ptr s1.1.len s1.1.cap), (.slice v8.ptr v8.len v8.cap)]) (.one (.sc .slc)) h4 fun v9 h5 =>
  K2 ((⟨v9.ptr, v9.len, v9.cap⟩ : Sl), IntKind.wrap .i64 (s1.2 + (1 : Int))) h5)
  (Br ((Int.tmod x4 (7 : Int)) == (6 : Int))
  (∃ a10 : Addr, (l_0.ptr = some a10 ∧ 0 ≤ s1.2 ∧ s1.2 < ((l_0.len : Nat) : Int)) ∧
  ∃ x11 : Int, cellOf h2 (a10.add (s1.2.toNat * 1)) = some (.int .i64 x11) ∧
  RunsR Try.prog (Instr.buildSlice 28 1 #[(0, (.int .i64 x11))]) (.one (.sc .slc)) h2 fun v12 h6 =>
  RunsR Try.prog (Builtin.append_ #[28, 28] 28 #[(.slice s1.1.ptr s1.1.len s1.1.cap), (.slice v12.ptr v12.len v12.cap)]) (.one (.sc .slc)) h6 fun v13 h7 =>
  K2 ((⟨v13.ptr, v13.len, v13.cap⟩ : Sl), IntKind.wrap .i64 (s1.2 + (1 : Int))) h7)
  (∃ a14 : Addr, (l_0.ptr = some a14 ∧ 0 ≤ s1.2 ∧ s1.2 < ((l_0.len : Nat) : Int)) ∧
  ∃ x15 : Int, cellOf h2 (a14.add (s1.2.toNat * 1)) = some (.int .i64 x15) ∧
  ((7 : Int) ≠ 0) ∧
  CallM Try.prog 7 #[(.int .i64 (IntKind.wrap .i64 (Int.tdiv x15 (7 : Int)))), (.int .i64 (40 : Int))] (.one (.sc (.int .i64))) h2 fun r16 h8 =>
  RunsR Try.prog (Instr.buildSlice 28 1 #[(0, (.int .i64 r16))]) (.one (.sc .slc)) h8 fun v17 h9 =>
  RunsR Try.prog (Builtin.append_ #[28, 28] 28 #[(.slice s1.1.ptr s1.1.len s1.1.cap), (.slice v17.ptr v17.len v17.cap)]) (.one (.sc .slc)) h9 fun v18 h10 =>
  K2 ((⟨v18.ptr, v18.len, v18.cap⟩ : Sl), IntKind.wrap .i64 (s1.2 + (1 : Int))) h10)))
  (fun K3 =>
  Br (decide (s1.2 < ((l_0.len : Nat) : Int))) (Br (decide (s1.2 < most_1))
  (K3 () h1)
  (K1 (⟨s1.1.ptr, s1.1.len, s1.1.cap⟩ : Sl) h1)) (K1 (⟨s1.1.ptr, s1.1.len, s1.1.cap⟩ : Sl) h1))) ((⟨none, 0, 0⟩ : Sl), (0 : Int)) h)
noncomputable def wellspringlaw10_IDs_ann : Ann := (.two .n (.two .n (.two (.join [(5, (.sc .slc))] [(5, 52)] (.two .n (.inn (.loop [(5, (.sc .slc)), (6, (.sc (.int .i64)))] [(5, 52)] (.two (.join [] [(7, 16)] .n) .n))))) .n)))
theorem wellspringlaw10_IDs_eq (l_0 : Sl) (most_1 : Int) (R : Value → Heap → Prop) (h : Heap) : fnV C Try.f29 300 wellspringlaw10_IDs_ann [(.slice l_0.ptr l_0.len l_0.cap), (.int .i64 most_1)] R h = wellspringlaw10_IDs_m l_0 most_1 R h := by kernel_rfl
theorem wellspringlaw10_IDs_run (l_0 : Sl) (most_1 : Int) {R : Value → Heap → Prop} {h : Heap} (hm : wellspringlaw10_IDs_m l_0 most_1 R h) : Meets Try.prog 29 #[(.slice l_0.ptr l_0.len l_0.cap), (.int .i64 most_1)] h R :=
  fn_spec C_ok (f := 29) (fn := Try.f29) (args := [(.slice l_0.ptr l_0.len l_0.cap), (.int .i64 most_1)]) Try.func29 (by rw [Try.ntmps29]; exact Nat.le_of_ble_eq_true rfl) (cast (wellspringlaw10_IDs_eq l_0 most_1 R h).symm hm)
/-- wellspring/sets.right -/
abbrev sets_right_id : FuncId := 30
noncomputable def sets_right_m (n_0 : Int) (t_1 : Int) (R : Value → Heap → Prop) (h : Heap) : Prop :=
  Br (decide (n_0 ≥ (0 : Int))) (Br (decide (n_0 ≤ (64 : Int))) (Br (decide (t_1 ≥ (0 : Int))) (R (.bool (decide (t_1 ≤ n_0))) h) (R (.bool false) h)) (R (.bool false) h)) (R (.bool false) h)
noncomputable def sets_right_ann : Ann := .n
theorem sets_right_eq (n_0 : Int) (t_1 : Int) (R : Value → Heap → Prop) (h : Heap) : fnV C Try.f30 300 sets_right_ann [(.int .i64 n_0), (.int .i64 t_1)] R h = sets_right_m n_0 t_1 R h := by kernel_rfl
theorem sets_right_run (n_0 : Int) (t_1 : Int) {R : Value → Heap → Prop} {h : Heap} (hm : sets_right_m n_0 t_1 R h) : Meets Try.prog 30 #[(.int .i64 n_0), (.int .i64 t_1)] h R :=
  fn_spec C_ok (f := 30) (fn := Try.f30) (args := [(.int .i64 n_0), (.int .i64 t_1)]) Try.func30 (by rw [Try.ntmps30]; exact Nat.le_of_ble_eq_true rfl) (cast (sets_right_eq n_0 t_1 R h).symm hm)
/-- wellspring/sets.Count -/
abbrev sets_Count_id : FuncId := 31
noncomputable def sets_Count_m (n_0 : Int) (t_1 : Int) (R : Value → Heap → Prop) (h : Heap) : Prop :=
  CallM Try.prog 30 #[(.int .i64 n_0), (.int .i64 t_1)] (.one (.sc .bool)) h fun r1 h1 =>
  Br (!r1)
  (R (.int .i64 (0 : Int)) h1)
  (LoopM (σ := Int × Int) (fun s2 K1 h2 =>
  Br (decide (s2.2 < (if (IntKind.wrap .i64 (n_0 - t_1)) < t_1 then IntKind.wrap .i64 (n_0 - t_1) else t_1)))
  (((IntKind.wrap .i64 (s2.2 + (1 : Int))) ≠ 0) ∧
  Br (decide ((IntKind.wrap .i64 (Int.tdiv (IntKind.wrap .i64 (s2.1 * (IntKind.wrap .i64 (n_0 - s2.2)))) (IntKind.wrap .i64 (s2.2 + (1 : Int))))) > (4096 : Int)))
  (R (.int .i64 (4097 : Int)) h2)
  (K1 (IntKind.wrap .i64 (Int.tdiv (IntKind.wrap .i64 (s2.1 * (IntKind.wrap .i64 (n_0 - s2.2)))) (IntKind.wrap .i64 (s2.2 + (1 : Int)))), IntKind.wrap .i64 (s2.2 + (1 : Int))) h2))
  (R (.int .i64 s2.1) h2)) ((1 : Int), (0 : Int)) h1)
noncomputable def sets_Count_ann : Ann := (.two .n (.two .n (.two .n (.two (.two .n (.inn (.loop [(5, (.sc (.int .i64))), (16, (.sc (.int .i64)))] [(4, 7), (16, 30)] .n))) .n))))
theorem sets_Count_eq (n_0 : Int) (t_1 : Int) (R : Value → Heap → Prop) (h : Heap) : fnV C Try.f31 300 sets_Count_ann [(.int .i64 n_0), (.int .i64 t_1)] R h = sets_Count_m n_0 t_1 R h := by kernel_rfl
theorem sets_Count_run (n_0 : Int) (t_1 : Int) {R : Value → Heap → Prop} {h : Heap} (hm : sets_Count_m n_0 t_1 R h) : Meets Try.prog 31 #[(.int .i64 n_0), (.int .i64 t_1)] h R :=
  fn_spec C_ok (f := 31) (fn := Try.f31) (args := [(.int .i64 n_0), (.int .i64 t_1)]) Try.func31 (by rw [Try.ntmps31]; exact Nat.le_of_ble_eq_true rfl) (cast (sets_Count_eq n_0 t_1 R h).symm hm)
/-- slices.Clone[[]int,int] -/
abbrev slices_Clone_int_int_id : FuncId := 32
noncomputable def slices_Clone_int_int_m (s_0 : Sl) (R : Value → Heap → Prop) (h : Heap) : Prop :=
  Br (Option.isNone s_0.ptr)
  (R (.slice none 0 0) h)
  (RunsR Try.prog (Instr.buildSlice 28 0 #[]) (.one (.sc .slc)) h fun v1 h1 =>
  RunsR Try.prog (Builtin.append_ #[28, 28] 28 #[(.slice v1.ptr v1.len v1.cap), (.slice s_0.ptr s_0.len s_0.cap)]) (.one (.sc .slc)) h1 fun v2 h2 =>
  R (.slice v2.ptr v2.len v2.cap) h2)
noncomputable def slices_Clone_int_int_ann : Ann := .n
theorem slices_Clone_int_int_eq (s_0 : Sl) (R : Value → Heap → Prop) (h : Heap) : fnV C Try.f32 300 slices_Clone_int_int_ann [(.slice s_0.ptr s_0.len s_0.cap)] R h = slices_Clone_int_int_m s_0 R h := by kernel_rfl
theorem slices_Clone_int_int_run (s_0 : Sl) {R : Value → Heap → Prop} {h : Heap} (hm : slices_Clone_int_int_m s_0 R h) : Meets Try.prog 32 #[(.slice s_0.ptr s_0.len s_0.cap)] h R :=
  fn_spec C_ok (f := 32) (fn := Try.f32) (args := [(.slice s_0.ptr s_0.len s_0.cap)]) Try.func32 (by rw [Try.ntmps32]; exact Nat.le_of_ble_eq_true rfl) (cast (slices_Clone_int_int_eq s_0 R h).symm hm)
/-- wellspring/sets.next -/
abbrev sets_next_id : FuncId := 33
noncomputable def sets_next_m (l_0 : Sl) (n_1 : Int) (R : Value → Heap → Prop) (h : Heap) : Prop :=
  LoopM (σ := Int) (fun s1 K1 h1 =>
  Br (decide (s1 ≥ (0 : Int)))
  (∃ a2 : Addr, (l_0.ptr = some a2 ∧ 0 ≤ s1 ∧ s1 < ((l_0.len : Nat) : Int)) ∧
  ∃ x3 : Int, cellOf h1 (a2.add (s1.toNat * 1)) = some (.int .i64 x3) ∧
  Br (decide (x3 < (IntKind.wrap .i64 ((IntKind.wrap .i64 (n_1 - ((l_0.len : Nat) : Int))) + s1))))
  (∃ a4 : Addr, (l_0.ptr = some a4 ∧ 0 ≤ s1 ∧ s1 < ((l_0.len : Nat) : Int)) ∧
  ∃ x5 : Int, cellOf h1 (a4.add (s1.toNat * 1)) = some (.int .i64 x5) ∧
  ∃ a6 : Addr, (l_0.ptr = some a6 ∧ 0 ≤ s1 ∧ s1 < ((l_0.len : Nat) : Int)) ∧
  Runs Try.prog (Instr.storeAt 3 (.pointer (some (a6.add (s1.toNat * 1)))) (.int .i64 (IntKind.wrap .i64 (x5 + (1 : Int))))) h1 fun _ h2 =>
  LoopM (σ := Int) (fun s7 K2 h3 =>
  Br (decide (s7 < ((l_0.len : Nat) : Int)))
  (∃ a8 : Addr, (l_0.ptr = some a8 ∧ 0 ≤ (IntKind.wrap .i64 (s7 - (1 : Int))) ∧ (IntKind.wrap .i64 (s7 - (1 : Int))) < ((l_0.len : Nat) : Int)) ∧
  ∃ x9 : Int, cellOf h3 (a8.add ((IntKind.wrap .i64 (s7 - (1 : Int))).toNat * 1)) = some (.int .i64 x9) ∧
  ∃ a10 : Addr, (l_0.ptr = some a10 ∧ 0 ≤ s7 ∧ s7 < ((l_0.len : Nat) : Int)) ∧
  Runs Try.prog (Instr.storeAt 3 (.pointer (some (a10.add (s7.toNat * 1)))) (.int .i64 (IntKind.wrap .i64 (x9 + (1 : Int))))) h3 fun _ h4 =>
  K2 (IntKind.wrap .i64 (s7 + (1 : Int))) h4)
  (R (.bool true) h3)) (IntKind.wrap .i64 (s1 + (1 : Int))) h2)
  (K1 (IntKind.wrap .i64 (s1 - (1 : Int))) h1))
  (R (.bool false) h1)) (IntKind.wrap .i64 (((l_0.len : Nat) : Int) - (1 : Int))) h
noncomputable def sets_next_ann : Ann := (.two .n (.two (.two .n (.inn (.loop [(5, (.sc (.int .i64)))] [(4, 7), (10, 48)] (.two .n (.two (.inn (.two .n (.two (.two .n (.two (.two .n (.inn (.loop [(6, (.sc (.int .i64)))] [(6, 7), (33, 48)] .n))) .n)) .n))) .n))))) .n))
theorem sets_next_eq (l_0 : Sl) (n_1 : Int) (R : Value → Heap → Prop) (h : Heap) : fnV C Try.f33 300 sets_next_ann [(.slice l_0.ptr l_0.len l_0.cap), (.int .i64 n_1)] R h = sets_next_m l_0 n_1 R h := by kernel_rfl
theorem sets_next_run (l_0 : Sl) (n_1 : Int) {R : Value → Heap → Prop} {h : Heap} (hm : sets_next_m l_0 n_1 R h) : Meets Try.prog 33 #[(.slice l_0.ptr l_0.len l_0.cap), (.int .i64 n_1)] h R :=
  fn_spec C_ok (f := 33) (fn := Try.f33) (args := [(.slice l_0.ptr l_0.len l_0.cap), (.int .i64 n_1)]) Try.func33 (by rw [Try.ntmps33]; exact Nat.le_of_ble_eq_true rfl) (cast (sets_next_eq l_0 n_1 R h).symm hm)
/-- wellspring/wellspringkeep.Copy[int] -/
abbrev wellspringkeep_Copy_int_id : FuncId := 34
noncomputable def wellspringkeep_Copy_int_m (l_0 : Sl) (R : Value → Heap → Prop) (h : Heap) : Prop :=
  RunsR Try.prog (Instr.makeSlice 28 (.int .i64 (0 : Int)) (.int .i64 (IntKind.wrap .i64 (((l_0.len : Nat) : Int) + (2 : Int))))) (.one (.sc .slc)) h fun v1 h1 =>
  RunsR Try.prog (Builtin.append_ #[28, 28] 28 #[(.slice v1.ptr v1.len v1.cap), (.slice l_0.ptr l_0.len l_0.cap)]) (.one (.sc .slc)) h1 fun v2 h2 =>
  R (.slice v2.ptr v2.len v2.cap) h2
noncomputable def wellspringkeep_Copy_int_ann : Ann := .n
theorem wellspringkeep_Copy_int_eq (l_0 : Sl) (R : Value → Heap → Prop) (h : Heap) : fnV C Try.f34 300 wellspringkeep_Copy_int_ann [(.slice l_0.ptr l_0.len l_0.cap)] R h = wellspringkeep_Copy_int_m l_0 R h := by kernel_rfl
theorem wellspringkeep_Copy_int_run (l_0 : Sl) {R : Value → Heap → Prop} {h : Heap} (hm : wellspringkeep_Copy_int_m l_0 R h) : Meets Try.prog 34 #[(.slice l_0.ptr l_0.len l_0.cap)] h R :=
  fn_spec C_ok (f := 34) (fn := Try.f34) (args := [(.slice l_0.ptr l_0.len l_0.cap)]) Try.func34 (by rw [Try.ntmps34]; exact Nat.le_of_ble_eq_true rfl) (cast (wellspringkeep_Copy_int_eq l_0 R h).symm hm)
/-- wellspring/gf.powers -/
abbrev gf_powers_id : FuncId := 35
noncomputable def gf_powers_m  (R : Value → Heap → Prop) (h : Heap) : Prop :=
  RunsA Try.prog (Instr.alloc 66 true (.tuple #[])) h fun a1 h1 =>
  LoopM (σ := Int × Int) (fun s2 K1 h2 =>
  Br (decide (s2.2 < (255 : Int)))
  ((0 ≤ s2.2 ∧ s2.2 < ((255 : Nat) : Int)) ∧
  Runs Try.prog (Instr.storeAt 5 (.pointer (some (a1.add (s2.2.toNat * 1)))) (.int .u8 s2.1)) h2 fun _ h3 =>
  CallM Try.prog 49 #[(.int .u8 s2.1), (.int .u8 (3 : Int))] (.one (.sc (.int .u8))) h3 fun r3 h4 =>
  K1 (r3, IntKind.wrap .i64 (s2.2 + (1 : Int))) h4)
  (∃ x4 : List (Int), (x4.length = 255 ∧ cellsAt h2 a1 0 (x4.map (Sc.enc (.int .u8)))) ∧
  Runs Try.prog (Instr.storeAt 66 (.pointer (some a1)) (.agg (x4.map (Sc.enc (.int .u8))).toArray)) h2 fun _ h5 =>
  ∃ res5 : List (Int), (res5.length = 255 ∧ cellsAt h5 a1 0 (res5.map (Sc.enc (.int .u8)))) ∧
  R (.agg (res5.map (Sc.enc (.int .u8))).toArray) h5)) ((1 : Int), (0 : Int)) h1
noncomputable def gf_powers_ann : Ann := (.two .n (.two .n (.two (.two .n (.inn (.loop [(1, (.sc (.int .u8))), (3, (.sc (.int .i64)))] [(1, 12)] .n))) .n)))
theorem gf_powers_eq  (R : Value → Heap → Prop) (h : Heap) : fnV C Try.f35 300 gf_powers_ann [] R h = gf_powers_m  R h := by kernel_rfl
theorem gf_powers_run  {R : Value → Heap → Prop} {h : Heap} (hm : gf_powers_m  R h) : Meets Try.prog 35 #[] h R :=
  fn_spec C_ok (f := 35) (fn := Try.f35) (args := []) Try.func35 (by rw [Try.ntmps35]; exact Nat.le_of_ble_eq_true rfl) (cast (gf_powers_eq  R h).symm hm)
/-- wellspring/gf.logs -/
abbrev gf_logs_id : FuncId := 36
noncomputable def gf_logs_m (l_0 : List (Int)) (R : Value → Heap → Prop) (h : Heap) : Prop :=
  RunsA Try.prog (Instr.box 66 (.agg (l_0.map (Sc.enc (.int .u8))).toArray)) h fun a1 h1 =>
  RunsA Try.prog (Instr.alloc 68 true (.tuple #[])) h1 fun a2 h2 =>
  ∃ x3 : List (Int), (x3.length = 255 ∧ cellsAt h2 a1 0 (x3.map (Sc.enc (.int .u8)))) ∧
  LoopM (σ := Int) (fun s4 K1 h3 =>
  Br (decide (s4 < (255 : Int)))
  (∃ x5 : Int, (0 ≤ s4 ∧ s4 < ((255 : Nat) : Int) ∧ ((x3.map (Sc.enc (.int .u8))).toArray : Array Value)[s4.toNat]? = some (.int .u8 x5)) ∧
  (0 ≤ x5 ∧ x5 < ((256 : Nat) : Int)) ∧
  Runs Try.prog (Instr.storeAt 3 (.pointer (some (a2.add (x5.toNat * 1)))) (.int .i64 s4)) h3 fun _ h4 =>
  K1 (IntKind.wrap .i64 (s4 + (1 : Int))) h4)
  (∃ x6 : List (Int), (x6.length = 256 ∧ cellsAt h3 a2 0 (x6.map (Sc.enc (.int .i64)))) ∧
  Runs Try.prog (Instr.storeAt 68 (.pointer (some a2)) (.agg (x6.map (Sc.enc (.int .i64))).toArray)) h3 fun _ h5 =>
  ∃ res7 : List (Int), (res7.length = 256 ∧ cellsAt h5 a2 0 (res7.map (Sc.enc (.int .i64)))) ∧
  R (.agg (res7.map (Sc.enc (.int .i64))).toArray) h5)) (0 : Int) h2
noncomputable def gf_logs_ann : Ann := (.two .n (.two (.two .n (.inn (.loop [(6, (.sc (.int .i64)))] [(3, 5), (6, 14)] .n))) .n))
theorem gf_logs_eq (l_0 : List (Int)) (R : Value → Heap → Prop) (h : Heap) : fnV C Try.f36 300 gf_logs_ann [(.agg (l_0.map (Sc.enc (.int .u8))).toArray)] R h = gf_logs_m l_0 R h := by kernel_rfl
theorem gf_logs_run (l_0 : List (Int)) {R : Value → Heap → Prop} {h : Heap} (hm : gf_logs_m l_0 R h) : Meets Try.prog 36 #[(.agg (l_0.map (Sc.enc (.int .u8))).toArray)] h R :=
  fn_spec C_ok (f := 36) (fn := Try.f36) (args := [(.agg (l_0.map (Sc.enc (.int .u8))).toArray)]) Try.func36 (by rw [Try.ntmps36]; exact Nat.le_of_ble_eq_true rfl) (cast (gf_logs_eq l_0 R h).symm hm)
/-- wellspring/row.Unit -/
abbrev row_Unit_id : FuncId := 37
noncomputable def row_Unit_m (n_0 : Int) (at_1 : Int) (R : Value → Heap → Prop) (h : Heap) : Prop :=
  JoinM (σ := Unit) (fun _ h1 =>
  RunsR Try.prog (Instr.makeSlice 54 (.int .i64 n_0) (.int .i64 n_0)) (.one (.sc .slc)) h1 fun v2 h2 =>
  ∃ a3 : Addr, (v2.ptr = some a3 ∧ 0 ≤ at_1 ∧ at_1 < ((v2.len : Nat) : Int)) ∧
  Runs Try.prog (Instr.storeAt 5 (.pointer (some (a3.add (at_1.toNat * 1)))) (.int .u8 (1 : Int))) h2 fun _ h3 =>
  R (.slice v2.ptr v2.len v2.cap) h3)
  (fun K1 =>
  Br (decide (n_0 < (1 : Int))) (R (.slice none 0 0) h) (Br (decide (n_0 > (64 : Int))) (R (.slice none 0 0) h) (Br (decide (at_1 < (0 : Int))) (R (.slice none 0 0) h) (Br (decide (at_1 ≥ n_0))
  (R (.slice none 0 0) h)
  (K1 () h)))))
noncomputable def row_Unit_ann : Ann := (.two .n (.two (.join [] [(4, 5), (6, 21)] .n) .n))
theorem row_Unit_eq (n_0 : Int) (at_1 : Int) (R : Value → Heap → Prop) (h : Heap) : fnV C Try.f37 300 row_Unit_ann [(.int .i64 n_0), (.int .i64 at_1)] R h = row_Unit_m n_0 at_1 R h := by kernel_rfl
theorem row_Unit_run (n_0 : Int) (at_1 : Int) {R : Value → Heap → Prop} {h : Heap} (hm : row_Unit_m n_0 at_1 R h) : Meets Try.prog 37 #[(.int .i64 n_0), (.int .i64 at_1)] h R :=
  fn_spec C_ok (f := 37) (fn := Try.f37) (args := [(.int .i64 n_0), (.int .i64 at_1)]) Try.func37 (by rw [Try.ntmps37]; exact Nat.le_of_ble_eq_true rfl) (cast (row_Unit_eq n_0 at_1 R h).symm hm)
/-- (*wellspring/gf.Field).Exp -/
abbrev gf_Field_Exp_id : FuncId := 38
noncomputable def gf_Field_Exp_m (f_0 : Option Addr) (n_1 : Int) (R : Value → Heap → Prop) (h : Heap) : Prop :=
  ((255 : Int) ≠ 0) ∧
  JoinM (σ := Int) (fun s1 h1 =>
  CallM Try.prog 50 #[(.pointer f_0)] (.one (.sc .ptr)) h1 fun r2 h2 =>
  ∃ a3 : Addr, (r2 = some a3) ∧
  (0 ≤ s1 ∧ s1 < ((255 : Nat) : Int)) ∧
  ∃ x4 : Int, cellOf h2 (a3.add (s1.toNat * 1)) = some (.int .u8 x4) ∧
  R (.int .u8 x4) h2)
  (fun K1 =>
  Br (decide ((Int.tmod n_1 (255 : Int)) < (0 : Int)))
  (K1 (IntKind.wrap .i64 ((Int.tmod n_1 (255 : Int)) + (255 : Int))) h)
  (K1 (Int.tmod n_1 (255 : Int)) h))
noncomputable def gf_Field_Exp_ann : Ann := (.two .n (.two .n (.two (.join [(1, (.sc (.int .i64)))] [(1, 2), (7, 11)] .n) .n)))
theorem gf_Field_Exp_eq (f_0 : Option Addr) (n_1 : Int) (R : Value → Heap → Prop) (h : Heap) : fnV C Try.f38 300 gf_Field_Exp_ann [(.pointer f_0), (.int .i64 n_1)] R h = gf_Field_Exp_m f_0 n_1 R h := by kernel_rfl
theorem gf_Field_Exp_run (f_0 : Option Addr) (n_1 : Int) {R : Value → Heap → Prop} {h : Heap} (hm : gf_Field_Exp_m f_0 n_1 R h) : Meets Try.prog 38 #[(.pointer f_0), (.int .i64 n_1)] h R :=
  fn_spec C_ok (f := 38) (fn := Try.f38) (args := [(.pointer f_0), (.int .i64 n_1)]) Try.func38 (by rw [Try.ntmps38]; exact Nat.le_of_ble_eq_true rfl) (cast (gf_Field_Exp_eq f_0 n_1 R h).symm hm)
/-- (*wellspring/span.Span).Rest -/
abbrev span_Span_Rest_id : FuncId := 39
noncomputable def span_Span_Rest_m (s_0 : Option Addr) (r_1 : Sl) (R : Value → Heap → Prop) (h : Heap) : Prop :=
  JoinM (σ := Unit) (fun _ h1 =>
  CallM Try.prog 51 #[(.slice r_1.ptr r_1.len r_1.cap)] (.one (.sc .slc)) h1 fun r4 h2 =>
  ∃ a5 : Addr, (s_0 = some a5) ∧
  ∃ x6 : Sl, cellOf h2 (a5.add 2) = some (.slice x6.ptr x6.len x6.cap) ∧
  LoopM (σ := Sl × Int) (fun s7 K2 h3 =>
  Br (decide (s7.2 < ((x6.len : Nat) : Int)))
  (∃ a8 : Addr, (x6.ptr = some a8 ∧ 0 ≤ s7.2 ∧ s7.2 < ((x6.len : Nat) : Int)) ∧
  ∃ x9 : Sl, cellOf h3 (a8.add (s7.2.toNat * 1)) = some (.slice x9.ptr x9.len x9.cap) ∧
  CallM Try.prog 40 #[(.slice x9.ptr x9.len x9.cap)] (.one (.sc (.int .i64))) h3 fun r10 h4 =>
  ∃ a11 : Addr, (s7.1.ptr = some a11 ∧ 0 ≤ r10 ∧ r10 < ((s7.1.len : Nat) : Int)) ∧
  ∃ x12 : Int, cellOf h4 (a11.add (r10.toNat * 1)) = some (.int .u8 x12) ∧
  Br (x12 != (0 : Int))
  (∃ a13 : Addr, (s_0 = some a13) ∧
  ∃ x14 : Option Addr, cellOf h4 a13 = some (.pointer x14) ∧
  CallM Try.prog 52 #[(.pointer x14), (.int .u8 x12), (.slice x9.ptr x9.len x9.cap), (.slice s7.1.ptr s7.1.len s7.1.cap)] (.many [(.sc .slc), (.sc .bool)]) h4 fun r15 h5 =>
  K2 ((⟨r15.1.ptr, r15.1.len, r15.1.cap⟩ : Sl), IntKind.wrap .i64 (s7.2 + (1 : Int))) h5)
  (K2 ((⟨s7.1.ptr, s7.1.len, s7.1.cap⟩ : Sl), IntKind.wrap .i64 (s7.2 + (1 : Int))) h4))
  (R (.tuple #[(.slice s7.1.ptr s7.1.len s7.1.cap), (.bool true)]) h3)) ((⟨r4.ptr, r4.len, r4.cap⟩ : Sl), (0 : Int)) h2)
  (fun K1 =>
  Br (Option.isNone s_0) (R (.tuple #[(.slice none 0 0), (.bool false)]) h) (∃ a1 : Addr, (s_0 = some a1) ∧
  ∃ x2 : Int, cellOf h (a1.add 1) = some (.int .i64 x2) ∧
  Br (((r_1.len : Nat) : Int) != x2)
  (R (.tuple #[(.slice none 0 0), (.bool false)]) h)
  (K1 () h)))
noncomputable def span_Span_Rest_ann : Ann := (.two .n (.two (.join [] [(4, 6), (10, 21)] .n) (.two .n (.two (.two .n (.inn (.loop [(6, (.sc .slc)), (28, (.sc (.int .i64)))] [(6, 7), (8, 10), (28, 51)] .n))) .n))))
theorem span_Span_Rest_eq (s_0 : Option Addr) (r_1 : Sl) (R : Value → Heap → Prop) (h : Heap) : fnV C Try.f39 300 span_Span_Rest_ann [(.pointer s_0), (.slice r_1.ptr r_1.len r_1.cap)] R h = span_Span_Rest_m s_0 r_1 R h := by kernel_rfl
theorem span_Span_Rest_run (s_0 : Option Addr) (r_1 : Sl) {R : Value → Heap → Prop} {h : Heap} (hm : span_Span_Rest_m s_0 r_1 R h) : Meets Try.prog 39 #[(.pointer s_0), (.slice r_1.ptr r_1.len r_1.cap)] h R :=
  fn_spec C_ok (f := 39) (fn := Try.f39) (args := [(.pointer s_0), (.slice r_1.ptr r_1.len r_1.cap)]) Try.func39 (by rw [Try.ntmps39]; exact Nat.le_of_ble_eq_true rfl) (cast (span_Span_Rest_eq s_0 r_1 R h).symm hm)
/-- wellspring/row.Lead -/
abbrev row_Lead_id : FuncId := 40
noncomputable def row_Lead_m (a_0 : Sl) (R : Value → Heap → Prop) (h : Heap) : Prop :=
  CallM Try.prog 53 #[(.slice a_0.ptr a_0.len a_0.cap), (.func (.func 54) #[] #[])] (.one (.sc (.int .i64))) h fun r1 h1 =>
  R (.int .i64 r1) h1
noncomputable def row_Lead_ann : Ann := .n
theorem row_Lead_eq (a_0 : Sl) (R : Value → Heap → Prop) (h : Heap) : fnV C Try.f40 300 row_Lead_ann [(.slice a_0.ptr a_0.len a_0.cap)] R h = row_Lead_m a_0 R h := by kernel_rfl
theorem row_Lead_run (a_0 : Sl) {R : Value → Heap → Prop} {h : Heap} (hm : row_Lead_m a_0 R h) : Meets Try.prog 40 #[(.slice a_0.ptr a_0.len a_0.cap)] h R :=
  fn_spec C_ok (f := 40) (fn := Try.f40) (args := [(.slice a_0.ptr a_0.len a_0.cap)]) Try.func40 (by rw [Try.ntmps40]; exact Nat.le_of_ble_eq_true rfl) (cast (row_Lead_eq a_0 R h).symm hm)
/-- wellspring/mat.Reduce -/
abbrev mat_Reduce_id : FuncId := 41
noncomputable def mat_Reduce_m (f_0 : Option Addr) (a_1 : Sl) (R : Value → Heap → Prop) (h : Heap) : Prop :=
  CallM Try.prog 55 #[(.slice a_1.ptr a_1.len a_1.cap)] (.one (.sc .bool)) h fun r1 h1 =>
  Br (!r1)
  (R (.slice none 0 0) h1)
  (CallM Try.prog 56 #[(.slice a_1.ptr a_1.len a_1.cap)] (.one (.sc .slc)) h1 fun r2 h2 =>
  CallM Try.prog 58 #[(.pointer f_0)] (.one (.sc .ptr)) h2 fun r3 h3 =>
  CallM Try.prog 59 #[(.slice r2.ptr r2.len r2.cap)] (.one (.sc (.int .i64))) h3 fun r4 h4 =>
  CallM Try.prog 57 #[(.pointer r3), (.slice r2.ptr r2.len r2.cap), (.int .i64 r4)] (.one (.sc (.int .i64))) h4 fun r5 h5 =>
  (0 ≤ r5 ∧ r5 ≤ ((r2.cap : Nat) : Int)) ∧
  R (.slice r2.ptr r5.toNat r2.cap) h5)
noncomputable def mat_Reduce_ann : Ann := .n
theorem mat_Reduce_eq (f_0 : Option Addr) (a_1 : Sl) (R : Value → Heap → Prop) (h : Heap) : fnV C Try.f41 300 mat_Reduce_ann [(.pointer f_0), (.slice a_1.ptr a_1.len a_1.cap)] R h = mat_Reduce_m f_0 a_1 R h := by kernel_rfl
theorem mat_Reduce_run (f_0 : Option Addr) (a_1 : Sl) {R : Value → Heap → Prop} {h : Heap} (hm : mat_Reduce_m f_0 a_1 R h) : Meets Try.prog 41 #[(.pointer f_0), (.slice a_1.ptr a_1.len a_1.cap)] h R :=
  fn_spec C_ok (f := 41) (fn := Try.f41) (args := [(.pointer f_0), (.slice a_1.ptr a_1.len a_1.cap)]) Try.func41 (by rw [Try.ntmps41]; exact Nat.le_of_ble_eq_true rfl) (cast (mat_Reduce_eq f_0 a_1 R h).symm hm)
/-- wellspring/lt.Row -/
abbrev lt_Row_id : FuncId := 42
noncomputable def lt_Row_m (p_0 : Int × Int × Int) (seed_1 : Int) (id_2 : Int) (R : Value → Heap → Prop) (h : Heap) : Prop :=
  RunsA Try.prog (Instr.box 24 (.agg #[(.int .i64 p_0.1), (.int .i64 p_0.2.1), (.int .i64 p_0.2.2)])) h fun a1 h1 =>
  JoinM (σ := Unit) (fun _ h3 =>
  ∃ x5 : Int × Int × Int, cellsAt h3 a1 0 [(.int .i64 x5.1), (.int .i64 x5.2.1), (.int .i64 x5.2.2)] ∧
  CallM Try.prog 18 #[(.agg #[(.int .i64 x5.1), (.int .i64 x5.2.1), (.int .i64 x5.2.2)])] (.one (.sc (.int .i64))) h3 fun r6 h4 =>
  RunsR Try.prog (Instr.makeSlice 54 (.int .i64 r6) (.int .i64 r6)) (.one (.sc .slc)) h4 fun v7 h5 =>
  ∃ x8 : Int × Int × Int, cellsAt h5 a1 0 [(.int .i64 x8.1), (.int .i64 x8.2.1), (.int .i64 x8.2.2)] ∧
  CallM Try.prog 60 #[(.agg #[(.int .i64 x8.1), (.int .i64 x8.2.1), (.int .i64 x8.2.2)]), (.int .u32 seed_1), (.int .i64 id_2)] (.one (.sc .slc)) h5 fun r9 h6 =>
  LoopM (σ := Int) (fun s10 K2 h7 =>
  Br (decide (s10 < ((r9.len : Nat) : Int)))
  (∃ a11 : Addr, (r9.ptr = some a11 ∧ 0 ≤ s10 ∧ s10 < ((r9.len : Nat) : Int)) ∧
  ∃ x12 : Int, cellOf h7 (a11.add (s10.toNat * 1)) = some (.int .i64 x12) ∧
  ∃ a13 : Addr, (v7.ptr = some a13 ∧ 0 ≤ x12 ∧ x12 < ((v7.len : Nat) : Int)) ∧
  Runs Try.prog (Instr.storeAt 5 (.pointer (some (a13.add (x12.toNat * 1)))) (.int .u8 (1 : Int))) h7 fun _ h8 =>
  K2 (IntKind.wrap .i64 (s10 + (1 : Int))) h8)
  (R (.slice v7.ptr v7.len v7.cap) h7)) (0 : Int) h6)
  (fun K1 =>
  ∃ x2 : Int × Int × Int, cellsAt h1 a1 0 [(.int .i64 x2.1), (.int .i64 x2.2.1), (.int .i64 x2.2.2)] ∧
  CallM Try.prog 19 #[(.agg #[(.int .i64 x2.1), (.int .i64 x2.2.1), (.int .i64 x2.2.2)])] (.one (.sc .bool)) h1 fun r3 h2 =>
  Br (!r3) (R (.slice none 0 0) h2) (Br (decide (id_2 < (0 : Int))) (R (.slice none 0 0) h2) (Br (decide (id_2 > (65535 : Int)))
  (R (.slice none 0 0) h2)
  (K1 () h2))))
noncomputable def lt_Row_ann : Ann := (.two .n (.two (.join [] [(6, 7), (10, 21)] .n) (.two .n (.two (.two .n (.inn (.loop [(29, (.sc (.int .i64)))] [(9, 10), (29, 37)] .n))) .n))))
theorem lt_Row_eq (p_0 : Int × Int × Int) (seed_1 : Int) (id_2 : Int) (R : Value → Heap → Prop) (h : Heap) : fnV C Try.f42 300 lt_Row_ann [(.agg #[(.int .i64 p_0.1), (.int .i64 p_0.2.1), (.int .i64 p_0.2.2)]), (.int .u32 seed_1), (.int .i64 id_2)] R h = lt_Row_m p_0 seed_1 id_2 R h := by kernel_rfl
theorem lt_Row_run (p_0 : Int × Int × Int) (seed_1 : Int) (id_2 : Int) {R : Value → Heap → Prop} {h : Heap} (hm : lt_Row_m p_0 seed_1 id_2 R h) : Meets Try.prog 42 #[(.agg #[(.int .i64 p_0.1), (.int .i64 p_0.2.1), (.int .i64 p_0.2.2)]), (.int .u32 seed_1), (.int .i64 id_2)] h R :=
  fn_spec C_ok (f := 42) (fn := Try.f42) (args := [(.agg #[(.int .i64 p_0.1), (.int .i64 p_0.2.1), (.int .i64 p_0.2.2)]), (.int .u32 seed_1), (.int .i64 id_2)]) Try.func42 (by rw [Try.ntmps42]; exact Nat.le_of_ble_eq_true rfl) (cast (lt_Row_eq p_0 seed_1 id_2 R h).symm hm)
/-- (*wellspring/span.Span).Clone -/
abbrev span_Span_Clone_id : FuncId := 43
noncomputable def span_Span_Clone_m (s_0 : Option Addr) (R : Value → Heap → Prop) (h : Heap) : Prop :=
  Br (Option.isNone s_0)
  (R (.pointer none) h)
  (∃ a1 : Addr, (s_0 = some a1) ∧
  ∃ x2 : Option Addr, cellOf h a1 = some (.pointer x2) ∧
  ∃ a3 : Addr, (s_0 = some a3) ∧
  ∃ x4 : Int, cellOf h (a3.add 1) = some (.int .i64 x4) ∧
  CallM Try.prog 61 #[(.pointer s_0)] (.one (.sc .slc)) h fun r5 h1 =>
  (Held.ok [(a3.add 1, (.int .i64 x4)), (a1, (.pointer x2))] h1) ∧
  RunsA Try.prog (Instr.box 65 (.agg #[(.pointer x2), (.int .i64 x4), (.slice r5.ptr r5.len r5.cap)])) h1 fun a6 h2 =>
  (Held.ok [(a3.add 1, (.int .i64 x4)), (a1, (.pointer x2))] h2) ∧
  R (.pointer (some a6)) h2)
noncomputable def span_Span_Clone_ann : Ann := .n
theorem span_Span_Clone_eq (s_0 : Option Addr) (R : Value → Heap → Prop) (h : Heap) : fnV C Try.f43 300 span_Span_Clone_ann [(.pointer s_0)] R h = span_Span_Clone_m s_0 R h := by kernel_rfl
theorem span_Span_Clone_run (s_0 : Option Addr) {R : Value → Heap → Prop} {h : Heap} (hm : span_Span_Clone_m s_0 R h) : Meets Try.prog 43 #[(.pointer s_0)] h R :=
  fn_spec C_ok (f := 43) (fn := Try.f43) (args := [(.pointer s_0)]) Try.func43 (by rw [Try.ntmps43]; exact Nat.le_of_ble_eq_true rfl) (cast (span_Span_Clone_eq s_0 R h).symm hm)
/-- (*wellspring/span.Span).Rank -/
abbrev span_Span_Rank_id : FuncId := 44
noncomputable def span_Span_Rank_m (s_0 : Option Addr) (R : Value → Heap → Prop) (h : Heap) : Prop :=
  Br (Option.isNone s_0)
  (R (.int .i64 (0 : Int)) h)
  (∃ a1 : Addr, (s_0 = some a1) ∧
  ∃ x2 : Sl, cellOf h (a1.add 2) = some (.slice x2.ptr x2.len x2.cap) ∧
  R (.int .i64 ((x2.len : Nat) : Int)) h)
noncomputable def span_Span_Rank_ann : Ann := .n
theorem span_Span_Rank_eq (s_0 : Option Addr) (R : Value → Heap → Prop) (h : Heap) : fnV C Try.f44 300 span_Span_Rank_ann [(.pointer s_0)] R h = span_Span_Rank_m s_0 R h := by kernel_rfl
theorem span_Span_Rank_run (s_0 : Option Addr) {R : Value → Heap → Prop} {h : Heap} (hm : span_Span_Rank_m s_0 R h) : Meets Try.prog 44 #[(.pointer s_0)] h R :=
  fn_spec C_ok (f := 44) (fn := Try.f44) (args := [(.pointer s_0)]) Try.func44 (by rw [Try.ntmps44]; exact Nat.le_of_ble_eq_true rfl) (cast (span_Span_Rank_eq s_0 R h).symm hm)
/-- slices.Index[[]int,int] -/
abbrev slices_Index_int_int_id : FuncId := 45
noncomputable def slices_Index_int_int_m (s_0 : Sl) (v_1 : Int) (R : Value → Heap → Prop) (h : Heap) : Prop :=
  LoopM (σ := Int) (fun s1 K1 h1 =>
  Br (decide (s1 < ((s_0.len : Nat) : Int)))
  (∃ a2 : Addr, (s_0.ptr = some a2 ∧ 0 ≤ s1 ∧ s1 < ((s_0.len : Nat) : Int)) ∧
  ∃ x3 : Int, cellOf h1 (a2.add (s1.toNat * 1)) = some (.int .i64 x3) ∧
  Br (v_1 == x3)
  (R (.int .i64 s1) h1)
  (K1 (IntKind.wrap .i64 (s1 + (1 : Int))) h1))
  (R (.int .i64 (-1 : Int)) h1)) (0 : Int) h
noncomputable def slices_Index_int_int_ann : Ann := (.two .n (.two (.two .n (.inn (.loop [(8, (.sc (.int .i64)))] [(4, 6), (8, 19)] .n))) .n))
theorem slices_Index_int_int_eq (s_0 : Sl) (v_1 : Int) (R : Value → Heap → Prop) (h : Heap) : fnV C Try.f45 300 slices_Index_int_int_ann [(.slice s_0.ptr s_0.len s_0.cap), (.int .i64 v_1)] R h = slices_Index_int_int_m s_0 v_1 R h := by kernel_rfl
theorem slices_Index_int_int_run (s_0 : Sl) (v_1 : Int) {R : Value → Heap → Prop} {h : Heap} (hm : slices_Index_int_int_m s_0 v_1 R h) : Meets Try.prog 45 #[(.slice s_0.ptr s_0.len s_0.cap), (.int .i64 v_1)] h R :=
  fn_spec C_ok (f := 45) (fn := Try.f45) (args := [(.slice s_0.ptr s_0.len s_0.cap), (.int .i64 v_1)]) Try.func45 (by rw [Try.ntmps45]; exact Nat.le_of_ble_eq_true rfl) (cast (slices_Index_int_int_eq s_0 v_1 R h).symm hm)
/-- wellspring/mat.Rank -/
abbrev mat_Rank_id : FuncId := 46
noncomputable def mat_Rank_m (f_0 : Option Addr) (a_1 : Sl) (R : Value → Heap → Prop) (h : Heap) : Prop :=
  CallM Try.prog 41 #[(.pointer f_0), (.slice a_1.ptr a_1.len a_1.cap)] (.one (.sc .slc)) h fun r1 h1 =>
  R (.int .i64 ((r1.len : Nat) : Int)) h1
noncomputable def mat_Rank_ann : Ann := .n
theorem mat_Rank_eq (f_0 : Option Addr) (a_1 : Sl) (R : Value → Heap → Prop) (h : Heap) : fnV C Try.f46 300 mat_Rank_ann [(.pointer f_0), (.slice a_1.ptr a_1.len a_1.cap)] R h = mat_Rank_m f_0 a_1 R h := by kernel_rfl
theorem mat_Rank_run (f_0 : Option Addr) (a_1 : Sl) {R : Value → Heap → Prop} {h : Heap} (hm : mat_Rank_m f_0 a_1 R h) : Meets Try.prog 46 #[(.pointer f_0), (.slice a_1.ptr a_1.len a_1.cap)] h R :=
  fn_spec C_ok (f := 46) (fn := Try.f46) (args := [(.pointer f_0), (.slice a_1.ptr a_1.len a_1.cap)]) Try.func46 (by rw [Try.ntmps46]; exact Nat.le_of_ble_eq_true rfl) (cast (mat_Rank_eq f_0 a_1 R h).symm hm)
/-- wellspring/system.Matrix -/
abbrev system_Matrix_id : FuncId := 47
noncomputable def system_Matrix_m (p_0 : Int × Int × Int) (seed_1 : Int) (ids_2 : Sl) (R : Value → Heap → Prop) (h : Heap) : Prop :=
  RunsA Try.prog (Instr.box 24 (.agg #[(.int .i64 p_0.1), (.int .i64 p_0.2.1), (.int .i64 p_0.2.2)])) h fun a1 h1 =>
  ∃ x2 : Int × Int × Int, cellsAt h1 a1 0 [(.int .i64 x2.1), (.int .i64 x2.2.1), (.int .i64 x2.2.2)] ∧
  CallM Try.prog 22 #[(.agg #[(.int .i64 x2.1), (.int .i64 x2.2.1), (.int .i64 x2.2.2)])] (.one (.sc .slc)) h1 fun r3 h2 =>
  LoopM (σ := Sl × Int) (fun s4 K1 h3 =>
  Br (decide (s4.2 < ((ids_2.len : Nat) : Int)))
  (∃ a5 : Addr, (ids_2.ptr = some a5 ∧ 0 ≤ s4.2 ∧ s4.2 < ((ids_2.len : Nat) : Int)) ∧
  ∃ x6 : Int, cellOf h3 (a5.add (s4.2.toNat * 1)) = some (.int .i64 x6) ∧
  ∃ x7 : Int × Int × Int, cellsAt h3 a1 0 [(.int .i64 x7.1), (.int .i64 x7.2.1), (.int .i64 x7.2.2)] ∧
  CallM Try.prog 42 #[(.agg #[(.int .i64 x7.1), (.int .i64 x7.2.1), (.int .i64 x7.2.2)]), (.int .u32 seed_1), (.int .i64 x6)] (.one (.sc .slc)) h3 fun r8 h4 =>
  Br (!(Option.isNone r8.ptr))
  (RunsR Try.prog (Instr.buildSlice 52 1 #[(0, (.slice r8.ptr r8.len r8.cap))]) (.one (.sc .slc)) h4 fun v9 h5 =>
  RunsR Try.prog (Builtin.append_ #[52, 52] 52 #[(.slice s4.1.ptr s4.1.len s4.1.cap), (.slice v9.ptr v9.len v9.cap)]) (.one (.sc .slc)) h5 fun v10 h6 =>
  K1 ((⟨v10.ptr, v10.len, v10.cap⟩ : Sl), IntKind.wrap .i64 (s4.2 + (1 : Int))) h6)
  (K1 ((⟨s4.1.ptr, s4.1.len, s4.1.cap⟩ : Sl), IntKind.wrap .i64 (s4.2 + (1 : Int))) h4))
  (R (.slice s4.1.ptr s4.1.len s4.1.cap) h3)) ((⟨r3.ptr, r3.len, r3.cap⟩ : Sl), (0 : Int)) h2
noncomputable def system_Matrix_ann : Ann := (.two .n (.two .n (.two (.two .n (.inn (.loop [(7, (.sc .slc)), (15, (.sc (.int .i64)))] [(7, 8), (9, 11), (15, 30)] .n))) .n)))
theorem system_Matrix_eq (p_0 : Int × Int × Int) (seed_1 : Int) (ids_2 : Sl) (R : Value → Heap → Prop) (h : Heap) : fnV C Try.f47 300 system_Matrix_ann [(.agg #[(.int .i64 p_0.1), (.int .i64 p_0.2.1), (.int .i64 p_0.2.2)]), (.int .u32 seed_1), (.slice ids_2.ptr ids_2.len ids_2.cap)] R h = system_Matrix_m p_0 seed_1 ids_2 R h := by kernel_rfl
theorem system_Matrix_run (p_0 : Int × Int × Int) (seed_1 : Int) (ids_2 : Sl) {R : Value → Heap → Prop} {h : Heap} (hm : system_Matrix_m p_0 seed_1 ids_2 R h) : Meets Try.prog 47 #[(.agg #[(.int .i64 p_0.1), (.int .i64 p_0.2.1), (.int .i64 p_0.2.2)]), (.int .u32 seed_1), (.slice ids_2.ptr ids_2.len ids_2.cap)] h R :=
  fn_spec C_ok (f := 47) (fn := Try.f47) (args := [(.agg #[(.int .i64 p_0.1), (.int .i64 p_0.2.1), (.int .i64 p_0.2.2)]), (.int .u32 seed_1), (.slice ids_2.ptr ids_2.len ids_2.cap)]) Try.func47 (by rw [Try.ntmps47]; exact Nat.le_of_ble_eq_true rfl) (cast (system_Matrix_eq p_0 seed_1 ids_2 R h).symm hm)
/-- wellspring/system.First -/
abbrev system_First_id : FuncId := 48
noncomputable def system_First_m (p_0 : Int × Int × Int) (R : Value → Heap → Prop) (h : Heap) : Prop :=
  RunsA Try.prog (Instr.box 24 (.agg #[(.int .i64 p_0.1), (.int .i64 p_0.2.1), (.int .i64 p_0.2.2)])) h fun a1 h1 =>
  ∃ x2 : Int, cellOf h1 a1 = some (.int .i64 x2) ∧
  LoopM (σ := Sl × Int) (fun s3 K1 h2 =>
  Br (decide (s3.2 < (if (if (16 : Int) < x2 then (16 : Int) else x2) > (0 : Int) then (if (16 : Int) < x2 then (16 : Int) else x2) else (0 : Int))))
  (RunsR Try.prog (Instr.buildSlice 28 1 #[(0, (.int .i64 s3.2))]) (.one (.sc .slc)) h2 fun v4 h3 =>
  RunsR Try.prog (Builtin.append_ #[28, 28] 28 #[(.slice s3.1.ptr s3.1.len s3.1.cap), (.slice v4.ptr v4.len v4.cap)]) (.one (.sc .slc)) h3 fun v5 h4 =>
  K1 ((⟨v5.ptr, v5.len, v5.cap⟩ : Sl), IntKind.wrap .i64 (s3.2 + (1 : Int))) h4)
  (R (.slice s3.1.ptr s3.1.len s3.1.cap) h2)) ((⟨none, 0, 0⟩ : Sl), (0 : Int)) h1
noncomputable def system_First_ann : Ann := (.two .n (.two .n (.two (.two .n (.inn (.loop [(3, (.sc .slc)), (9, (.sc (.int .i64)))] [(3, 5), (9, 17)] .n))) .n)))
theorem system_First_eq (p_0 : Int × Int × Int) (R : Value → Heap → Prop) (h : Heap) : fnV C Try.f48 300 system_First_ann [(.agg #[(.int .i64 p_0.1), (.int .i64 p_0.2.1), (.int .i64 p_0.2.2)])] R h = system_First_m p_0 R h := by kernel_rfl
theorem system_First_run (p_0 : Int × Int × Int) {R : Value → Heap → Prop} {h : Heap} (hm : system_First_m p_0 R h) : Meets Try.prog 48 #[(.agg #[(.int .i64 p_0.1), (.int .i64 p_0.2.1), (.int .i64 p_0.2.2)])] h R :=
  fn_spec C_ok (f := 48) (fn := Try.f48) (args := [(.agg #[(.int .i64 p_0.1), (.int .i64 p_0.2.1), (.int .i64 p_0.2.2)])]) Try.func48 (by rw [Try.ntmps48]; exact Nat.le_of_ble_eq_true rfl) (cast (system_First_eq p_0 R h).symm hm)
/-- wellspring/gf.times -/
abbrev gf_times_id : FuncId := 49
noncomputable def gf_times_m (a_0 : Int) (b_1 : Int) (R : Value → Heap → Prop) (h : Heap) : Prop :=
  LoopM (σ := Int × Int × Int) (fun s1 K1 h1 =>
  Br (s1.2.1 == (0 : Int))
  (R (.int .u8 s1.2.2) h1)
  (JoinM (σ := Int) (fun s2 h2 =>
  (0 ≤ (1 : Int)) ∧
  JoinM (σ := Int) (fun s3 h3 =>
  (0 ≤ (1 : Int)) ∧
  K1 (s3, Int.fdiv s1.2.1 (2 ^ min (1 : Int).toNat (IntKind.bits .u8)), s2) h3)
  (fun K3 =>
  Br ((IntKind.wrap .u8 ((BitVec.ofInt (IntKind.bits .u8) s1.1 &&& (BitVec.ofInt (IntKind.bits .u8) (128 : Int))).toNat : Nat)) != (0 : Int))
  (K3 (IntKind.wrap .u8 ((BitVec.ofInt (IntKind.bits .u8) (IntKind.wrap .u8 (s1.1 * 2 ^ min (1 : Int).toNat (IntKind.bits .u8))) ^^^ (BitVec.ofInt (IntKind.bits .u8) (27 : Int))).toNat : Nat)) h2)
  (K3 (IntKind.wrap .u8 (s1.1 * 2 ^ min (1 : Int).toNat (IntKind.bits .u8))) h2)))
  (fun K2 =>
  Br ((IntKind.wrap .u8 ((BitVec.ofInt (IntKind.bits .u8) s1.2.1 &&& (BitVec.ofInt (IntKind.bits .u8) (1 : Int))).toNat : Nat)) == (1 : Int))
  (K2 (IntKind.wrap .u8 ((BitVec.ofInt (IntKind.bits .u8) s1.2.2 ^^^ (BitVec.ofInt (IntKind.bits .u8) s1.1)).toNat : Nat)) h1)
  (K2 s1.2.2 h1)))) (a_0, b_1, (0 : Int)) h
noncomputable def gf_times_ann : Ann := (.two .n (.scope 0 [(0, (.sc (.int .u8))), (1, (.sc (.int .u8))), (5, (.sc (.int .u8)))] [(0, 2), (4, 26)] [.n] [(.two .n (.two (.join [(5, (.sc (.int .u8)))] [(5, 6), (10, 16)] .n) (.two .n (.two .n (.two (.join [(0, (.sc (.int .u8)))] [(0, 1), (21, 24)] .n) .n)))))] []))
theorem gf_times_eq (a_0 : Int) (b_1 : Int) (R : Value → Heap → Prop) (h : Heap) : fnV C Try.f49 300 gf_times_ann [(.int .u8 a_0), (.int .u8 b_1)] R h = gf_times_m a_0 b_1 R h := by kernel_rfl
theorem gf_times_run (a_0 : Int) (b_1 : Int) {R : Value → Heap → Prop} {h : Heap} (hm : gf_times_m a_0 b_1 R h) : Meets Try.prog 49 #[(.int .u8 a_0), (.int .u8 b_1)] h R :=
  fn_spec C_ok (f := 49) (fn := Try.f49) (args := [(.int .u8 a_0), (.int .u8 b_1)]) Try.func49 (by rw [Try.ntmps49]; exact Nat.le_of_ble_eq_true rfl) (cast (gf_times_eq a_0 b_1 R h).symm hm)
/-- (*wellspring/gf.Field).own -/
abbrev gf_Field_own_id : FuncId := 50
noncomputable def gf_Field_own_m (f_0 : Option Addr) (R : Value → Heap → Prop) (h : Heap) : Prop :=
  Br (Option.isNone f_0)
  (CallM Try.prog 21 #[] (.one (.sc .ptr)) h fun r1 h1 =>
  R (.pointer r1) h1)
  (R (.pointer f_0) h)
noncomputable def gf_Field_own_ann : Ann := .n
theorem gf_Field_own_eq (f_0 : Option Addr) (R : Value → Heap → Prop) (h : Heap) : fnV C Try.f50 300 gf_Field_own_ann [(.pointer f_0)] R h = gf_Field_own_m f_0 R h := by kernel_rfl
theorem gf_Field_own_run (f_0 : Option Addr) {R : Value → Heap → Prop} {h : Heap} (hm : gf_Field_own_m f_0 R h) : Meets Try.prog 50 #[(.pointer f_0)] h R :=
  fn_spec C_ok (f := 50) (fn := Try.f50) (args := [(.pointer f_0)]) Try.func50 (by rw [Try.ntmps50]; exact Nat.le_of_ble_eq_true rfl) (cast (gf_Field_own_eq f_0 R h).symm hm)
/-- bytes.Clone -/
abbrev bytes_Clone_id : FuncId := 51
noncomputable def bytes_Clone_m (b_0 : Sl) (R : Value → Heap → Prop) (h : Heap) : Prop :=
  Br (Option.isNone b_0.ptr)
  (R (.slice none 0 0) h)
  (RunsR Try.prog (Instr.buildSlice 54 0 #[]) (.one (.sc .slc)) h fun v1 h1 =>
  RunsR Try.prog (Builtin.append_ #[54, 54] 54 #[(.slice v1.ptr v1.len v1.cap), (.slice b_0.ptr b_0.len b_0.cap)]) (.one (.sc .slc)) h1 fun v2 h2 =>
  R (.slice v2.ptr v2.len v2.cap) h2)
noncomputable def bytes_Clone_ann : Ann := .n
theorem bytes_Clone_eq (b_0 : Sl) (R : Value → Heap → Prop) (h : Heap) : fnV C Try.f51 300 bytes_Clone_ann [(.slice b_0.ptr b_0.len b_0.cap)] R h = bytes_Clone_m b_0 R h := by kernel_rfl
theorem bytes_Clone_run (b_0 : Sl) {R : Value → Heap → Prop} {h : Heap} (hm : bytes_Clone_m b_0 R h) : Meets Try.prog 51 #[(.slice b_0.ptr b_0.len b_0.cap)] h R :=
  fn_spec C_ok (f := 51) (fn := Try.f51) (args := [(.slice b_0.ptr b_0.len b_0.cap)]) Try.func51 (by rw [Try.ntmps51]; exact Nat.le_of_ble_eq_true rfl) (cast (bytes_Clone_eq b_0 R h).symm hm)
/-- wellspring/row.Axpy -/
abbrev row_Axpy_id : FuncId := 52
noncomputable def row_Axpy_m (f_0 : Option Addr) (c_1 : Int) (a_2 : Sl) (b_3 : Sl) (R : Value → Heap → Prop) (h : Heap) : Prop :=
  CallM Try.prog 63 #[(.pointer f_0), (.int .u8 c_1), (.slice a_2.ptr a_2.len a_2.cap)] (.one (.sc .slc)) h fun r1 h1 =>
  CallM Try.prog 62 #[(.slice r1.ptr r1.len r1.cap), (.slice b_3.ptr b_3.len b_3.cap)] (.many [(.sc .slc), (.sc .bool)]) h1 fun r2 h2 =>
  R (.tuple #[(.slice r2.1.ptr r2.1.len r2.1.cap), (.bool r2.2)]) h2
noncomputable def row_Axpy_ann : Ann := .n
theorem row_Axpy_eq (f_0 : Option Addr) (c_1 : Int) (a_2 : Sl) (b_3 : Sl) (R : Value → Heap → Prop) (h : Heap) : fnV C Try.f52 300 row_Axpy_ann [(.pointer f_0), (.int .u8 c_1), (.slice a_2.ptr a_2.len a_2.cap), (.slice b_3.ptr b_3.len b_3.cap)] R h = row_Axpy_m f_0 c_1 a_2 b_3 R h := by kernel_rfl
theorem row_Axpy_run (f_0 : Option Addr) (c_1 : Int) (a_2 : Sl) (b_3 : Sl) {R : Value → Heap → Prop} {h : Heap} (hm : row_Axpy_m f_0 c_1 a_2 b_3 R h) : Meets Try.prog 52 #[(.pointer f_0), (.int .u8 c_1), (.slice a_2.ptr a_2.len a_2.cap), (.slice b_3.ptr b_3.len b_3.cap)] h R :=
  fn_spec C_ok (f := 52) (fn := Try.f52) (args := [(.pointer f_0), (.int .u8 c_1), (.slice a_2.ptr a_2.len a_2.cap), (.slice b_3.ptr b_3.len b_3.cap)]) Try.func52 (by rw [Try.ntmps52]; exact Nat.le_of_ble_eq_true rfl) (cast (row_Axpy_eq f_0 c_1 a_2 b_3 R h).symm hm)
/-- slices.IndexFunc[[]byte,byte] -/
abbrev slices_IndexFunc_byte_byte_id : FuncId := 53
noncomputable def slices_IndexFunc_byte_byte_m (s_0 : Sl) (f_1 : FuncId × Array Value) (R : Value → Heap → Prop) (h : Heap) : Prop :=
  LoopM (σ := Int) (fun s1 K1 h1 =>
  Br (decide (s1 < ((s_0.len : Nat) : Int)))
  (∃ a2 : Addr, (s_0.ptr = some a2 ∧ 0 ≤ s1 ∧ s1 < ((s_0.len : Nat) : Int)) ∧
  ∃ x3 : Int, cellOf h1 (a2.add (s1.toNat * 1)) = some (.int .u8 x3) ∧
  DynM C f_1.1 ([(.int .u8 x3)] ++ f_1.2.toList) (.one (.sc .bool)) h1 fun r4 h2 =>
  Br r4
  (R (.int .i64 s1) h2)
  (K1 (IntKind.wrap .i64 (s1 + (1 : Int))) h2))
  (R (.int .i64 (-1 : Int)) h1)) (0 : Int) h
noncomputable def slices_IndexFunc_byte_byte_ann : Ann := (.two .n (.two (.two .n (.inn (.loop [(8, (.sc (.int .i64)))] [(4, 6), (8, 19)] .n))) .n))
theorem slices_IndexFunc_byte_byte_eq (s_0 : Sl) (f_1 : FuncId × Array Value) (R : Value → Heap → Prop) (h : Heap) : fnV C Try.f53 300 slices_IndexFunc_byte_byte_ann [(.slice s_0.ptr s_0.len s_0.cap), (.func (.func f_1.1) #[] f_1.2)] R h = slices_IndexFunc_byte_byte_m s_0 f_1 R h := by kernel_rfl
theorem slices_IndexFunc_byte_byte_run (s_0 : Sl) (f_1 : FuncId × Array Value) {R : Value → Heap → Prop} {h : Heap} (hm : slices_IndexFunc_byte_byte_m s_0 f_1 R h) : Meets Try.prog 53 #[(.slice s_0.ptr s_0.len s_0.cap), (.func (.func f_1.1) #[] f_1.2)] h R :=
  fn_spec C_ok (f := 53) (fn := Try.f53) (args := [(.slice s_0.ptr s_0.len s_0.cap), (.func (.func f_1.1) #[] f_1.2)]) Try.func53 (by rw [Try.ntmps53]; exact Nat.le_of_ble_eq_true rfl) (cast (slices_IndexFunc_byte_byte_eq s_0 f_1 R h).symm hm)
/-- wellspring/row.Lead$1 -/
abbrev row_Lead_1_id : FuncId := 54
noncomputable def row_Lead_1_m (x_0 : Int) (R : Value → Heap → Prop) (h : Heap) : Prop :=
  R (.bool (x_0 != (0 : Int))) h
noncomputable def row_Lead_1_ann : Ann := .n
theorem row_Lead_1_eq (x_0 : Int) (R : Value → Heap → Prop) (h : Heap) : fnV C Try.f54 300 row_Lead_1_ann [(.int .u8 x_0)] R h = row_Lead_1_m x_0 R h := by kernel_rfl
theorem row_Lead_1_run (x_0 : Int) {R : Value → Heap → Prop} {h : Heap} (hm : row_Lead_1_m x_0 R h) : Meets Try.prog 54 #[(.int .u8 x_0)] h R :=
  fn_spec C_ok (f := 54) (fn := Try.f54) (args := [(.int .u8 x_0)]) Try.func54 (by rw [Try.ntmps54]; exact Nat.le_of_ble_eq_true rfl) (cast (row_Lead_1_eq x_0 R h).symm hm)
/-- wellspring/mat.May -/
abbrev mat_May_id : FuncId := 55
noncomputable def mat_May_m (a_0 : Sl) (R : Value → Heap → Prop) (h : Heap) : Prop :=
  LoopM (σ := Int) (fun s1 K1 h1 =>
  Br (decide (s1 < ((a_0.len : Nat) : Int)))
  (∃ a2 : Addr, (a_0.ptr = some a2 ∧ 0 ≤ s1 ∧ s1 < ((a_0.len : Nat) : Int)) ∧
  ∃ x3 : Sl, cellOf h1 (a2.add (s1.toNat * 1)) = some (.slice x3.ptr x3.len x3.cap) ∧
  ∃ a4 : Addr, (a_0.ptr = some a4 ∧ 0 ≤ (0 : Int) ∧ (0 : Int) < ((a_0.len : Nat) : Int)) ∧
  ∃ x5 : Sl, cellOf h1 (a4.add ((0 : Int).toNat * 1)) = some (.slice x5.ptr x5.len x5.cap) ∧
  Br (((x3.len : Nat) : Int) != ((x5.len : Nat) : Int)) (R (.bool false) h1) (Br (decide (((x3.len : Nat) : Int) > (64 : Int)))
  (R (.bool false) h1)
  (K1 (IntKind.wrap .i64 (s1 + (1 : Int))) h1)))
  (R (.bool true) h1)) (0 : Int) h
noncomputable def mat_May_ann : Ann := (.two .n (.two (.two .n (.inn (.loop [(7, (.sc (.int .i64)))] [(2, 3), (4, 5), (7, 24)] .n))) .n))
theorem mat_May_eq (a_0 : Sl) (R : Value → Heap → Prop) (h : Heap) : fnV C Try.f55 300 mat_May_ann [(.slice a_0.ptr a_0.len a_0.cap)] R h = mat_May_m a_0 R h := by kernel_rfl
theorem mat_May_run (a_0 : Sl) {R : Value → Heap → Prop} {h : Heap} (hm : mat_May_m a_0 R h) : Meets Try.prog 55 #[(.slice a_0.ptr a_0.len a_0.cap)] h R :=
  fn_spec C_ok (f := 55) (fn := Try.f55) (args := [(.slice a_0.ptr a_0.len a_0.cap)]) Try.func55 (by rw [Try.ntmps55]; exact Nat.le_of_ble_eq_true rfl) (cast (mat_May_eq a_0 R h).symm hm)
/-- wellspring/mat.own -/
abbrev mat_own_id : FuncId := 56
noncomputable def mat_own_m (a_0 : Sl) (R : Value → Heap → Prop) (h : Heap) : Prop :=
  RunsR Try.prog (Instr.makeSlice 52 (.int .i64 (0 : Int)) (.int .i64 ((a_0.len : Nat) : Int))) (.one (.sc .slc)) h fun v1 h1 =>
  LoopM (σ := Sl × Int) (fun s2 K1 h2 =>
  Br (decide (s2.2 < ((a_0.len : Nat) : Int)))
  (∃ a3 : Addr, (a_0.ptr = some a3 ∧ 0 ≤ s2.2 ∧ s2.2 < ((a_0.len : Nat) : Int)) ∧
  ∃ x4 : Sl, cellOf h2 (a3.add (s2.2.toNat * 1)) = some (.slice x4.ptr x4.len x4.cap) ∧
  CallM Try.prog 51 #[(.slice x4.ptr x4.len x4.cap)] (.one (.sc .slc)) h2 fun r5 h3 =>
  RunsR Try.prog (Instr.buildSlice 52 1 #[(0, (.slice r5.ptr r5.len r5.cap))]) (.one (.sc .slc)) h3 fun v6 h4 =>
  RunsR Try.prog (Builtin.append_ #[52, 52] 52 #[(.slice s2.1.ptr s2.1.len s2.1.cap), (.slice v6.ptr v6.len v6.cap)]) (.one (.sc .slc)) h4 fun v7 h5 =>
  K1 ((⟨v7.ptr, v7.len, v7.cap⟩ : Sl), IntKind.wrap .i64 (s2.2 + (1 : Int))) h5)
  (R (.slice s2.1.ptr s2.1.len s2.1.cap) h2)) ((⟨v1.ptr, v1.len, v1.cap⟩ : Sl), (0 : Int)) h1
noncomputable def mat_own_ann : Ann := (.two .n (.two .n (.two (.two .n (.inn (.loop [(3, (.sc .slc)), (11, (.sc (.int .i64)))] [(3, 4), (5, 6), (11, 21)] .n))) .n)))
theorem mat_own_eq (a_0 : Sl) (R : Value → Heap → Prop) (h : Heap) : fnV C Try.f56 300 mat_own_ann [(.slice a_0.ptr a_0.len a_0.cap)] R h = mat_own_m a_0 R h := by kernel_rfl
theorem mat_own_run (a_0 : Sl) {R : Value → Heap → Prop} {h : Heap} (hm : mat_own_m a_0 R h) : Meets Try.prog 56 #[(.slice a_0.ptr a_0.len a_0.cap)] h R :=
  fn_spec C_ok (f := 56) (fn := Try.f56) (args := [(.slice a_0.ptr a_0.len a_0.cap)]) Try.func56 (by rw [Try.ntmps56]; exact Nat.le_of_ble_eq_true rfl) (cast (mat_own_eq a_0 R h).symm hm)
/-- wellspring/mat.reduce -/
abbrev mat_reduce_id : FuncId := 57
noncomputable def mat_reduce_m (f_0 : Option Addr) (a_1 : Sl) (cols_2 : Int) (R : Value → Heap → Prop) (h : Heap) : Prop :=
  LoopM (σ := Int × Int) (fun s1 K1 h1 =>
  Br (decide (s1.2 < cols_2))
  (CallM Try.prog 64 #[(.slice a_1.ptr a_1.len a_1.cap), (.int .i64 s1.1), (.int .i64 s1.2)] (.one (.sc (.int .i64))) h1 fun r2 h2 =>
  Br (decide (r2 < (0 : Int)))
  (K1 (s1.1, IntKind.wrap .i64 (s1.2 + (1 : Int))) h2)
  (JoinM (σ := Unit) (fun _ h5 =>
  JoinM (σ := Unit) (fun _ h9 =>
  LoopM (σ := Int) (fun s20 K4 h10 =>
  Br (decide (s20 < ((a_1.len : Nat) : Int)))
  (Br (s20 != s1.1)
  (∃ a21 : Addr, (a_1.ptr = some a21 ∧ 0 ≤ s20 ∧ s20 < ((a_1.len : Nat) : Int)) ∧
  ∃ x22 : Sl, cellOf h10 (a21.add (s20.toNat * 1)) = some (.slice x22.ptr x22.len x22.cap) ∧
  ∃ a23 : Addr, (x22.ptr = some a23 ∧ 0 ≤ s1.2 ∧ s1.2 < ((x22.len : Nat) : Int)) ∧
  ∃ x24 : Int, cellOf h10 (a23.add (s1.2.toNat * 1)) = some (.int .u8 x24) ∧
  ∃ a25 : Addr, (a_1.ptr = some a25 ∧ 0 ≤ s1.1 ∧ s1.1 < ((a_1.len : Nat) : Int)) ∧
  ∃ x26 : Sl, cellOf h10 (a25.add (s1.1.toNat * 1)) = some (.slice x26.ptr x26.len x26.cap) ∧
  ∃ a27 : Addr, (a_1.ptr = some a27 ∧ 0 ≤ s20 ∧ s20 < ((a_1.len : Nat) : Int)) ∧
  ∃ x28 : Sl, cellOf h10 (a27.add (s20.toNat * 1)) = some (.slice x28.ptr x28.len x28.cap) ∧
  CallM Try.prog 66 #[(.pointer f_0), (.int .u8 x24), (.slice x26.ptr x26.len x26.cap), (.slice x28.ptr x28.len x28.cap)] (.many []) h10 fun _ h11 =>
  (Held.ok [(a21.add (s20.toNat * 1), (.slice x22.ptr x22.len x22.cap))] h11) ∧
  K4 (IntKind.wrap .i64 (s20 + (1 : Int))) h11)
  (K4 (IntKind.wrap .i64 (s20 + (1 : Int))) h10))
  (K1 (IntKind.wrap .i64 (s1.1 + (1 : Int)), IntKind.wrap .i64 (s1.2 + (1 : Int))) h10)) (0 : Int) h9)
  (fun K3 =>
  ∃ a10 : Addr, (a_1.ptr = some a10 ∧ 0 ≤ s1.1 ∧ s1.1 < ((a_1.len : Nat) : Int)) ∧
  ∃ x11 : Sl, cellOf h5 (a10.add (s1.1.toNat * 1)) = some (.slice x11.ptr x11.len x11.cap) ∧
  ∃ a12 : Addr, (x11.ptr = some a12 ∧ 0 ≤ s1.2 ∧ s1.2 < ((x11.len : Nat) : Int)) ∧
  ∃ x13 : Int, cellOf h5 (a12.add (s1.2.toNat * 1)) = some (.int .u8 x13) ∧
  ∃ a14 : Addr, (a_1.ptr = some a14 ∧ 0 ≤ s1.1 ∧ s1.1 < ((a_1.len : Nat) : Int)) ∧
  ∃ x15 : Sl, cellOf h5 (a14.add (s1.1.toNat * 1)) = some (.slice x15.ptr x15.len x15.cap) ∧
  CallM Try.prog 65 #[(.pointer f_0), (.int .u8 x13)] (.one (.sc (.int .u8))) h5 fun r16 h6 =>
  (Held.ok [(a14.add (s1.1.toNat * 1), (.slice x15.ptr x15.len x15.cap)), (a10.add (s1.1.toNat * 1), (.slice x11.ptr x11.len x11.cap))] h6) ∧
  CallM Try.prog 63 #[(.pointer f_0), (.int .u8 r16), (.slice x15.ptr x15.len x15.cap)] (.one (.sc .slc)) h6 fun r17 h7 =>
  (Held.ok [(a10.add (s1.1.toNat * 1), (.slice x11.ptr x11.len x11.cap))] h7) ∧
  ∃ a18 : Addr, (a_1.ptr = some a18 ∧ 0 ≤ s1.1 ∧ s1.1 < ((a_1.len : Nat) : Int)) ∧
  Runs Try.prog (Instr.storeAt 54 (.pointer (some (a18.add (s1.1.toNat * 1)))) (.slice r17.ptr r17.len r17.cap)) h7 fun _ h8 =>
  (Held.ok [] h8) ∧
  K3 () h8))
  (fun K2 =>
  ∃ a3 : Addr, (a_1.ptr = some a3 ∧ 0 ≤ r2 ∧ r2 < ((a_1.len : Nat) : Int)) ∧
  ∃ x4 : Sl, cellOf h2 (a3.add (r2.toNat * 1)) = some (.slice x4.ptr x4.len x4.cap) ∧
  ∃ a5 : Addr, (a_1.ptr = some a5 ∧ 0 ≤ s1.1 ∧ s1.1 < ((a_1.len : Nat) : Int)) ∧
  ∃ x6 : Sl, cellOf h2 (a5.add (s1.1.toNat * 1)) = some (.slice x6.ptr x6.len x6.cap) ∧
  ∃ a7 : Addr, (a_1.ptr = some a7 ∧ 0 ≤ s1.1 ∧ s1.1 < ((a_1.len : Nat) : Int)) ∧
  Runs Try.prog (Instr.storeAt 54 (.pointer (some (a7.add (s1.1.toNat * 1)))) (.slice x4.ptr x4.len x4.cap)) h2 fun _ h3 =>
  (Held.ok [] h3) ∧
  ∃ a8 : Addr, (a_1.ptr = some a8 ∧ 0 ≤ r2 ∧ r2 < ((a_1.len : Nat) : Int)) ∧
  Runs Try.prog (Instr.storeAt 54 (.pointer (some (a8.add (r2.toNat * 1)))) (.slice x6.ptr x6.len x6.cap)) h3 fun _ h4 =>
  (Held.ok [] h4) ∧
  K2 () h4)))
  (R (.int .i64 s1.1) h1)) ((0 : Int), (0 : Int)) h
noncomputable def mat_reduce_ann : Ann := (.two .n (.two .n (.two (.two .n (.inn (.loop [(7, (.sc (.int .i64))), (12, (.sc (.int .i64)))] [(7, 11), (12, 82)] (.two .n (.two .n (.two (.inn (.two .n (.two .n (.two .n (.two (.join [] [(21, 35)] .n) (.two (.join [] [(35, 53)] .n) (.two (.two .n (.inn (.loop [(55, (.sc (.int .i64)))] [(10, 11), (55, 79)] .n))) .n))))))) .n)))))) .n)))
theorem mat_reduce_eq (f_0 : Option Addr) (a_1 : Sl) (cols_2 : Int) (R : Value → Heap → Prop) (h : Heap) : fnV C Try.f57 300 mat_reduce_ann [(.pointer f_0), (.slice a_1.ptr a_1.len a_1.cap), (.int .i64 cols_2)] R h = mat_reduce_m f_0 a_1 cols_2 R h := by kernel_rfl
theorem mat_reduce_run (f_0 : Option Addr) (a_1 : Sl) (cols_2 : Int) {R : Value → Heap → Prop} {h : Heap} (hm : mat_reduce_m f_0 a_1 cols_2 R h) : Meets Try.prog 57 #[(.pointer f_0), (.slice a_1.ptr a_1.len a_1.cap), (.int .i64 cols_2)] h R :=
  fn_spec C_ok (f := 57) (fn := Try.f57) (args := [(.pointer f_0), (.slice a_1.ptr a_1.len a_1.cap), (.int .i64 cols_2)]) Try.func57 (by rw [Try.ntmps57]; exact Nat.le_of_ble_eq_true rfl) (cast (mat_reduce_eq f_0 a_1 cols_2 R h).symm hm)
/-- wellspring/mat.sure -/
abbrev mat_sure_id : FuncId := 58
noncomputable def mat_sure_m (f_0 : Option Addr) (R : Value → Heap → Prop) (h : Heap) : Prop :=
  Br (Option.isNone f_0)
  (CallM Try.prog 21 #[] (.one (.sc .ptr)) h fun r1 h1 =>
  R (.pointer r1) h1)
  (R (.pointer f_0) h)
noncomputable def mat_sure_ann : Ann := .n
theorem mat_sure_eq (f_0 : Option Addr) (R : Value → Heap → Prop) (h : Heap) : fnV C Try.f58 300 mat_sure_ann [(.pointer f_0)] R h = mat_sure_m f_0 R h := by kernel_rfl
theorem mat_sure_run (f_0 : Option Addr) {R : Value → Heap → Prop} {h : Heap} (hm : mat_sure_m f_0 R h) : Meets Try.prog 58 #[(.pointer f_0)] h R :=
  fn_spec C_ok (f := 58) (fn := Try.f58) (args := [(.pointer f_0)]) Try.func58 (by rw [Try.ntmps58]; exact Nat.le_of_ble_eq_true rfl) (cast (mat_sure_eq f_0 R h).symm hm)
/-- wellspring/mat.width -/
abbrev mat_width_id : FuncId := 59
noncomputable def mat_width_m (a_0 : Sl) (R : Value → Heap → Prop) (h : Heap) : Prop :=
  Br (((a_0.len : Nat) : Int) == (0 : Int))
  (R (.int .i64 (0 : Int)) h)
  (∃ a1 : Addr, (a_0.ptr = some a1 ∧ 0 ≤ (0 : Int) ∧ (0 : Int) < ((a_0.len : Nat) : Int)) ∧
  ∃ x2 : Sl, cellOf h (a1.add ((0 : Int).toNat * 1)) = some (.slice x2.ptr x2.len x2.cap) ∧
  R (.int .i64 ((x2.len : Nat) : Int)) h)
noncomputable def mat_width_ann : Ann := .n
theorem mat_width_eq (a_0 : Sl) (R : Value → Heap → Prop) (h : Heap) : fnV C Try.f59 300 mat_width_ann [(.slice a_0.ptr a_0.len a_0.cap)] R h = mat_width_m a_0 R h := by kernel_rfl
theorem mat_width_run (a_0 : Sl) {R : Value → Heap → Prop} {h : Heap} (hm : mat_width_m a_0 R h) : Meets Try.prog 59 #[(.slice a_0.ptr a_0.len a_0.cap)] h R :=
  fn_spec C_ok (f := 59) (fn := Try.f59) (args := [(.slice a_0.ptr a_0.len a_0.cap)]) Try.func59 (by rw [Try.ntmps59]; exact Nat.le_of_ble_eq_true rfl) (cast (mat_width_eq a_0 R h).symm hm)
/-- wellspring/lt.Cols -/
abbrev lt_Cols_id : FuncId := 60
noncomputable def lt_Cols_m (p_0 : Int × Int × Int) (seed_1 : Int) (id_2 : Int) (R : Value → Heap → Prop) (h : Heap) : Prop :=
  RunsA Try.prog (Instr.box 24 (.agg #[(.int .i64 p_0.1), (.int .i64 p_0.2.1), (.int .i64 p_0.2.2)])) h fun a1 h1 =>
  JoinM (σ := Unit) (fun _ h3 =>
  ∃ x5 : Int × Int × Int, cellsAt h3 a1 0 [(.int .i64 x5.1), (.int .i64 x5.2.1), (.int .i64 x5.2.2)] ∧
  CallM Try.prog 18 #[(.agg #[(.int .i64 x5.1), (.int .i64 x5.2.1), (.int .i64 x5.2.2)])] (.one (.sc (.int .i64))) h3 fun r6 h4 =>
  CallM Try.prog 67 #[(.int .u32 (IntKind.wrap .u32 ((BitVec.ofInt (IntKind.bits .u32) seed_1 ^^^ (BitVec.ofInt (IntKind.bits .u32) (IntKind.wrap .u32 ((IntKind.wrap .u32 id_2) * (2654435761 : Int))))).toNat : Nat)))] (.one (.sc .ptr)) h4 fun r7 h5 =>
  CallM Try.prog 68 #[(.pointer r7)] (.one (.sc (.int .u32))) h5 fun _ h6 =>
  CallM Try.prog 70 #[(.int .i64 r6)] (.one (.sc .slc)) h6 fun r9 h7 =>
  CallM Try.prog 69 #[(.slice r9.ptr r9.len r9.cap), (.pointer r7)] (.one (.sc (.int .i64))) h7 fun r10 h8 =>
  CallM Try.prog 71 #[(.pointer r7), (.int .i64 r6), (.int .i64 r10)] (.one (.sc .slc)) h8 fun r11 h9 =>
  R (.slice r11.ptr r11.len r11.cap) h9)
  (fun K1 =>
  ∃ x2 : Int × Int × Int, cellsAt h1 a1 0 [(.int .i64 x2.1), (.int .i64 x2.2.1), (.int .i64 x2.2.2)] ∧
  CallM Try.prog 19 #[(.agg #[(.int .i64 x2.1), (.int .i64 x2.2.1), (.int .i64 x2.2.2)])] (.one (.sc .bool)) h1 fun r3 h2 =>
  Br (!r3) (R (.slice none 0 0) h2) (Br (decide (id_2 < (0 : Int))) (R (.slice none 0 0) h2) (Br (decide (id_2 > (65535 : Int)))
  (R (.slice none 0 0) h2)
  (K1 () h2))))
noncomputable def lt_Cols_ann : Ann := (.two .n (.two (.join [] [(6, 7), (10, 21)] .n) .n))
theorem lt_Cols_eq (p_0 : Int × Int × Int) (seed_1 : Int) (id_2 : Int) (R : Value → Heap → Prop) (h : Heap) : fnV C Try.f60 300 lt_Cols_ann [(.agg #[(.int .i64 p_0.1), (.int .i64 p_0.2.1), (.int .i64 p_0.2.2)]), (.int .u32 seed_1), (.int .i64 id_2)] R h = lt_Cols_m p_0 seed_1 id_2 R h := by kernel_rfl
theorem lt_Cols_run (p_0 : Int × Int × Int) (seed_1 : Int) (id_2 : Int) {R : Value → Heap → Prop} {h : Heap} (hm : lt_Cols_m p_0 seed_1 id_2 R h) : Meets Try.prog 60 #[(.agg #[(.int .i64 p_0.1), (.int .i64 p_0.2.1), (.int .i64 p_0.2.2)]), (.int .u32 seed_1), (.int .i64 id_2)] h R :=
  fn_spec C_ok (f := 60) (fn := Try.f60) (args := [(.agg #[(.int .i64 p_0.1), (.int .i64 p_0.2.1), (.int .i64 p_0.2.2)]), (.int .u32 seed_1), (.int .i64 id_2)]) Try.func60 (by rw [Try.ntmps60]; exact Nat.le_of_ble_eq_true rfl) (cast (lt_Cols_eq p_0 seed_1 id_2 R h).symm hm)
/-- (*wellspring/span.Span).Rows -/
abbrev span_Span_Rows_id : FuncId := 61
noncomputable def span_Span_Rows_m (s_0 : Option Addr) (R : Value → Heap → Prop) (h : Heap) : Prop :=
  Br (Option.isNone s_0)
  (R (.slice none 0 0) h)
  (∃ a1 : Addr, (s_0 = some a1) ∧
  ∃ x2 : Sl, cellOf h (a1.add 2) = some (.slice x2.ptr x2.len x2.cap) ∧
  LoopM (σ := Sl × Int) (fun s3 K1 h1 =>
  Br (decide (s3.2 < ((x2.len : Nat) : Int)))
  (∃ a4 : Addr, (x2.ptr = some a4 ∧ 0 ≤ s3.2 ∧ s3.2 < ((x2.len : Nat) : Int)) ∧
  ∃ x5 : Sl, cellOf h1 (a4.add (s3.2.toNat * 1)) = some (.slice x5.ptr x5.len x5.cap) ∧
  CallM Try.prog 51 #[(.slice x5.ptr x5.len x5.cap)] (.one (.sc .slc)) h1 fun r6 h2 =>
  RunsR Try.prog (Instr.buildSlice 52 1 #[(0, (.slice r6.ptr r6.len r6.cap))]) (.one (.sc .slc)) h2 fun v7 h3 =>
  RunsR Try.prog (Builtin.append_ #[52, 52] 52 #[(.slice s3.1.ptr s3.1.len s3.1.cap), (.slice v7.ptr v7.len v7.cap)]) (.one (.sc .slc)) h3 fun v8 h4 =>
  K1 ((⟨v8.ptr, v8.len, v8.cap⟩ : Sl), IntKind.wrap .i64 (s3.2 + (1 : Int))) h4)
  (R (.slice s3.1.ptr s3.1.len s3.1.cap) h1)) ((⟨none, 0, 0⟩ : Sl), (0 : Int)) h)
noncomputable def span_Span_Rows_ann : Ann := (.two .n (.two .n (.two .n (.two (.two .n (.inn (.loop [(3, (.sc .slc)), (13, (.sc (.int .i64)))] [(3, 4), (5, 6), (13, 23)] .n))) .n))))
theorem span_Span_Rows_eq (s_0 : Option Addr) (R : Value → Heap → Prop) (h : Heap) : fnV C Try.f61 300 span_Span_Rows_ann [(.pointer s_0)] R h = span_Span_Rows_m s_0 R h := by kernel_rfl
theorem span_Span_Rows_run (s_0 : Option Addr) {R : Value → Heap → Prop} {h : Heap} (hm : span_Span_Rows_m s_0 R h) : Meets Try.prog 61 #[(.pointer s_0)] h R :=
  fn_spec C_ok (f := 61) (fn := Try.f61) (args := [(.pointer s_0)]) Try.func61 (by rw [Try.ntmps61]; exact Nat.le_of_ble_eq_true rfl) (cast (span_Span_Rows_eq s_0 R h).symm hm)
/-- wellspring/row.Sum -/
abbrev row_Sum_id : FuncId := 62
noncomputable def row_Sum_m (a_0 : Sl) (b_1 : Sl) (R : Value → Heap → Prop) (h : Heap) : Prop :=
  Br (((a_0.len : Nat) : Int) != ((b_1.len : Nat) : Int))
  (R (.tuple #[(.slice none 0 0), (.bool false)]) h)
  (RunsR Try.prog (Instr.makeSlice 54 (.int .i64 ((a_0.len : Nat) : Int)) (.int .i64 ((a_0.len : Nat) : Int))) (.one (.sc .slc)) h fun v1 h1 =>
  LoopM (σ := Int) (fun s2 K1 h2 =>
  Br (decide (s2 < ((a_0.len : Nat) : Int)))
  (∃ a3 : Addr, (a_0.ptr = some a3 ∧ 0 ≤ s2 ∧ s2 < ((a_0.len : Nat) : Int)) ∧
  ∃ x4 : Int, cellOf h2 (a3.add (s2.toNat * 1)) = some (.int .u8 x4) ∧
  ∃ a5 : Addr, (b_1.ptr = some a5 ∧ 0 ≤ s2 ∧ s2 < ((b_1.len : Nat) : Int)) ∧
  ∃ x6 : Int, cellOf h2 (a5.add (s2.toNat * 1)) = some (.int .u8 x6) ∧
  ∃ a7 : Addr, (v1.ptr = some a7 ∧ 0 ≤ s2 ∧ s2 < ((v1.len : Nat) : Int)) ∧
  Runs Try.prog (Instr.storeAt 5 (.pointer (some (a7.add (s2.toNat * 1)))) (.int .u8 (IntKind.wrap .u8 ((BitVec.ofInt (IntKind.bits .u8) x4 ^^^ (BitVec.ofInt (IntKind.bits .u8) x6)).toNat : Nat)))) h2 fun _ h3 =>
  (Held.ok [] h3) ∧
  K1 (IntKind.wrap .i64 (s2 + (1 : Int))) h3)
  (R (.tuple #[(.slice v1.ptr v1.len v1.cap), (.bool true)]) h2)) (0 : Int) h1)
noncomputable def row_Sum_ann : Ann := (.two .n (.two .n (.two .n (.two (.two .n (.inn (.loop [(18, (.sc (.int .i64)))] [(7, 8), (18, 34)] .n))) .n))))
theorem row_Sum_eq (a_0 : Sl) (b_1 : Sl) (R : Value → Heap → Prop) (h : Heap) : fnV C Try.f62 300 row_Sum_ann [(.slice a_0.ptr a_0.len a_0.cap), (.slice b_1.ptr b_1.len b_1.cap)] R h = row_Sum_m a_0 b_1 R h := by kernel_rfl
theorem row_Sum_run (a_0 : Sl) (b_1 : Sl) {R : Value → Heap → Prop} {h : Heap} (hm : row_Sum_m a_0 b_1 R h) : Meets Try.prog 62 #[(.slice a_0.ptr a_0.len a_0.cap), (.slice b_1.ptr b_1.len b_1.cap)] h R :=
  fn_spec C_ok (f := 62) (fn := Try.f62) (args := [(.slice a_0.ptr a_0.len a_0.cap), (.slice b_1.ptr b_1.len b_1.cap)]) Try.func62 (by rw [Try.ntmps62]; exact Nat.le_of_ble_eq_true rfl) (cast (row_Sum_eq a_0 b_1 R h).symm hm)
/-- wellspring/row.Scale -/
abbrev row_Scale_id : FuncId := 63
noncomputable def row_Scale_m (f_0 : Option Addr) (c_1 : Int) (a_2 : Sl) (R : Value → Heap → Prop) (h : Heap) : Prop :=
  CallM Try.prog 72 #[(.pointer f_0)] (.one (.sc .ptr)) h fun r1 h1 =>
  RunsR Try.prog (Instr.makeSlice 54 (.int .i64 ((a_2.len : Nat) : Int)) (.int .i64 ((a_2.len : Nat) : Int))) (.one (.sc .slc)) h1 fun v2 h2 =>
  LoopM (σ := Int) (fun s3 K1 h3 =>
  Br (decide (s3 < ((a_2.len : Nat) : Int)))
  (∃ a4 : Addr, (a_2.ptr = some a4 ∧ 0 ≤ s3 ∧ s3 < ((a_2.len : Nat) : Int)) ∧
  ∃ x5 : Int, cellOf h3 (a4.add (s3.toNat * 1)) = some (.int .u8 x5) ∧
  CallM Try.prog 73 #[(.pointer r1), (.int .u8 c_1), (.int .u8 x5)] (.one (.sc (.int .u8))) h3 fun r6 h4 =>
  ∃ a7 : Addr, (v2.ptr = some a7 ∧ 0 ≤ s3 ∧ s3 < ((v2.len : Nat) : Int)) ∧
  Runs Try.prog (Instr.storeAt 5 (.pointer (some (a7.add (s3.toNat * 1)))) (.int .u8 r6)) h4 fun _ h5 =>
  K1 (IntKind.wrap .i64 (s3 + (1 : Int))) h5)
  (R (.slice v2.ptr v2.len v2.cap) h3)) (0 : Int) h2
noncomputable def row_Scale_ann : Ann := (.two .n (.two .n (.two .n (.two (.two .n (.inn (.loop [(17, (.sc (.int .i64)))] [(8, 10), (17, 30)] .n))) .n))))
theorem row_Scale_eq (f_0 : Option Addr) (c_1 : Int) (a_2 : Sl) (R : Value → Heap → Prop) (h : Heap) : fnV C Try.f63 300 row_Scale_ann [(.pointer f_0), (.int .u8 c_1), (.slice a_2.ptr a_2.len a_2.cap)] R h = row_Scale_m f_0 c_1 a_2 R h := by kernel_rfl
theorem row_Scale_run (f_0 : Option Addr) (c_1 : Int) (a_2 : Sl) {R : Value → Heap → Prop} {h : Heap} (hm : row_Scale_m f_0 c_1 a_2 R h) : Meets Try.prog 63 #[(.pointer f_0), (.int .u8 c_1), (.slice a_2.ptr a_2.len a_2.cap)] h R :=
  fn_spec C_ok (f := 63) (fn := Try.f63) (args := [(.pointer f_0), (.int .u8 c_1), (.slice a_2.ptr a_2.len a_2.cap)]) Try.func63 (by rw [Try.ntmps63]; exact Nat.le_of_ble_eq_true rfl) (cast (row_Scale_eq f_0 c_1 a_2 R h).symm hm)
/-- wellspring/mat.begins -/
abbrev mat_begins_id : FuncId := 64
noncomputable def mat_begins_m (a_0 : Sl) (top_1 : Int) (col_2 : Int) (R : Value → Heap → Prop) (h : Heap) : Prop :=
  LoopM (σ := Int) (fun s1 K1 h1 =>
  Br (decide (s1 ≥ ((a_0.len : Nat) : Int)))
  (R (.int .i64 (-1 : Int)) h1)
  (∃ a2 : Addr, (a_0.ptr = some a2 ∧ 0 ≤ s1 ∧ s1 < ((a_0.len : Nat) : Int)) ∧
  ∃ x3 : Sl, cellOf h1 (a2.add (s1.toNat * 1)) = some (.slice x3.ptr x3.len x3.cap) ∧
  ∃ a4 : Addr, (x3.ptr = some a4 ∧ 0 ≤ col_2 ∧ col_2 < ((x3.len : Nat) : Int)) ∧
  ∃ x5 : Int, cellOf h1 (a4.add (col_2.toNat * 1)) = some (.int .u8 x5) ∧
  Br (x5 != (0 : Int))
  (R (.int .i64 s1) h1)
  (K1 (IntKind.wrap .i64 (s1 + (1 : Int))) h1))) top_1 h
noncomputable def mat_begins_ann : Ann := (.two .n (.scope 0 [(7, (.sc (.int .i64)))] [(6, 8), (9, 24)] [.n] [.n] [(1, [.n])]))
theorem mat_begins_eq (a_0 : Sl) (top_1 : Int) (col_2 : Int) (R : Value → Heap → Prop) (h : Heap) : fnV C Try.f64 300 mat_begins_ann [(.slice a_0.ptr a_0.len a_0.cap), (.int .i64 top_1), (.int .i64 col_2)] R h = mat_begins_m a_0 top_1 col_2 R h := by kernel_rfl
theorem mat_begins_run (a_0 : Sl) (top_1 : Int) (col_2 : Int) {R : Value → Heap → Prop} {h : Heap} (hm : mat_begins_m a_0 top_1 col_2 R h) : Meets Try.prog 64 #[(.slice a_0.ptr a_0.len a_0.cap), (.int .i64 top_1), (.int .i64 col_2)] h R :=
  fn_spec C_ok (f := 64) (fn := Try.f64) (args := [(.slice a_0.ptr a_0.len a_0.cap), (.int .i64 top_1), (.int .i64 col_2)]) Try.func64 (by rw [Try.ntmps64]; exact Nat.le_of_ble_eq_true rfl) (cast (mat_begins_eq a_0 top_1 col_2 R h).symm hm)
/-- (*wellspring/gf.Field).Inv -/
abbrev gf_Field_Inv_id : FuncId := 65
noncomputable def gf_Field_Inv_m (f_0 : Option Addr) (a_1 : Int) (R : Value → Heap → Prop) (h : Heap) : Prop :=
  Br (a_1 == (0 : Int))
  (R (.int .u8 (0 : Int)) h)
  (CallM Try.prog 50 #[(.pointer f_0)] (.one (.sc .ptr)) h fun r1 h1 =>
  ∃ a2 : Addr, (r1 = some a2) ∧
  (0 ≤ a_1 ∧ a_1 < ((256 : Nat) : Int)) ∧
  ∃ x3 : Int, cellOf h1 ((a2.add 255).add (a_1.toNat * 1)) = some (.int .i64 x3) ∧
  ((255 : Int) ≠ 0) ∧
  ∃ a4 : Addr, (r1 = some a4) ∧
  (0 ≤ (Int.tmod (IntKind.wrap .i64 ((255 : Int) - x3)) (255 : Int)) ∧ (Int.tmod (IntKind.wrap .i64 ((255 : Int) - x3)) (255 : Int)) < ((255 : Nat) : Int)) ∧
  ∃ x5 : Int, cellOf h1 (a4.add ((Int.tmod (IntKind.wrap .i64 ((255 : Int) - x3)) (255 : Int)).toNat * 1)) = some (.int .u8 x5) ∧
  R (.int .u8 x5) h1)
noncomputable def gf_Field_Inv_ann : Ann := .n
theorem gf_Field_Inv_eq (f_0 : Option Addr) (a_1 : Int) (R : Value → Heap → Prop) (h : Heap) : fnV C Try.f65 300 gf_Field_Inv_ann [(.pointer f_0), (.int .u8 a_1)] R h = gf_Field_Inv_m f_0 a_1 R h := by kernel_rfl
theorem gf_Field_Inv_run (f_0 : Option Addr) (a_1 : Int) {R : Value → Heap → Prop} {h : Heap} (hm : gf_Field_Inv_m f_0 a_1 R h) : Meets Try.prog 65 #[(.pointer f_0), (.int .u8 a_1)] h R :=
  fn_spec C_ok (f := 65) (fn := Try.f65) (args := [(.pointer f_0), (.int .u8 a_1)]) Try.func65 (by rw [Try.ntmps65]; exact Nat.le_of_ble_eq_true rfl) (cast (gf_Field_Inv_eq f_0 a_1 R h).symm hm)
/-- wellspring/mat.add -/
abbrev mat_add_id : FuncId := 66
noncomputable def mat_add_m (f_0 : Option Addr) (c_1 : Int) (a_2 : Sl) (to_3 : Sl) (R : Value → Heap → Prop) (h : Heap) : Prop :=
  Br (c_1 == (0 : Int))
  (R (.tuple #[]) h)
  (LoopM (σ := Int) (fun s1 K1 h1 =>
  Br (decide (s1 < ((a_2.len : Nat) : Int)))
  (∃ a2 : Addr, (a_2.ptr = some a2 ∧ 0 ≤ s1 ∧ s1 < ((a_2.len : Nat) : Int)) ∧
  ∃ x3 : Int, cellOf h1 (a2.add (s1.toNat * 1)) = some (.int .u8 x3) ∧
  ∃ a4 : Addr, (to_3.ptr = some a4 ∧ 0 ≤ s1 ∧ s1 < ((to_3.len : Nat) : Int)) ∧
  ∃ x5 : Int, cellOf h1 (a4.add (s1.toNat * 1)) = some (.int .u8 x5) ∧
  CallM Try.prog 73 #[(.pointer f_0), (.int .u8 c_1), (.int .u8 x3)] (.one (.sc (.int .u8))) h1 fun r6 h2 =>
  (Held.ok [(a4.add (s1.toNat * 1), (.int .u8 x5))] h2) ∧
  ∃ a7 : Addr, (to_3.ptr = some a7 ∧ 0 ≤ s1 ∧ s1 < ((to_3.len : Nat) : Int)) ∧
  Runs Try.prog (Instr.storeAt 5 (.pointer (some (a7.add (s1.toNat * 1)))) (.int .u8 (IntKind.wrap .u8 ((BitVec.ofInt (IntKind.bits .u8) x5 ^^^ (BitVec.ofInt (IntKind.bits .u8) r6)).toNat : Nat)))) h2 fun _ h3 =>
  (Held.ok [] h3) ∧
  K1 (IntKind.wrap .i64 (s1 + (1 : Int))) h3)
  (R (.tuple #[]) h1)) (0 : Int) h)
noncomputable def mat_add_ann : Ann := (.two .n (.two .n (.inn (.loop [(14, (.sc (.int .i64)))] [(8, 10), (14, 30)] .n))))
theorem mat_add_eq (f_0 : Option Addr) (c_1 : Int) (a_2 : Sl) (to_3 : Sl) (R : Value → Heap → Prop) (h : Heap) : fnV C Try.f66 300 mat_add_ann [(.pointer f_0), (.int .u8 c_1), (.slice a_2.ptr a_2.len a_2.cap), (.slice to_3.ptr to_3.len to_3.cap)] R h = mat_add_m f_0 c_1 a_2 to_3 R h := by kernel_rfl
theorem mat_add_run (f_0 : Option Addr) (c_1 : Int) (a_2 : Sl) (to_3 : Sl) {R : Value → Heap → Prop} {h : Heap} (hm : mat_add_m f_0 c_1 a_2 to_3 R h) : Meets Try.prog 66 #[(.pointer f_0), (.int .u8 c_1), (.slice a_2.ptr a_2.len a_2.cap), (.slice to_3.ptr to_3.len to_3.cap)] h R :=
  fn_spec C_ok (f := 66) (fn := Try.f66) (args := [(.pointer f_0), (.int .u8 c_1), (.slice a_2.ptr a_2.len a_2.cap), (.slice to_3.ptr to_3.len to_3.cap)]) Try.func66 (by rw [Try.ntmps66]; exact Nat.le_of_ble_eq_true rfl) (cast (mat_add_eq f_0 c_1 a_2 to_3 R h).symm hm)
/-- wellspring/draw.New -/
abbrev draw_New_id : FuncId := 67
noncomputable def draw_New_m (seed_0 : Int) (R : Value → Heap → Prop) (h : Heap) : Prop :=
  RunsA Try.prog (Instr.box 110 (.agg #[(.int .u64 (IntKind.wrap .u64 seed_0))])) h fun a1 h1 =>
  R (.pointer (some a1)) h1
noncomputable def draw_New_ann : Ann := .n
theorem draw_New_eq (seed_0 : Int) (R : Value → Heap → Prop) (h : Heap) : fnV C Try.f67 300 draw_New_ann [(.int .u32 seed_0)] R h = draw_New_m seed_0 R h := by kernel_rfl
theorem draw_New_run (seed_0 : Int) {R : Value → Heap → Prop} {h : Heap} (hm : draw_New_m seed_0 R h) : Meets Try.prog 67 #[(.int .u32 seed_0)] h R :=
  fn_spec C_ok (f := 67) (fn := Try.f67) (args := [(.int .u32 seed_0)]) Try.func67 (by rw [Try.ntmps67]; exact Nat.le_of_ble_eq_true rfl) (cast (draw_New_eq seed_0 R h).symm hm)
/-- (*wellspring/draw.Draw).Next -/
abbrev draw_Draw_Next_id : FuncId := 68
noncomputable def draw_Draw_Next_m (d_0 : Option Addr) (R : Value → Heap → Prop) (h : Heap) : Prop :=
  Br (Option.isNone d_0)
  (R (.int .u32 (0 : Int)) h)
  (∃ a1 : Addr, (d_0 = some a1) ∧
  ∃ x2 : Int, cellOf h a1 = some (.int .u64 x2) ∧
  ∃ a3 : Addr, (d_0 = some a3) ∧
  Runs Try.prog (Instr.storeAt 108 (.pointer (some a3)) (.int .u64 (IntKind.wrap .u64 ((IntKind.wrap .u64 (x2 * (6364136223846793005 : Int))) + (1442695040888963407 : Int))))) h fun _ h1 =>
  ∃ a4 : Addr, (d_0 = some a4) ∧
  ∃ x5 : Int, cellOf h1 a4 = some (.int .u64 x5) ∧
  (0 ≤ (32 : Int)) ∧
  R (.int .u32 (IntKind.wrap .u32 (Int.fdiv x5 (2 ^ min (32 : Int).toNat (IntKind.bits .u64))))) h1)
noncomputable def draw_Draw_Next_ann : Ann := .n
theorem draw_Draw_Next_eq (d_0 : Option Addr) (R : Value → Heap → Prop) (h : Heap) : fnV C Try.f68 300 draw_Draw_Next_ann [(.pointer d_0)] R h = draw_Draw_Next_m d_0 R h := by kernel_rfl
theorem draw_Draw_Next_run (d_0 : Option Addr) {R : Value → Heap → Prop} {h : Heap} (hm : draw_Draw_Next_m d_0 R h) : Meets Try.prog 68 #[(.pointer d_0)] h R :=
  fn_spec C_ok (f := 68) (fn := Try.f68) (args := [(.pointer d_0)]) Try.func68 (by rw [Try.ntmps68]; exact Nat.le_of_ble_eq_true rfl) (cast (draw_Draw_Next_eq d_0 R h).symm hm)
/-- wellspring/soliton.Draw -/
abbrev soliton_Draw_id : FuncId := 69
noncomputable def soliton_Draw_m (t_0 : Sl) (d_1 : Option Addr) (R : Value → Heap → Prop) (h : Heap) : Prop :=
  Br (((t_0.len : Nat) : Int) == (0 : Int))
  (R (.int .i64 (0 : Int)) h)
  (∃ a1 : Addr, (t_0.ptr = some a1 ∧ 0 ≤ (IntKind.wrap .i64 (((t_0.len : Nat) : Int) - (1 : Int))) ∧ (IntKind.wrap .i64 (((t_0.len : Nat) : Int) - (1 : Int))) < ((t_0.len : Nat) : Int)) ∧
  ∃ x2 : Int, cellOf h (a1.add ((IntKind.wrap .i64 (((t_0.len : Nat) : Int) - (1 : Int))).toNat * 1)) = some (.int .i64 x2) ∧
  CallM Try.prog 75 #[(.pointer d_1), (.int .i64 x2)] (.one (.sc (.int .i64))) h fun r3 h1 =>
  CallM Try.prog 74 #[(.slice t_0.ptr t_0.len t_0.cap), (.int .i64 r3)] (.one (.sc (.int .i64))) h1 fun r4 h2 =>
  R (.int .i64 r4) h2)
noncomputable def soliton_Draw_ann : Ann := .n
theorem soliton_Draw_eq (t_0 : Sl) (d_1 : Option Addr) (R : Value → Heap → Prop) (h : Heap) : fnV C Try.f69 300 soliton_Draw_ann [(.slice t_0.ptr t_0.len t_0.cap), (.pointer d_1)] R h = soliton_Draw_m t_0 d_1 R h := by kernel_rfl
theorem soliton_Draw_run (t_0 : Sl) (d_1 : Option Addr) {R : Value → Heap → Prop} {h : Heap} (hm : soliton_Draw_m t_0 d_1 R h) : Meets Try.prog 69 #[(.slice t_0.ptr t_0.len t_0.cap), (.pointer d_1)] h R :=
  fn_spec C_ok (f := 69) (fn := Try.f69) (args := [(.slice t_0.ptr t_0.len t_0.cap), (.pointer d_1)]) Try.func69 (by rw [Try.ntmps69]; exact Nat.le_of_ble_eq_true rfl) (cast (soliton_Draw_eq t_0 d_1 R h).symm hm)
/-- wellspring/soliton.Table -/
abbrev soliton_Table_id : FuncId := 70
noncomputable def soliton_Table_m (l_0 : Int) (R : Value → Heap → Prop) (h : Heap) : Prop :=
  JoinM (σ := Unit) (fun _ h1 =>
  RunsR Try.prog (Instr.makeSlice 28 (.int .i64 (0 : Int)) (.int .i64 l_0)) (.one (.sc .slc)) h1 fun v2 h2 =>
  LoopM (σ := Sl × Int × Int) (fun s3 K2 h3 =>
  Br (decide (s3.2.2 ≤ l_0))
  (CallM Try.prog 76 #[(.int .i64 l_0), (.int .i64 s3.2.2)] (.one (.sc (.int .i64))) h3 fun r4 h4 =>
  RunsR Try.prog (Instr.buildSlice 28 1 #[(0, (.int .i64 (IntKind.wrap .i64 (s3.2.1 + r4))))]) (.one (.sc .slc)) h4 fun v5 h5 =>
  RunsR Try.prog (Builtin.append_ #[28, 28] 28 #[(.slice s3.1.ptr s3.1.len s3.1.cap), (.slice v5.ptr v5.len v5.cap)]) (.one (.sc .slc)) h5 fun v6 h6 =>
  K2 ((⟨v6.ptr, v6.len, v6.cap⟩ : Sl), IntKind.wrap .i64 (s3.2.1 + r4), IntKind.wrap .i64 (s3.2.2 + (1 : Int))) h6)
  (R (.slice s3.1.ptr s3.1.len s3.1.cap) h3)) ((⟨v2.ptr, v2.len, v2.cap⟩ : Sl), (0 : Int), (1 : Int)) h2)
  (fun K1 =>
  Br (decide (l_0 < (1 : Int))) (R (.slice none 0 0) h) (Br (decide (l_0 > (64 : Int)))
  (R (.slice none 0 0) h)
  (K1 () h)))
noncomputable def soliton_Table_ann : Ann := (.two .n (.two (.join [] [(2, 3), (6, 12)] .n) (.two .n (.two .n (.two (.two .n (.inn (.loop [(3, (.sc .slc)), (4, (.sc (.int .i64))), (5, (.sc (.int .i64)))] [(3, 6), (14, 28)] .n))) .n)))))
theorem soliton_Table_eq (l_0 : Int) (R : Value → Heap → Prop) (h : Heap) : fnV C Try.f70 300 soliton_Table_ann [(.int .i64 l_0)] R h = soliton_Table_m l_0 R h := by kernel_rfl
theorem soliton_Table_run (l_0 : Int) {R : Value → Heap → Prop} {h : Heap} (hm : soliton_Table_m l_0 R h) : Meets Try.prog 70 #[(.int .i64 l_0)] h R :=
  fn_spec C_ok (f := 70) (fn := Try.f70) (args := [(.int .i64 l_0)]) Try.func70 (by rw [Try.ntmps70]; exact Nat.le_of_ble_eq_true rfl) (cast (soliton_Table_eq l_0 R h).symm hm)
/-- wellspring/choose.Some -/
abbrev choose_Some_id : FuncId := 71
noncomputable def choose_Some_m (d_0 : Option Addr) (n_1 : Int) (k_2 : Int) (R : Value → Heap → Prop) (h : Heap) : Prop :=
  JoinM (σ := Unit) (fun _ h1 =>
  RunsR Try.prog (Instr.makeSlice 28 (.int .i64 n_1) (.int .i64 n_1)) (.one (.sc .slc)) h1 fun v2 h2 =>
  LoopM (σ := Int) (fun s3 K2 h3 =>
  Br (decide (s3 < ((v2.len : Nat) : Int)))
  (∃ a4 : Addr, (v2.ptr = some a4 ∧ 0 ≤ s3 ∧ s3 < ((v2.len : Nat) : Int)) ∧
  Runs Try.prog (Instr.storeAt 3 (.pointer (some (a4.add (s3.toNat * 1)))) (.int .i64 s3)) h3 fun _ h4 =>
  K2 (IntKind.wrap .i64 (s3 + (1 : Int))) h4)
  (LoopM (σ := Int) (fun s5 K3 h5 =>
  Br (decide (s5 < k_2))
  (CallM Try.prog 75 #[(.pointer d_0), (.int .i64 (IntKind.wrap .i64 (n_1 - s5)))] (.one (.sc (.int .i64))) h5 fun r6 h6 =>
  ∃ a7 : Addr, (v2.ptr = some a7 ∧ 0 ≤ (IntKind.wrap .i64 (s5 + r6)) ∧ (IntKind.wrap .i64 (s5 + r6)) < ((v2.len : Nat) : Int)) ∧
  ∃ x8 : Int, cellOf h6 (a7.add ((IntKind.wrap .i64 (s5 + r6)).toNat * 1)) = some (.int .i64 x8) ∧
  ∃ a9 : Addr, (v2.ptr = some a9 ∧ 0 ≤ s5 ∧ s5 < ((v2.len : Nat) : Int)) ∧
  ∃ x10 : Int, cellOf h6 (a9.add (s5.toNat * 1)) = some (.int .i64 x10) ∧
  ∃ a11 : Addr, (v2.ptr = some a11 ∧ 0 ≤ s5 ∧ s5 < ((v2.len : Nat) : Int)) ∧
  Runs Try.prog (Instr.storeAt 3 (.pointer (some (a11.add (s5.toNat * 1)))) (.int .i64 x8)) h6 fun _ h7 =>
  (Held.ok [] h7) ∧
  ∃ a12 : Addr, (v2.ptr = some a12 ∧ 0 ≤ (IntKind.wrap .i64 (s5 + r6)) ∧ (IntKind.wrap .i64 (s5 + r6)) < ((v2.len : Nat) : Int)) ∧
  Runs Try.prog (Instr.storeAt 3 (.pointer (some (a12.add ((IntKind.wrap .i64 (s5 + r6)).toNat * 1)))) (.int .i64 x10)) h7 fun _ h8 =>
  (Held.ok [] h8) ∧
  K3 (IntKind.wrap .i64 (s5 + (1 : Int))) h8)
  ((0 ≤ k_2 ∧ k_2 ≤ ((v2.cap : Nat) : Int)) ∧
  CallM Try.prog 32 #[(.slice v2.ptr k_2.toNat v2.cap)] (.one (.sc .slc)) h5 fun r13 h9 =>
  CallM Try.prog 77 #[(.slice r13.ptr r13.len r13.cap)] (.many []) h9 fun _ h10 =>
  R (.slice r13.ptr r13.len r13.cap) h10)) (0 : Int) h3)) (0 : Int) h2)
  (fun K1 =>
  Br (decide (n_1 < (0 : Int))) (R (.slice none 0 0) h) (Br (decide (n_1 > (64 : Int))) (R (.slice none 0 0) h) (Br (decide (k_2 < (0 : Int))) (R (.slice none 0 0) h) (Br (decide (k_2 > n_1))
  (R (.slice none 0 0) h)
  (K1 () h)))))
noncomputable def choose_Some_ann : Ann := (.two .n (.two (.join [] [(6, 7), (12, 27)] .n) (.two .n (.two (.two .n (.inn (.loop [(31, (.sc (.int .i64)))] [(8, 9), (31, 39)] .n))) (.two (.two .n (.inn (.loop [(40, (.sc (.int .i64)))] [(9, 11), (40, 65)] .n))) .n)))))
theorem choose_Some_eq (d_0 : Option Addr) (n_1 : Int) (k_2 : Int) (R : Value → Heap → Prop) (h : Heap) : fnV C Try.f71 300 choose_Some_ann [(.pointer d_0), (.int .i64 n_1), (.int .i64 k_2)] R h = choose_Some_m d_0 n_1 k_2 R h := by kernel_rfl
theorem choose_Some_run (d_0 : Option Addr) (n_1 : Int) (k_2 : Int) {R : Value → Heap → Prop} {h : Heap} (hm : choose_Some_m d_0 n_1 k_2 R h) : Meets Try.prog 71 #[(.pointer d_0), (.int .i64 n_1), (.int .i64 k_2)] h R :=
  fn_spec C_ok (f := 71) (fn := Try.f71) (args := [(.pointer d_0), (.int .i64 n_1), (.int .i64 k_2)]) Try.func71 (by rw [Try.ntmps71]; exact Nat.le_of_ble_eq_true rfl) (cast (choose_Some_eq d_0 n_1 k_2 R h).symm hm)
/-- wellspring/row.sure -/
abbrev row_sure_id : FuncId := 72
noncomputable def row_sure_m (f_0 : Option Addr) (R : Value → Heap → Prop) (h : Heap) : Prop :=
  Br (Option.isNone f_0)
  (CallM Try.prog 21 #[] (.one (.sc .ptr)) h fun r1 h1 =>
  R (.pointer r1) h1)
  (R (.pointer f_0) h)
noncomputable def row_sure_ann : Ann := .n
theorem row_sure_eq (f_0 : Option Addr) (R : Value → Heap → Prop) (h : Heap) : fnV C Try.f72 300 row_sure_ann [(.pointer f_0)] R h = row_sure_m f_0 R h := by kernel_rfl
theorem row_sure_run (f_0 : Option Addr) {R : Value → Heap → Prop} {h : Heap} (hm : row_sure_m f_0 R h) : Meets Try.prog 72 #[(.pointer f_0)] h R :=
  fn_spec C_ok (f := 72) (fn := Try.f72) (args := [(.pointer f_0)]) Try.func72 (by rw [Try.ntmps72]; exact Nat.le_of_ble_eq_true rfl) (cast (row_sure_eq f_0 R h).symm hm)
/-- (*wellspring/gf.Field).Mul -/
abbrev gf_Field_Mul_id : FuncId := 73
noncomputable def gf_Field_Mul_m (f_0 : Option Addr) (a_1 : Int) (b_2 : Int) (R : Value → Heap → Prop) (h : Heap) : Prop :=
  JoinM (σ := Unit) (fun _ h1 =>
  CallM Try.prog 50 #[(.pointer f_0)] (.one (.sc .ptr)) h1 fun r2 h2 =>
  ∃ a3 : Addr, (r2 = some a3) ∧
  (0 ≤ a_1 ∧ a_1 < ((256 : Nat) : Int)) ∧
  ∃ x4 : Int, cellOf h2 ((a3.add 255).add (a_1.toNat * 1)) = some (.int .i64 x4) ∧
  ∃ a5 : Addr, (r2 = some a5) ∧
  (0 ≤ b_2 ∧ b_2 < ((256 : Nat) : Int)) ∧
  ∃ x6 : Int, cellOf h2 ((a5.add 255).add (b_2.toNat * 1)) = some (.int .i64 x6) ∧
  ((255 : Int) ≠ 0) ∧
  ∃ a7 : Addr, (r2 = some a7) ∧
  (0 ≤ (Int.tmod (IntKind.wrap .i64 (x4 + x6)) (255 : Int)) ∧ (Int.tmod (IntKind.wrap .i64 (x4 + x6)) (255 : Int)) < ((255 : Nat) : Int)) ∧
  ∃ x8 : Int, cellOf h2 (a7.add ((Int.tmod (IntKind.wrap .i64 (x4 + x6)) (255 : Int)).toNat * 1)) = some (.int .u8 x8) ∧
  R (.int .u8 x8) h2)
  (fun K1 =>
  Br (a_1 == (0 : Int)) (R (.int .u8 (0 : Int)) h) (Br (b_2 == (0 : Int))
  (R (.int .u8 (0 : Int)) h)
  (K1 () h)))
noncomputable def gf_Field_Mul_ann : Ann := (.two .n (.two (.join [] [(6, 7), (8, 14)] .n) .n))
theorem gf_Field_Mul_eq (f_0 : Option Addr) (a_1 : Int) (b_2 : Int) (R : Value → Heap → Prop) (h : Heap) : fnV C Try.f73 300 gf_Field_Mul_ann [(.pointer f_0), (.int .u8 a_1), (.int .u8 b_2)] R h = gf_Field_Mul_m f_0 a_1 b_2 R h := by kernel_rfl
theorem gf_Field_Mul_run (f_0 : Option Addr) (a_1 : Int) (b_2 : Int) {R : Value → Heap → Prop} {h : Heap} (hm : gf_Field_Mul_m f_0 a_1 b_2 R h) : Meets Try.prog 73 #[(.pointer f_0), (.int .u8 a_1), (.int .u8 b_2)] h R :=
  fn_spec C_ok (f := 73) (fn := Try.f73) (args := [(.pointer f_0), (.int .u8 a_1), (.int .u8 b_2)]) Try.func73 (by rw [Try.ntmps73]; exact Nat.le_of_ble_eq_true rfl) (cast (gf_Field_Mul_eq f_0 a_1 b_2 R h).symm hm)
/-- wellspring/soliton.Degree -/
abbrev soliton_Degree_id : FuncId := 74
noncomputable def soliton_Degree_m (t_0 : Sl) (x_1 : Int) (R : Value → Heap → Prop) (h : Heap) : Prop :=
  JoinM (σ := Unit) (fun _ h1 =>
  LoopM (σ := Int) (fun s4 K2 h2 =>
  Br (decide (s4 < ((t_0.len : Nat) : Int)))
  (∃ a5 : Addr, (t_0.ptr = some a5 ∧ 0 ≤ s4 ∧ s4 < ((t_0.len : Nat) : Int)) ∧
  ∃ x6 : Int, cellOf h2 (a5.add (s4.toNat * 1)) = some (.int .i64 x6) ∧
  Br (decide (x6 > x_1))
  (R (.int .i64 (IntKind.wrap .i64 (s4 + (1 : Int)))) h2)
  (K2 (IntKind.wrap .i64 (s4 + (1 : Int))) h2))
  (R (.int .i64 (0 : Int)) h2)) (0 : Int) h1)
  (fun K1 =>
  Br (((t_0.len : Nat) : Int) == (0 : Int)) (R (.int .i64 (0 : Int)) h) (Br (decide (x_1 < (0 : Int))) (R (.int .i64 (0 : Int)) h) (∃ a1 : Addr, (t_0.ptr = some a1 ∧ 0 ≤ (IntKind.wrap .i64 (((t_0.len : Nat) : Int) - (1 : Int))) ∧ (IntKind.wrap .i64 (((t_0.len : Nat) : Int) - (1 : Int))) < ((t_0.len : Nat) : Int)) ∧
  ∃ x2 : Int, cellOf h (a1.add ((IntKind.wrap .i64 (((t_0.len : Nat) : Int) - (1 : Int))).toNat * 1)) = some (.int .i64 x2) ∧
  Br (decide (x_1 ≥ x2))
  (R (.int .i64 (0 : Int)) h)
  (K1 () h))))
noncomputable def soliton_Degree_ann : Ann := (.two .n (.two (.join [] [(4, 5), (7, 24)] .n) (.two (.two .n (.inn (.loop [(26, (.sc (.int .i64)))] [(4, 7), (26, 37)] .n))) .n)))
theorem soliton_Degree_eq (t_0 : Sl) (x_1 : Int) (R : Value → Heap → Prop) (h : Heap) : fnV C Try.f74 300 soliton_Degree_ann [(.slice t_0.ptr t_0.len t_0.cap), (.int .i64 x_1)] R h = soliton_Degree_m t_0 x_1 R h := by kernel_rfl
theorem soliton_Degree_run (t_0 : Sl) (x_1 : Int) {R : Value → Heap → Prop} {h : Heap} (hm : soliton_Degree_m t_0 x_1 R h) : Meets Try.prog 74 #[(.slice t_0.ptr t_0.len t_0.cap), (.int .i64 x_1)] h R :=
  fn_spec C_ok (f := 74) (fn := Try.f74) (args := [(.slice t_0.ptr t_0.len t_0.cap), (.int .i64 x_1)]) Try.func74 (by rw [Try.ntmps74]; exact Nat.le_of_ble_eq_true rfl) (cast (soliton_Degree_eq t_0 x_1 R h).symm hm)
/-- (*wellspring/draw.Draw).Below -/
abbrev draw_Draw_Below_id : FuncId := 75
noncomputable def draw_Draw_Below_m (d_0 : Option Addr) (n_1 : Int) (R : Value → Heap → Prop) (h : Heap) : Prop :=
  JoinM (σ := Unit) (fun _ h1 =>
  CallM Try.prog 68 #[(.pointer d_0)] (.one (.sc (.int .u32))) h1 fun r2 h2 =>
  ((IntKind.wrap .u64 n_1) ≠ 0) ∧
  R (.int .i64 (IntKind.wrap .i64 (Int.tmod (IntKind.wrap .u64 r2) (IntKind.wrap .u64 n_1)))) h2)
  (fun K1 =>
  Br (Option.isNone d_0) (R (.int .i64 (0 : Int)) h) (Br (decide (n_1 ≤ (0 : Int)))
  (R (.int .i64 (0 : Int)) h)
  (K1 () h)))
noncomputable def draw_Draw_Below_ann : Ann := (.two .n (.two (.join [] [(4, 11)] .n) .n))
theorem draw_Draw_Below_eq (d_0 : Option Addr) (n_1 : Int) (R : Value → Heap → Prop) (h : Heap) : fnV C Try.f75 300 draw_Draw_Below_ann [(.pointer d_0), (.int .i64 n_1)] R h = draw_Draw_Below_m d_0 n_1 R h := by kernel_rfl
theorem draw_Draw_Below_run (d_0 : Option Addr) (n_1 : Int) {R : Value → Heap → Prop} {h : Heap} (hm : draw_Draw_Below_m d_0 n_1 R h) : Meets Try.prog 75 #[(.pointer d_0), (.int .i64 n_1)] h R :=
  fn_spec C_ok (f := 75) (fn := Try.f75) (args := [(.pointer d_0), (.int .i64 n_1)]) Try.func75 (by rw [Try.ntmps75]; exact Nat.le_of_ble_eq_true rfl) (cast (draw_Draw_Below_eq d_0 n_1 R h).symm hm)
/-- wellspring/soliton.weight -/
abbrev soliton_weight_id : FuncId := 76
noncomputable def soliton_weight_m (l_0 : Int) (k_1 : Int) (R : Value → Heap → Prop) (h : Heap) : Prop :=
  CallM Try.prog 78 #[(.int .i64 l_0)] (.one (.sc (.int .i64))) h fun r1 h1 =>
  (l_0 ≠ 0) ∧
  JoinM (σ := Int) (fun s2 h2 =>
  JoinM (σ := Int) (fun s4 h4 =>
  R (.int .i64 s4) h4)
  (fun K2 =>
  (r1 ≠ 0) ∧
  Br (decide (k_1 < (IntKind.wrap .i64 (Int.tdiv l_0 r1))))
  (((IntKind.wrap .i64 (l_0 * k_1)) ≠ 0) ∧
  K2 (IntKind.wrap .i64 (s2 + (IntKind.wrap .i64 (Int.tdiv (IntKind.wrap .i64 ((1048576 : Int) * r1)) (IntKind.wrap .i64 (l_0 * k_1)))))) h2)
  (Br (k_1 == (IntKind.wrap .i64 (Int.tdiv l_0 r1)))
  (CallM Try.prog 79 #[(.int .u64 (IntKind.wrap .u64 r1))] (.one (.sc (.int .i64))) h2 fun r3 h3 =>
  (l_0 ≠ 0) ∧
  K2 (IntKind.wrap .i64 (s2 + (IntKind.wrap .i64 (Int.tdiv (IntKind.wrap .i64 ((IntKind.wrap .i64 ((1048576 : Int) * r1)) * r3)) l_0)))) h3)
  (K2 s2 h2))))
  (fun K1 =>
  Br (decide (k_1 > (1 : Int)))
  (((IntKind.wrap .i64 (k_1 * (IntKind.wrap .i64 (k_1 - (1 : Int))))) ≠ 0) ∧
  K1 (IntKind.wrap .i64 (Int.tdiv (1048576 : Int) (IntKind.wrap .i64 (k_1 * (IntKind.wrap .i64 (k_1 - (1 : Int))))))) h1)
  (K1 (IntKind.wrap .i64 (Int.tdiv (1048576 : Int) l_0)) h1))
noncomputable def soliton_weight_ann : Ann := (.two .n (.two .n (.two .n (.two (.join [(6, (.sc (.int .i64)))] [(6, 7), (12, 19)] .n) (.two (.join [(6, (.sc (.int .i64)))] [(6, 8), (19, 48)] .n) .n)))))
theorem soliton_weight_eq (l_0 : Int) (k_1 : Int) (R : Value → Heap → Prop) (h : Heap) : fnV C Try.f76 300 soliton_weight_ann [(.int .i64 l_0), (.int .i64 k_1)] R h = soliton_weight_m l_0 k_1 R h := by kernel_rfl
theorem soliton_weight_run (l_0 : Int) (k_1 : Int) {R : Value → Heap → Prop} {h : Heap} (hm : soliton_weight_m l_0 k_1 R h) : Meets Try.prog 76 #[(.int .i64 l_0), (.int .i64 k_1)] h R :=
  fn_spec C_ok (f := 76) (fn := Try.f76) (args := [(.int .i64 l_0), (.int .i64 k_1)]) Try.func76 (by rw [Try.ntmps76]; exact Nat.le_of_ble_eq_true rfl) (cast (soliton_weight_eq l_0 k_1 R h).symm hm)
/-- wellspring/soliton.root -/
abbrev soliton_root_id : FuncId := 78
noncomputable def soliton_root_m (l_0 : Int) (R : Value → Heap → Prop) (h : Heap) : Prop :=
  LoopM (σ := Int) (fun s1 K1 h1 =>
  Br (decide ((IntKind.wrap .i64 (s1 * s1)) < l_0))
  (K1 (IntKind.wrap .i64 (s1 + (1 : Int))) h1)
  (R (.int .i64 s1) h1)) (0 : Int) h
noncomputable def soliton_root_ann : Ann := (.two .n (.two .n (.two (.inn (.loop [(3, (.sc (.int .i64)))] [(3, 11)] .n)) .n)))
theorem soliton_root_eq (l_0 : Int) (R : Value → Heap → Prop) (h : Heap) : fnV C Try.f78 300 soliton_root_ann [(.int .i64 l_0)] R h = soliton_root_m l_0 R h := by kernel_rfl
theorem soliton_root_run (l_0 : Int) {R : Value → Heap → Prop} {h : Heap} (hm : soliton_root_m l_0 R h) : Meets Try.prog 78 #[(.int .i64 l_0)] h R :=
  fn_spec C_ok (f := 78) (fn := Try.f78) (args := [(.int .i64 l_0)]) Try.func78 (by rw [Try.ntmps78]; exact Nat.le_of_ble_eq_true rfl) (cast (soliton_root_eq l_0 R h).symm hm)
end Go.Proofs.Ytmadbodaleaaeaa
